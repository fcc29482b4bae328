import PyProof.Rows.All
import Wide.All
import OpenK.AllK
import Wide.FinOn
import HandS.ForMost
import HandS.Gcd
import HandS.IsInst
import HandS.Wide
import PySem.Challenge.RW_plateheaps_k30_whole_heaps_over_one_anot
import KE.KDictKeyed
import HandS.DictComp
import HandS.ListItems
import HandS.OwnEq
import KE.KDictWalk
import HandS.SortRule
import HandS.Style
import HandS.Zip
import HandS.TupAny
import HandS.Star
import KE.KOpsOwn
import PyProof.InstNe
import PyProof.ListMulRight
import KE.KEqDict
import KE.KItemsList
import HandS.Deep
import HandS.NoneIn
import HandS.EndBits
/-! Geo: points of the plane in homogeneous whole numbers, functionals, convex hulls by functionals; the chain. -/
namespace Pz
structure Pt where
  x : Int
  y : Int
  d : Int
deriving DecidableEq

/-- a functional a x + b y + c d -/
structure Ln where
  a : Int
  b : Int
  c : Int
deriving DecidableEq

@[reducible] def ev (l : Ln) (p : Pt) : Int := l.a * p.x + l.b * p.y + l.c * p.d
@[reducible] def det (p q r : Pt) : Int := p.x * (q.y * r.d - q.d * r.y) - p.y * (q.x * r.d - q.d * r.x) + p.d * (q.x * r.y - q.y * r.x)
@[reducible] def dX (p q : Pt) : Int := q.x * p.d - p.x * q.d
@[reducible] def dY (p q : Pt) : Int := q.y * p.d - p.y * q.d
/-- the functional det p q . -/
def side (p q : Pt) : Ln := ⟨p.y * q.d - p.d * q.y, p.d * q.x - p.x * q.d, p.x * q.y - p.y * q.x⟩
theorem ev_side (p q r : Pt) : ev (side p q) r = det p q r := by
  simp only [side, ev, det]; grind

theorem cramer (l : Ln) (p q r s : Pt) : det p q r * ev l s = det s q r * ev l p + det p s r * ev l q + det p q s * ev l r := by
  simp only [det, ev]; grind
theorem midX (l : Ln) (a p b : Pt) : dX a p * ev l b = dX b p * ev l a + dX a b * ev l p + det a p b * l.b := by
  simp only [det, ev, dX]; grind
theorem midY (l : Ln) (a p b : Pt) : dY a p * ev l b = dY b p * ev l a + dY a b * ev l p - det a p b * l.a := by
  simp only [det, ev, dY]; grind
theorem plA (a b c p : Pt) : dX b c * det a b p = dX b p * det a b c + dX a b * det b c p := by
  simp only [det, dX]; grind
theorem plB (a b c p : Pt) : dX b c * det a c p = dX a c * det b c p + dX c p * det a b c := by
  simp only [det, dX]; grind
theorem detXY (b c p : Pt) : b.d * det b c p = dX b c * dY b p - dY b c * dX b p := by
  simp only [det, dX, dY]; grind
theorem det_rot (a b c : Pt) : det b c a = det a b c := by simp only [det]; grind
theorem det_swap (a b c : Pt) : det a c b = - det a b c := by simp only [det]; grind
theorem det_swap' (a b c : Pt) : det b a c = - det a b c := by simp only [det]; grind
theorem det_aa (a b : Pt) : det a a b = 0 := by simp only [det]; grind
theorem det_aba (a b : Pt) : det a b a = 0 := by simp only [det]; grind
theorem det_abb (a b : Pt) : det a b b = 0 := by simp only [det]; grind

/-! ### signs -/
theorem pos_of_mul {a b : Int} (ha : 0 < a) (h : 0 < a * b) : 0 < b := by
  rcases Int.lt_or_le 0 b with q | q
  · exact q
  · have := Int.mul_nonpos_of_nonneg_of_nonpos (Int.le_of_lt ha) q; omega
theorem nonneg_of_mul {a b : Int} (ha : 0 < a) (h : 0 ≤ a * b) : 0 ≤ b := by
  rcases Int.lt_or_le b 0 with q | q
  · have := Int.mul_neg_of_pos_of_neg ha q; omega
  · exact q
theorem zero_of_mul {a b : Int} (ha : 0 < a) (h : a * b = 0) : b = 0 := by
  rcases Int.mul_eq_zero.mp h with q | q
  · omega
  · exact q

/-! ### places -/
/-- a place in its form -/
def Can (p : Pt) : Prop := 0 < p.d ∧ Int.gcd (Int.gcd p.x p.y) p.d = 1
/-- the same place -/
def Eqv (p q : Pt) : Prop := dX p q = 0 ∧ dY p q = 0
theorem Can.pos {p : Pt} (h : Can p) : 0 < p.d := h.1
/-- ascending: strictly -/
def Lt (p q : Pt) : Prop := 0 < dX p q ∨ (dX p q = 0 ∧ 0 < dY p q)
instance (p q : Pt) : Decidable (Lt p q) := inferInstanceAs (Decidable (_ ∨ _))

theorem dX_trans (a b c : Pt) : b.d * dX a c = c.d * dX a b + a.d * dX b c := by simp only [dX]; grind
theorem dY_trans (a b c : Pt) : b.d * dY a c = c.d * dY a b + a.d * dY b c := by simp only [dY]; grind
theorem dX_neg (a b : Pt) : dX b a = - dX a b := by simp only [dX]; grind
theorem dY_neg (a b : Pt) : dY b a = - dY a b := by simp only [dY]; grind
theorem Lt.trans {a b c : Pt} (ha : 0 < a.d) (hb : 0 < b.d) (hc : 0 < c.d) (h1 : Lt a b) (h2 : Lt b c) : Lt a c := by
  have eX := dX_trans a b c
  have eY := dY_trans a b c
  rcases h1 with h1 | ⟨h1, h1'⟩
  · left
    have q1 : 0 < c.d * dX a b := Int.mul_pos hc h1
    have q2 : 0 ≤ a.d * dX b c := Int.mul_nonneg (by omega) (by rcases h2 with h2 | h2 <;> omega)
    exact pos_of_mul hb (by omega)
  · rcases h2 with h2 | ⟨h2, h2'⟩
    · left
      have q1 : 0 < a.d * dX b c := Int.mul_pos ha h2
      exact pos_of_mul hb (by rw [eX, h1]; omega)
    · right
      refine ⟨zero_of_mul hb (by rw [eX, h1, h2]; omega), pos_of_mul hb ?_⟩
      have q1 := Int.mul_pos hc h1'
      have q2 := Int.mul_pos ha h2'
      omega
theorem Lt.asymm {a b : Pt} (h1 : Lt a b) (h2 : Lt b a) : False := by
  have e1 := dX_neg a b
  have e2 := dY_neg a b
  rcases h1 with h1 | ⟨h1, h1'⟩ <;> rcases h2 with h2 | ⟨h2, h2'⟩ <;> omega
theorem Lt.irrefl {a : Pt} (h : Lt a a) : False := Lt.asymm h h
theorem dX_self (a : Pt) : dX a a = 0 := by simp only [dX]; grind
theorem dY_self (a : Pt) : dY a a = 0 := by simp only [dY]; grind
theorem dvd_of_can {p q : Pt} (hq : Can q) (h : Eqv p q) : q.d ∣ p.d := by
  have h1 : q.x * p.d = p.x * q.d := by have := h.1; simp only [dX] at this; omega
  have h2 : q.y * p.d = p.y * q.d := by have := h.2; simp only [dY] at this; omega
  -- q.d divides gcd (q.x p.d, q.y p.d, q.d p.d) = p.d
  have a1 : q.d ∣ q.x * p.d := ⟨p.x, by rw [h1, Int.mul_comm]⟩
  have a2 : q.d ∣ q.y * p.d := ⟨p.y, by rw [h2, Int.mul_comm]⟩
  have a3 : q.d ∣ q.d * p.d := ⟨p.d, rfl⟩
  have b1 : q.d.natAbs ∣ (q.x * p.d).natAbs := Int.natAbs_dvd_natAbs.mpr a1
  have b2 : q.d.natAbs ∣ (q.y * p.d).natAbs := Int.natAbs_dvd_natAbs.mpr a2
  have b3 : q.d.natAbs ∣ (q.d * p.d).natAbs := Int.natAbs_dvd_natAbs.mpr a3
  rw [Int.natAbs_mul] at b1 b2 b3
  have c1 := Nat.dvd_gcd (Nat.dvd_gcd b1 b2) b3
  rw [Nat.gcd_mul_right, Nat.gcd_mul_right] at c1
  have e : ((q.x.natAbs.gcd q.y.natAbs).gcd q.d.natAbs) = 1 := hq.2
  rw [e, Nat.one_mul] at c1
  exact Int.natAbs_dvd_natAbs.mp c1
theorem Eqv.symm {p q : Pt} (h : Eqv p q) : Eqv q p := ⟨by rw [dX_neg, h.1]; rfl, by rw [dY_neg, h.2]; rfl⟩
theorem eq_of_can {p q : Pt} (hp : Can p) (hq : Can q) (h : Eqv p q) : p = q := by
  have d1 := dvd_of_can hq h
  have d2 := dvd_of_can hp h.symm
  have e : p.d = q.d := Int.dvd_antisymm (Int.le_of_lt hp.1) (Int.le_of_lt hq.1) d2 d1
  have h1 := h.1
  have h2 := h.2
  simp only [dX, dY, e] at h1 h2
  have hq := hq.1
  have ex : p.x = q.x := by
    have : q.d * (q.x - p.x) = 0 := by grind
    have := zero_of_mul hq this
    omega
  have ey : p.y = q.y := by
    have : q.d * (q.y - p.y) = 0 := by grind
    have := zero_of_mul hq this
    omega
  cases p; cases q; simp_all
theorem Lt.total {p q : Pt} (hp : Can p) (hq : Can q) : Lt p q ∨ p = q ∨ Lt q p := by
  have e1 := dX_neg p q
  have e2 := dY_neg p q
  by_cases h : Eqv p q
  · exact .inr (.inl (eq_of_can hp hq h))
  · have : dX p q ≠ 0 ∨ dY p q ≠ 0 := by
      rcases Decidable.em (dX p q = 0) with a | a
      · exact .inr fun b => h ⟨a, b⟩
      · exact .inl a
    unfold Lt
    omega
theorem Lt.ne {p q : Pt} (h : Lt p q) : p ≠ q := fun e => by subst e; exact h.irrefl

/-! ### the hull by functionals -/
/-- q is in the hull of L -/
def InC (L : List Pt) (q : Pt) : Prop := ∀ l : Ln, (∀ p ∈ L, 0 ≤ ev l p) → 0 ≤ ev l q
theorem InC.mem {L : List Pt} {q : Pt} (h : q ∈ L) : InC L q := fun _ k => k q h
theorem InC.mono {L M : List Pt} {q : Pt} (h : InC L q) (k : ∀ p ∈ L, InC M p) : InC M q := fun l z => h l fun p hp => k p hp l z
theorem InC.nil {q : Pt} (hq : 0 < q.d) : ¬ InC [] q := fun h => by
  have := h ⟨0, 0, -1⟩ (fun _ z => nomatch z)
  simp only [ev] at this
  omega

/-! ### the chain: a list, the last place first -/
/-- b, between a and p, on or above the way from a to p -/
theorem pop_ok {l : Ln} {a b p : Pt} (hb : 0 ≤ l.b) (ha : 0 < a.d) (hbd : 0 < b.d) (hp : 0 < p.d) (h1 : Lt a b) (h2 : Lt b p) (t : det a b p ≤ 0) (ea : 0 ≤ ev l a) (ep : 0 ≤ ev l p) : 0 ≤ ev l b := by
  have h3 := Lt.trans ha hbd hp h1 h2
  have e := midX l a p b
  have es := det_swap a b p
  have x1 : 0 ≤ dX a b := by rcases h1 with h | h <;> omega
  have x2 : 0 ≤ dX b p := by rcases h2 with h | h <;> omega
  rcases h3 with h3 | ⟨h3, h3'⟩
  · refine nonneg_of_mul h3 ?_
    rw [e]
    have q1 := Int.mul_nonneg x2 ea
    have q2 := Int.mul_nonneg x1 ep
    have q3 : 0 ≤ det a p b * l.b := Int.mul_nonneg (by omega) hb
    omega
  · -- a vertical line
    have eX := dX_trans a b p
    rw [h3] at eX
    have y1 := Int.mul_nonneg (Int.le_of_lt hp) x1
    have y2 := Int.mul_nonneg (Int.le_of_lt ha) x2
    have z1 : dX a b = 0 := zero_of_mul hp (by omega)
    have z2 : dX b p = 0 := zero_of_mul ha (by omega)
    have w1 : 0 < dY a b := by rcases h1 with h | h <;> omega
    have w2 : 0 < dY b p := by rcases h2 with h | h <;> omega
    have t0 : det a p b = 0 := by
      have := detXY a p b
      rw [h3, z1] at this
      exact zero_of_mul ha (by omega)
    have eY := midY l a p b
    rw [t0] at eY
    refine nonneg_of_mul h3' ?_
    rw [eY]
    have q1 := Int.mul_nonneg (Int.le_of_lt w2) ea
    have q2 := Int.mul_nonneg (Int.le_of_lt w1) ep
    omega
/-- the chain turns on -/
theorem turn_on {a b c p : Pt} (ha : 0 < a.d) (hb : 0 < b.d) (hc : 0 < c.d) (hp : 0 < p.d) (h1 : Lt a b) (h2 : Lt b c) (h3 : Lt c p) (t1 : 0 < det a b c) (t2 : 0 < det b c p) : 0 < det a b p ∧ 0 < det a c p := by
  have x1 : 0 ≤ dX a b := by rcases h1 with h | h <;> omega
  have x3 : 0 ≤ dX c p := by rcases h3 with h | h <;> omega
  have h4 := Lt.trans hb hc hp h2 h3
  have x4 : 0 ≤ dX b p := by rcases h4 with h | h <;> omega
  rcases h2 with h2 | ⟨h2, h2'⟩
  · have eA := plA a b c p
    have eB := plB a b c p
    have eX := dX_trans b c p
    have xbp : 0 < dX b p := by
      refine pos_of_mul hc ?_
      rw [eX]
      have := Int.mul_pos hp h2
      have := Int.mul_nonneg (Int.le_of_lt hb) x3
      omega
    have xac : 0 < dX a c := by
      have := dX_trans a b c
      refine pos_of_mul hb ?_
      rw [this]
      have := Int.mul_pos ha h2
      have := Int.mul_nonneg (Int.le_of_lt hc) x1
      omega
    refine ⟨pos_of_mul h2 ?_, pos_of_mul h2 ?_⟩
    · rw [eA]
      have := Int.mul_pos xbp t1
      have := Int.mul_nonneg x1 (Int.le_of_lt t2)
      omega
    · rw [eB]
      have q3 := Int.mul_nonneg x3 (Int.le_of_lt t1)
      have := Int.mul_pos xac t2
      omega
  · exfalso
    have := detXY b c p
    rw [h2] at this
    have q1 := Int.mul_nonneg (Int.le_of_lt h2') x4
    have q2 := Int.mul_pos hb t2
    omega

def push (p : Pt) : List Pt → List Pt
  | b :: a :: r => if det a b p ≤ 0 then push p (a :: r) else p :: b :: a :: r
  | [b] => [p, b]
  | [] => [p]
termination_by l => l.length

/-- every triple turns to the left (the last place first) -/
def Conv : List Pt → Prop
  | [] => True
  | p :: S => S.Pairwise (fun y z => 0 < det z y p) ∧ Conv S
abbrev Desc (S : List Pt) : Prop := S.Pairwise fun a b => Lt b a
abbrev PosD (S : List Pt) : Prop := ∀ p ∈ S, 0 < p.d

theorem Conv.suffix : ∀ {S T : List Pt}, T <:+ S → Conv S → Conv T
  | [], T, h, _ => by rw [List.suffix_nil.mp h]; trivial
  | p :: S, T, h, c => by
    rcases List.suffix_cons_iff.mp h with e | e
    · rw [e]; exact c
    · exact Conv.suffix e c.2

theorem push_spec (p : Pt) (hp : 0 < p.d) : ∀ S : List Pt, Desc S → Conv S → PosD S → (∀ s ∈ S, Lt s p) →
    ∃ S', push p S = p :: S' ∧ S' <:+ S ∧ (S ≠ [] → S' ≠ []) ∧ Conv (p :: S') ∧ ∀ l : Ln, 0 ≤ l.b → (∀ s ∈ p :: S', 0 ≤ ev l s) → ∀ s ∈ S, 0 ≤ ev l s
  | [], _, _, _, _ => ⟨[], by rw [push], List.suffix_refl _, fun h => h, ⟨List.Pairwise.nil, trivial⟩, fun _ _ _ _ z => nomatch z⟩
  | [b], _, _, _, _ => ⟨[b], by rw [push], List.suffix_refl _, fun h => h, ⟨List.pairwise_singleton _ _, List.Pairwise.nil, trivial⟩, fun _ _ z s m => z s (List.mem_cons_of_mem _ m)⟩
  | b :: a :: r, hd, hc, hpos, hlt => by
    have hb := hpos b (by simp)
    have ha := hpos a (by simp)
    have lab : Lt a b := (List.pairwise_cons.mp hd).1 a (by simp)
    have lbp : Lt b p := hlt b (by simp)
    by_cases t : det a b p ≤ 0
    · obtain ⟨S', e, sf, ne, cv, dm⟩ := push_spec p hp (a :: r) (List.pairwise_cons.mp hd).2 hc.2 (fun q m => hpos q (List.mem_cons_of_mem _ m)) (fun q m => hlt q (List.mem_cons_of_mem _ m))
      refine ⟨S', by rw [push, if_pos t, e], sf.trans (List.suffix_cons _ _), fun _ => ne (by simp), cv, fun l lb h s m => ?_⟩
      have k := dm l lb h
      rcases List.mem_cons.mp m with rfl | m
      · exact pop_ok lb ha hb hp lab lbp t (k a (by simp)) (h p (by simp))
      · exact k s m
    · refine ⟨b :: a :: r, by rw [push, if_neg t], List.suffix_refl _, fun h => h, ⟨?_, hc⟩, fun _ _ z s m => z s (List.mem_cons_of_mem _ m)⟩
      have t' : 0 < det a b p := by omega
      have one : ∀ z ∈ a :: r, 0 < det z b p ∧ (z ≠ a → 0 < det z a p) := fun z m => by
        rcases List.mem_cons.mp m with rfl | m
        · exact ⟨t', fun h => absurd rfl h⟩
        · have lza : Lt z a := (List.pairwise_cons.mp (List.pairwise_cons.mp hd).2).1 z m
          have q := turn_on (hpos z (by simp [m])) ha hb hp lza lab lbp ((List.pairwise_cons.mp hc.1).1 z m) t'
          exact ⟨q.2, fun _ => q.1⟩
      refine List.pairwise_cons.mpr ⟨fun z m => (one z m).1, ?_⟩
      have both := List.Pairwise.and hc.1 (List.pairwise_cons.mp hd).2
      refine List.Pairwise.imp_of_mem (fun {y z} my mz h => ?_) both
      have lyb : Lt y b := (List.pairwise_cons.mp hd).1 y my
      exact (turn_on (hpos z (List.mem_cons_of_mem _ mz)) (hpos y (List.mem_cons_of_mem _ my)) hb hp h.2 lyb lbp h.1 (one y my).1).1
termination_by S => S.length

/-- the chain of ascending places, the last one first -/
def chainR (L : List Pt) : List Pt := L.foldl (fun s p => push p s) []
/-- ascending, each once -/
abbrev Asc (L : List Pt) : Prop := L.Pairwise Lt

structure ChainOf (L S : List Pt) : Prop where
  sub : ∀ s ∈ S, s ∈ L
  desc : Desc S
  conv : Conv S
  dom : ∀ l : Ln, 0 ≤ l.b → (∀ s ∈ S, 0 ≤ ev l s) → ∀ q ∈ L, 0 ≤ ev l q
  head : S.head? = L.getLast?
  last : S.getLast? = L.head?

theorem ChainOf.push {L S : List Pt} {p : Pt} (h : ChainOf L S) (hp : 0 < p.d) (hpos : PosD L) (hlt : ∀ s ∈ L, Lt s p) : ChainOf (L ++ [p]) (push p S) := by
  obtain ⟨S', e, sf, ne, cv, dm⟩ := push_spec p hp S h.desc h.conv (fun q m => hpos q (h.sub q m)) (fun q m => hlt q (h.sub q m))
  rw [e]
  refine ⟨fun s m => ?_, List.pairwise_cons.mpr ⟨fun s m => hlt s (h.sub s (sf.subset m)), List.Pairwise.sublist sf.sublist h.desc⟩, cv, fun l lb k q m => ?_, by simp, ?_⟩
  · rcases List.mem_cons.mp m with rfl | m
    · simp
    · exact List.mem_append_left _ (h.sub s (sf.subset m))
  · rcases List.mem_append.mp m with m | m
    · exact h.dom l lb (dm l lb k) q m
    · rw [List.mem_singleton.mp m]; exact k p (by simp)
  · cases S with
    | nil =>
      have : S' = [] := List.suffix_nil.mp sf
      subst this
      have hl := h.last
      cases L with
      | nil => simp
      | cons a r => simp at hl
    | cons b r =>
      have n := ne (by simp)
      have hl := h.last
      cases L with
      | nil => simp at hl
      | cons a r' =>
        rw [show (a :: r' ++ [p]).head? = (a :: r').head? from rfl, ← hl]
        obtain ⟨t, et⟩ := sf
        rw [← et]
        cases S' with
        | nil => exact absurd rfl n
        | cons c u => simp [List.getLast?_cons, List.getLast?_append]
theorem chain_spec (L : List Pt) (ha : Asc L) (hpos : PosD L) : ChainOf L (chainR L) := by
  suffices h : ∀ (R A S : List Pt), ChainOf A S → Asc (A ++ R) → PosD (A ++ R) → ChainOf (A ++ R) (R.foldl (fun s p => Pz.push p s) S) by
    exact h L [] [] ⟨fun _ z => (nomatch z), List.Pairwise.nil, trivial, fun _ _ _ _ z => (nomatch z), rfl, rfl⟩ ha hpos
  intro R
  induction R with
  | nil => intro A S h _ _; simpa using h
  | cons p R ih =>
    intro A S h ha hpos
    have e : A ++ p :: R = (A ++ [p]) ++ R := by simp
    rw [e] at ha hpos ⊢
    refine ih (A ++ [p]) _ (h.push (hpos p (by simp)) (fun q m => hpos q (by simp [m])) fun s m => ?_) ha hpos
    exact (List.pairwise_append.mp (List.pairwise_append.mp ha).1).2.2 s m p (by simp)
end Pz

/-! Geo2: the hull of ascending places; its edges, its corners, that there is one only. -/
namespace Pz
def neg (p : Pt) : Pt := ⟨-p.x, -p.y, p.d⟩
theorem neg_neg (p : Pt) : neg (neg p) = p := by simp [neg]
theorem det_neg (a b c : Pt) : det (neg a) (neg b) (neg c) = det a b c := by simp only [det, neg]; grind
theorem lt_neg {a b : Pt} : Lt (neg a) (neg b) ↔ Lt b a := by
  have e1 : dX (neg a) (neg b) = dX b a := by simp only [dX, neg]; grind
  have e2 : dY (neg a) (neg b) = dY b a := by simp only [dY, neg]; grind
  unfold Lt; rw [e1, e2]
theorem push_neg (p : Pt) : ∀ S : List Pt, push (neg p) (S.map neg) = (push p S).map neg
  | [] => by simp [push]
  | [b] => by simp [push]
  | b :: a :: r => by
    have ih := push_neg p (a :: r)
    rw [List.map_cons, List.map_cons, push, push, det_neg]
    split
    · rw [← List.map_cons (f := neg), ih]
    · simp
termination_by S => S.length
theorem chainR_neg (L : List Pt) : chainR (L.map neg) = (chainR L).map neg := by
  suffices h : ∀ (S : List Pt), (L.map neg).foldl (fun s p => push p s) (S.map neg) = (L.foldl (fun s p => push p s) S).map neg from h []
  induction L with
  | nil => intro S; rfl
  | cons p L ih => intro S; rw [List.map_cons, List.foldl_cons, List.foldl_cons, push_neg, ih]

/-- one of the two chains (s = 1: below, s = -1: above), the last place first -/
structure Half (s : Int) (L S : List Pt) : Prop where
  sub : ∀ p ∈ S, p ∈ L
  mono : S.Pairwise fun a b => 0 ≤ s * dX b a
  conv : Conv S
  dom : ∀ l : Ln, 0 ≤ s * l.b → (∀ p ∈ S, 0 ≤ ev l p) → ∀ q ∈ L, 0 ≤ ev l q

theorem conv_neg : ∀ S : List Pt, Conv S → Conv (S.map neg)
  | [], _ => trivial
  | p :: S, h => ⟨List.pairwise_map.mpr (List.Pairwise.imp (fun {a b} z => by rw [det_neg]; exact z) h.1), conv_neg S h.2⟩
theorem lower_half {L : List Pt} (ha : Asc L) (hpos : PosD L) : Half 1 L (chainR L) := by
  have c := chain_spec L ha hpos
  refine ⟨c.sub, List.Pairwise.imp (fun {a b} h => ?_) c.desc, c.conv, fun l lb h => c.dom l (by omega) h⟩
  rcases h with h | h <;> omega
theorem asc_rev {L : List Pt} (ha : Asc L) : Asc (L.reverse.map neg) := by
  refine List.pairwise_map.mpr (List.pairwise_reverse.mpr (List.Pairwise.imp (fun {a b} h => ?_) ha))
  exact lt_neg.mpr h
theorem posD_neg {L : List Pt} (h : PosD L) : PosD (L.map neg) := fun p m => by
  obtain ⟨q, hq, rfl⟩ := List.mem_map.mp m
  exact h q hq
theorem rev_eq (L : List Pt) : chainR L.reverse = (chainR (L.reverse.map neg)).map neg := by
  rw [chainR_neg, List.map_map]
  have : (neg ∘ neg) = id := funext neg_neg
  rw [this, List.map_id]
theorem ev_neg (l : Ln) (p : Pt) : ev l (neg p) = ev ⟨-l.a, -l.b, l.c⟩ p := by simp only [ev, neg]; grind
theorem upper_half {L : List Pt} (ha : Asc L) (hpos : PosD L) : Half (-1) L (chainR L.reverse) := by
  have hp : PosD (L.reverse.map neg) := posD_neg fun p m => hpos p (List.mem_reverse.mp m)
  have c := chain_spec _ (asc_rev ha) hp
  rw [rev_eq]
  refine ⟨fun p m => ?_, ?_, conv_neg _ c.conv, fun l lb h q hq => ?_⟩
  · obtain ⟨q, hq, rfl⟩ := List.mem_map.mp m
    obtain ⟨r, hr, rfl⟩ := List.mem_map.mp (c.sub q hq)
    rw [neg_neg]
    exact List.mem_reverse.mp hr
  · refine List.pairwise_map.mpr (List.Pairwise.imp (fun {a b} h => ?_) c.desc)
    have e : dX (neg b) (neg a) = dX a b := by simp only [dX, neg]; grind
    rw [e]
    have := dX_neg b a
    rcases h with h | h <;> omega
  · have k := c.dom ⟨-l.a, -l.b, l.c⟩ (by show 0 ≤ -l.b; omega) (fun t ht => by
      have := h (neg t) (List.mem_map.mpr ⟨t, ht, rfl⟩)
      rwa [ev_neg] at this) (neg q) (List.mem_map.mpr ⟨q, List.mem_reverse.mpr hq, rfl⟩)
    rw [← ev_neg, neg_neg] at k
    exact k

/-! ### the edges of a chain -/
theorem conv_edge {b a : Pt} {Y : List Pt} : ∀ {X : List Pt}, Conv (X ++ b :: a :: Y) → (∀ t ∈ X, 0 < det a b t) ∧ (∀ t ∈ Y, 0 < det t a b)
  | [], h => ⟨fun _ z => (nomatch z), (List.pairwise_cons.mp h.1).1⟩
  | x :: X, h => by
    obtain ⟨i1, i2⟩ := conv_edge (X := X) h.2
    refine ⟨fun t m => ?_, i2⟩
    rcases List.mem_cons.mp m with rfl | m
    · exact (List.pairwise_cons.mp (List.pairwise_append.mp h.1).2.1).1 a (by simp)
    · exact i1 t m
theorem edge_nonneg {b a : Pt} {X Y : List Pt} (h : Conv (X ++ b :: a :: Y)) : ∀ t ∈ X ++ b :: a :: Y, 0 ≤ det a b t := fun t m => by
  obtain ⟨i1, i2⟩ := conv_edge h
  rcases List.mem_append.mp m with m | m
  · exact Int.le_of_lt (i1 t m)
  · rcases List.mem_cons.mp m with rfl | m
    · rw [det_abb]; omega
    · rcases List.mem_cons.mp m with rfl | m
      · rw [det_aba]; omega
      · have := i2 t m
        rw [← det_rot] at this
        omega
theorem side_b (p q : Pt) : (side p q).b = dX p q := by simp only [side, dX]; grind
theorem Half.edge {s : Int} {L S X Y : List Pt} {b a : Pt} (H : Half s L S) (e : S = X ++ b :: a :: Y) : ∀ q ∈ L, 0 ≤ det a b q := fun q hq => by
  have hm : 0 ≤ s * dX a b := by
    have := H.mono
    rw [e] at this
    exact (List.pairwise_cons.mp (List.pairwise_append.mp this).2.1).1 a (by simp)
  have := H.dom (side a b) (by rw [side_b]; exact hm) (fun p hp => by
    rw [ev_side]
    rw [e] at hp
    have c := H.conv
    rw [e] at c
    exact edge_nonneg c p hp) q hq
  rwa [ev_side] at this

/-! ### exposed places -/
def Exp (L : List Pt) (e : Ln) (v : Pt) : Prop := ev e v = 0 ∧ ∀ q ∈ L, q ≠ v → 0 < ev e q
def add (l m : Ln) : Ln := ⟨l.a + m.a, l.b + m.b, l.c + m.c⟩
def smul (k : Int) (l : Ln) : Ln := ⟨k * l.a, k * l.b, k * l.c⟩
theorem ev_add (l m : Ln) (p : Pt) : ev (add l m) p = ev l p + ev m p := by simp only [ev, add]; grind
theorem ev_smul (k : Int) (l : Ln) (p : Pt) : ev (smul k l) p = k * ev l p := by simp only [ev, smul]; grind
theorem meet_eqv {a v c q : Pt} (h0 : det a v c ≠ 0) (h1 : det a v q = 0) (h2 : det v c q = 0) : Eqv v q := by
  have r : det q v c = 0 := by rw [← det_rot]; exact h2
  have e : ∀ l : Ln, det a v c * ev l q = det a q c * ev l v := fun l => by
    have := cramer l a v c q
    rw [r, h1] at this
    omega
  have ex : det a v c * q.x = det a q c * v.x := by have := e ⟨1, 0, 0⟩; simpa [ev] using this
  have ey : det a v c * q.y = det a q c * v.y := by have := e ⟨0, 1, 0⟩; simpa [ev] using this
  have ed : det a v c * q.d = det a q c * v.d := by have := e ⟨0, 0, 1⟩; simpa [ev] using this
  generalize det a v c = D at *
  generalize det a q c = k at *
  have kx : D * dX v q = 0 := by simp only [dX]; grind
  have ky : D * dY v q = 0 := by simp only [dY]; grind
  exact ⟨(Int.mul_eq_zero.mp kx).resolve_left h0, (Int.mul_eq_zero.mp ky).resolve_left h0⟩
theorem Half.inner {s : Int} {L S X Y : List Pt} {c v a : Pt} (H : Half s L S) (can : ∀ p ∈ L, Can p) (e : S = X ++ c :: v :: a :: Y) : ∃ l, Exp L l v := by
  have e1 : S = (X ++ [c]) ++ v :: a :: Y := by rw [e]; simp
  have k1 := H.edge e1
  have k2 := H.edge e
  have cv := H.conv
  rw [e] at cv
  have t : 0 < det a v c := by
    have := (conv_edge (X := X) cv).2 a (by simp)
    exact this
  refine ⟨add (side a v) (side v c), by rw [ev_add, ev_side, ev_side, det_abb, det_aba]; rfl, fun q hq n => ?_⟩
  rw [ev_add, ev_side, ev_side]
  have q1 := k1 q hq
  have q2 := k2 q hq
  rcases Decidable.em (det a v q = 0 ∧ det v c q = 0) with z | z
  · have hv : v ∈ L := H.sub v (by rw [e]; simp)
    exact absurd (eq_of_can (can v hv) (can q hq) (meet_eqv (by omega) z.1 z.2)).symm n
  · omega
theorem bound_list (f : Pt → Int) : ∀ L : List Pt, ∃ N : Int, 0 < N ∧ ∀ q ∈ L, -N < f q ∧ f q < N
  | [] => ⟨1, by omega, fun _ z => (nomatch z)⟩
  | p :: L => by
    obtain ⟨N, h0, h⟩ := bound_list f L
    refine ⟨N + (f p).natAbs, by omega, fun q m => ?_⟩
    rcases List.mem_cons.mp m with rfl | m
    · omega
    · have := h q m; omega
theorem least_exp {L : List Pt} {v : Pt} (h : ∀ q ∈ L, q ≠ v → Lt v q) : ∃ l, Exp L l v := by
  obtain ⟨N, h0, hN⟩ := bound_list (dY v) L
  have e : ∀ q, ev ⟨N * v.d, v.d, -(N * v.x) - v.y⟩ q = N * dX v q + dY v q := fun q => by simp only [ev, dX, dY]; grind
  refine ⟨⟨N * v.d, v.d, -(N * v.x) - v.y⟩, by rw [e, dX_self, dY_self]; omega, fun q hq n => ?_⟩
  rw [e]
  rcases h q hq n with k | ⟨k, k'⟩
  · have := (hN q hq).1
    have : N * 1 ≤ N * dX v q := Int.mul_le_mul_of_nonneg_left (by omega) (by omega)
    omega
  · rw [k]; omega
theorem greatest_exp {L : List Pt} {v : Pt} (h : ∀ q ∈ L, q ≠ v → Lt q v) : ∃ l, Exp L l v := by
  obtain ⟨l, h1, h2⟩ := least_exp (L := L.map neg) (v := neg v) fun q m n => by
    obtain ⟨r, hr, rfl⟩ := List.mem_map.mp m
    exact lt_neg.mpr (h r hr fun z => n (by rw [z]))
  refine ⟨⟨-l.a, -l.b, l.c⟩, by rw [← ev_neg]; exact h1, fun q hq n => ?_⟩
  rw [← ev_neg]
  exact h2 _ (List.mem_map.mpr ⟨q, hq, rfl⟩) fun z => n (by rw [← neg_neg q, z, neg_neg])
/-- nothing else of the hull lies on an exposing line -/
theorem Exp.only {L : List Pt} {e : Ln} {v x : Pt} (h : Exp L e v) (c : InC L x) (z : ev e x ≤ 0) : Eqv v x := by
  -- a functional m with m v = 0 and m x < 0 would be let
  have key : ∀ m : Ln, ev m v = 0 → 0 ≤ ev m x := fun m hm => by
    obtain ⟨N, h0, hN⟩ := bound_list (ev m) L
    have := c (add (smul N e) m) fun q hq => by
      rw [ev_add, ev_smul]
      by_cases n : q = v
      · rw [n, h.1, hm]; omega
      · have := h.2 q hq n
        have := (hN q hq).1
        have : N * 1 ≤ N * ev e q := Int.mul_le_mul_of_nonneg_left (by omega) (by omega)
        omega
    rw [ev_add, ev_smul] at this
    have : N * ev e x ≤ 0 := Int.mul_nonpos_of_nonneg_of_nonpos (by omega) z
    omega
  have e1 := key ⟨v.d, 0, -v.x⟩ (by simp only [ev]; grind)
  have e2 := key ⟨-v.d, 0, v.x⟩ (by simp only [ev]; grind)
  have e3 := key ⟨0, v.d, -v.y⟩ (by simp only [ev]; grind)
  have e4 := key ⟨0, -v.d, v.y⟩ (by simp only [ev]; grind)
  simp only [ev] at e1 e2 e3 e4
  constructor
  · simp only [dX]
    have : v.d * x.x + 0 * x.y + -v.x * x.d = x.x * v.d - v.x * x.d := by grind
    have : -v.d * x.x + 0 * x.y + v.x * x.d = -(x.x * v.d - v.x * x.d) := by grind
    omega
  · simp only [dY]
    have : 0 * x.x + v.d * x.y + -v.y * x.d = x.y * v.d - v.y * x.d := by grind
    have : 0 * x.x + -v.d * x.y + v.y * x.d = -(x.y * v.d - v.y * x.d) := by grind
    omega
/-- an exposed place of L is one of every list with the same hull -/
theorem Exp.move {L M : List Pt} {e : Ln} {v : Pt} (h : Exp L e v) (cm : ∀ p ∈ M, Can p) (hv : Can v) (vl : InC L v) (hLM : ∀ q, 0 < q.d → InC L q → InC M q) (hML : ∀ q, 0 < q.d → InC M q → InC L q) : v ∈ M := by
  rcases Decidable.em (v ∈ M) with m | m
  · exact m
  exfalso
  have pos : ∀ q ∈ M, 0 < ev e q := fun q hq => by
    rcases Int.lt_or_le 0 (ev e q) with k | k
    · exact k
    · have := h.only (hML q (cm q hq).pos (InC.mem hq)) k
      exact absurd (eq_of_can hv (cm q hq) this) fun z => m (z ▸ hq)
  obtain ⟨N, h0, hN⟩ := bound_list (fun q => q.d) M
  have := hLM v hv.pos vl (add (smul N e) ⟨0, 0, -1⟩) fun q hq => by
    rw [ev_add, ev_smul]
    have := pos q hq
    have := (hN q hq).2
    have k : N * 1 ≤ N * ev e q := Int.mul_le_mul_of_nonneg_left (by omega) (by omega)
    have z : ev ⟨0, 0, -1⟩ q = - q.d := by simp only [ev]; omega
    rw [z]
    omega
  rw [ev_add, ev_smul, h.1] at this
  simp only [ev] at this
  have := hv.pos
  omega
end Pz

/-! Geo3: the hull of ascending places, as the program makes it. -/
namespace Pz

/-- the hull's corners of ascending places -/
def hullA (L : List Pt) : List Pt := if L.length = 1 then L else (chainR L).tail.reverse ++ (chainR L.reverse).tail.reverse
/-- each corner and the next one -/
def cyc (V : List Pt) : List (Pt × Pt) := V.zip (V.drop 1 ++ V.take 1)

/-- what hullA comes to, of two places or more -/
structure Shape (L : List Pt) (mn mx : Pt) (A B : List Pt) : Prop where
  low : Half 1 L (mx :: (A.reverse ++ [mn]))
  upp : Half (-1) L (mn :: (B.reverse ++ [mx]))
  ascA : Asc (mn :: A ++ [mx])
  ascB : (mx :: B ++ [mn]).Pairwise (fun a b => Lt b a)
  minL : ∀ q ∈ L, q ≠ mn → Lt mn q
  maxL : ∀ q ∈ L, q ≠ mx → Lt q mx
  eq : hullA L = mn :: A ++ mx :: B

theorem ends_of {S : List Pt} {a b : Pt} (h1 : S.head? = some a) (h2 : S.getLast? = some b) (n : a ≠ b) : ∃ M : List Pt, S = a :: (M.reverse ++ [b]) := by
  cases S with
  | nil => simp at h1
  | cons x r =>
    simp at h1; subst h1
    cases e : r with
    | nil => subst e; simp at h2; exact absurd h2 n
    | cons y t =>
      refine ⟨(y :: t).dropLast.reverse, ?_⟩
      rw [List.reverse_reverse]
      have h3 : (y :: t).getLast (by simp) = b := by
        rw [e] at h2
        rw [List.getLast?_cons_cons, List.getLast?_eq_some_getLast (by simp)] at h2
        exact Option.some.inj h2
      rw [← h3, List.dropLast_concat_getLast]
theorem shape_of {L : List Pt} (ha : Asc L) (hpos : PosD L) (h2 : 2 ≤ L.length) : ∃ mn mx A B, Shape L mn mx A B := by
  cases hL : L with
  | nil => rw [hL] at h2; simp at h2
  | cons mn R =>
  have hR : R ≠ [] := by rintro rfl; rw [hL] at h2; simp at h2
  have lst : L.getLast? = some (R.getLast hR) := by
    rw [hL, List.getLast?_cons, List.getLast?_eq_some_getLast hR]; rfl
  have hd : L.head? = some mn := by rw [hL]; rfl
  generalize emx : R.getLast hR = mx at lst
  have mxR : mx ∈ R := emx ▸ List.getLast_mem hR
  have ha' := ha
  rw [hL] at ha'
  have hlt : ∀ q ∈ R, Lt mn q := (List.pairwise_cons.mp ha').1
  have hne : mn ≠ mx := (hlt mx mxR).ne
  have c := chain_spec L ha hpos
  obtain ⟨A, eA⟩ := ends_of (c.head.trans lst) (c.last.trans hd) hne.symm
  have cu := chain_spec _ (asc_rev ha) (posD_neg fun p m => hpos p (List.mem_reverse.mp m))
  have eU : chainR L.reverse = (chainR (L.reverse.map neg)).map neg := rev_eq L
  have hU1 : (chainR L.reverse).head? = some mn := by
    rw [eU, List.head?_map, cu.head, List.getLast?_map, List.getLast?_reverse, hd]
    simp [neg_neg]
  have hU2 : (chainR L.reverse).getLast? = some mx := by
    rw [eU, List.getLast?_map, cu.last, List.head?_map, List.head?_reverse, lst]
    simp [neg_neg]
  obtain ⟨B, eB⟩ := ends_of hU1 hU2 hne
  rw [← hL]
  have hl := lower_half ha hpos
  have hu := upper_half ha hpos
  rw [eA] at hl
  rw [eB] at hu
  have dsc := c.desc
  rw [eA] at dsc
  have dscU : (mn :: (B.reverse ++ [mx])).Pairwise fun a b => Lt a b := by
    rw [← eB, eU]
    refine List.pairwise_map.mpr (List.Pairwise.imp (fun {a b} h => ?_) cu.desc)
    exact lt_neg.mpr h
  refine ⟨mn, mx, A, B, hl, hu, ?_, ?_, fun q hq n => ?_, fun q hq n => ?_, ?_⟩
  · have := List.pairwise_reverse.mpr dsc
    simpa using this
  · have := List.pairwise_reverse.mpr dscU
    simpa using this
  · rw [hL] at hq
    rcases List.mem_cons.mp hq with e | e
    · exact absurd e n
    · exact hlt q e
  · -- the last one is the greatest
    have e : L = L.dropLast ++ [mx] := by
      have hn : L ≠ [] := by rw [hL]; simp
      have : L.getLast hn = mx := by
        rw [List.getLast?_eq_some_getLast hn] at lst; exact Option.some.inj lst
      rw [← this, List.dropLast_concat_getLast]
    rw [e] at hq ha
    rcases List.mem_append.mp hq with k | k
    · exact (List.pairwise_append.mp ha).2.2 q k mx (by simp)
    · exact absurd (List.mem_singleton.mp k) n
  · unfold hullA
    rw [if_neg (by omega), eA, eB]
    simp

section
variable {L : List Pt} {mn mx : Pt} {A B : List Pt}
theorem Shape.ne (S : Shape L mn mx A B) : Lt mn mx := by
  exact (List.pairwise_cons.mp S.ascA).1 mx (by simp)
theorem Shape.sub (S : Shape L mn mx A B) : ∀ v ∈ mn :: A ++ mx :: B, v ∈ L := fun v m => by
  simp at m
  rcases m with m | m | m | m
  · exact S.low.sub v (by simp [m])
  · exact S.low.sub v (by simp [m])
  · exact S.low.sub v (by simp [m])
  · exact S.upp.sub v (by simp [m])
theorem Shape.hull (S : Shape L mn mx A B) (q : Pt) : InC (mn :: A ++ mx :: B) q ↔ InC L q := by
  constructor
  · intro h; exact h.mono fun p hp => InC.mem (S.sub p hp)
  · intro h l k
    refine h l ?_
    rcases Int.lt_or_le l.b 0 with z | z
    · refine S.upp.dom l (by omega) fun p hp => k p ?_
      simp at hp ⊢
      rcases hp with e | e | e <;> simp [e]
    · refine S.low.dom l (by omega) fun p hp => k p ?_
      simp at hp ⊢
      rcases hp with e | e | e <;> simp [e]
/-- an item of an inner list stands between two others -/
theorem inner_split {a b v : Pt} {M : List Pt} (h : v ∈ M) : ∃ X Y c d, a :: (M.reverse ++ [b]) = X ++ c :: v :: d :: Y := by
  obtain ⟨P, Q, e⟩ := List.append_of_mem (List.mem_reverse.mpr h)
  rw [e]
  -- a :: (P ++ v :: Q ++ [b])
  have h1 : ∃ X c, a :: P = X ++ [c] := ⟨(a :: P).dropLast, (a :: P).getLast (by simp), (List.dropLast_concat_getLast (by simp)).symm⟩
  obtain ⟨X, c, e1⟩ := h1
  have h2 : ∃ d Y, Q ++ [b] = d :: Y := by
    cases Q with
    | nil => exact ⟨b, [], rfl⟩
    | cons x r => exact ⟨x, r ++ [b], rfl⟩
  obtain ⟨d, Y, e2⟩ := h2
  refine ⟨X, Y, c, d, ?_⟩
  have : a :: (P ++ v :: Q ++ [b]) = (a :: P) ++ v :: (Q ++ [b]) := by simp
  rw [this, e1, e2]
  simp
theorem Shape.exp (S : Shape L mn mx A B) (can : ∀ p ∈ L, Can p) : ∀ v ∈ mn :: A ++ mx :: B, ∃ l, Exp L l v := fun v m => by
  simp at m
  rcases m with rfl | m | rfl | m
  · exact least_exp S.minL
  · obtain ⟨X, Y, c, d, e⟩ := inner_split (a := mx) (b := mn) m
    exact S.low.inner can e
  · exact greatest_exp S.maxL
  · obtain ⟨X, Y, c, d, e⟩ := inner_split (a := mn) (b := mx) m
    exact S.upp.inner can e
theorem conv_mid {a b v : Pt} {M : List Pt} (h : Conv (a :: (M.reverse ++ [b]))) (m : v ∈ M) : 0 < det b v a :=
  (List.pairwise_append.mp h.1).2.2 v (List.mem_reverse.mpr m) b (by simp)
theorem Shape.below (S : Shape L mn mx A B) {v : Pt} (m : v ∈ A) : det mn mx v < 0 := by
  have := conv_mid S.low.conv m
  rw [det_swap] at this
  omega
theorem Shape.above (S : Shape L mn mx A B) {v : Pt} (m : v ∈ B) : 0 < det mn mx v := by
  have := conv_mid S.upp.conv m
  rw [← det_rot, ← det_rot] at this
  exact this
theorem sorted_eq {α : Type} {R : α → α → Prop} (as : ∀ a b, R a b → R b a → False) : ∀ {l m : List α}, l.Pairwise R → m.Pairwise R → (∀ x, x ∈ l ↔ x ∈ m) → l = m
  | [], [], _, _, _ => rfl
  | [], y :: m, _, _, h => absurd ((h y).mpr (by simp)) (by simp)
  | x :: l, [], _, _, h => absurd ((h x).mp (by simp)) (by simp)
  | x :: l, y :: m, hl, hm, h => by
    have pl := List.pairwise_cons.mp hl
    have pm := List.pairwise_cons.mp hm
    have e : x = y := by
      rcases List.mem_cons.mp ((h x).mp (by simp)) with e | k1
      · exact e
      · rcases List.mem_cons.mp ((h y).mpr (by simp)) with e | k2
        · exact e.symm
        · exact (as _ _ (pl.1 y k2) (pm.1 x k1)).elim
    subst e
    have : l = m := sorted_eq as pl.2 pm.2 fun z => by
      constructor
      · intro k
        rcases List.mem_cons.mp ((h z).mp (by simp [k])) with e | k2
        · subst e; exact (as _ _ (pl.1 z k) (pl.1 z k)).elim
        · exact k2
      · intro k
        rcases List.mem_cons.mp ((h z).mpr (by simp [k])) with e | k2
        · subst e; exact (as _ _ (pm.1 z k) (pm.1 z k)).elim
        · exact k2
    rw [this]
theorem Shape.uniq {L' : List Pt} {mn' mx' : Pt} {A' B' : List Pt} (S : Shape L mn mx A B) (S' : Shape L' mn' mx' A' B') (h : ∀ v, v ∈ mn :: A ++ mx :: B ↔ v ∈ mn' :: A' ++ mx' :: B') : mn :: A ++ mx :: B = mn' :: A' ++ mx' :: B' := by
  have e1 : mn = mn' := by
    rcases Decidable.em (mn = mn') with e | n
    · exact e
    · have a1 := S.minL mn' (S.sub mn' ((h mn').mpr (by simp))) fun e => n e.symm
      have a2 := S'.minL mn (S'.sub mn ((h mn).mp (by simp))) n
      exact (a1.asymm a2).elim
  have e2 : mx = mx' := by
    rcases Decidable.em (mx = mx') with e | n
    · exact e
    · have a1 := S.maxL mx' (S.sub mx' ((h mx').mpr (by simp))) fun e => n e.symm
      have a2 := S'.maxL mx (S'.sub mx ((h mx).mp (by simp))) n
      exact (a1.asymm a2).elim
  subst e1; subst e2
  have key : ∀ {L A B : List Pt}, Shape L mn mx A B → ∀ v, (v ∈ A ↔ v ∈ mn :: A ++ mx :: B ∧ det mn mx v < 0) ∧ (v ∈ B ↔ v ∈ mn :: A ++ mx :: B ∧ 0 < det mn mx v) := fun {L A B} S v => by
    have z1 : det mn mx mn = 0 := det_aba _ _
    have z2 : det mn mx mx = 0 := det_abb _ _
    have b1 := fun m : v ∈ A => S.below m
    have b2 := fun m : v ∈ B => S.above m
    constructor
    · constructor
      · intro m; exact ⟨by simp [m], b1 m⟩
      · rintro ⟨m, k⟩
        simp at m
        rcases m with e | m | e | m
        · subst e; omega
        · exact m
        · subst e; omega
        · have := b2 m; omega
    · constructor
      · intro m; exact ⟨by simp [m], b2 m⟩
      · rintro ⟨m, k⟩
        simp at m
        rcases m with e | m | e | m
        · subst e; omega
        · have := b1 m; omega
        · subst e; omega
        · exact m
  have hA : A = A' := by
    refine sorted_eq (R := Lt) (fun a b h1 h2 => h1.asymm h2) ?_ ?_ fun v => ?_
    · exact (List.pairwise_append.mp (List.pairwise_cons.mp S.ascA).2).1
    · exact (List.pairwise_append.mp (List.pairwise_cons.mp S'.ascA).2).1
    · rw [(key S v).1, (key S' v).1, h v]
  have hB : B = B' := by
    refine sorted_eq (R := fun a b => Lt b a) (fun a b h1 h2 => h1.asymm h2) ?_ ?_ fun v => ?_
    · exact (List.pairwise_append.mp (List.pairwise_cons.mp S.ascB).2).1
    · exact (List.pairwise_append.mp (List.pairwise_cons.mp S'.ascB).2).1
    · rw [(key S v).2, (key S' v).2, h v]
  rw [hA, hB]
end
/-! ### all of it -/
theorem len1 {L : List Pt} (h : L.length = 1) : ∃ p, L = [p] := by
  match L, h with
  | [p], _ => exact ⟨p, rfl⟩
theorem hullA_sub {L : List Pt} (ha : Asc L) (hpos : PosD L) : ∀ v ∈ hullA L, v ∈ L := fun v m => by
  by_cases h1 : L.length = 1
  · unfold hullA at m; rw [if_pos h1] at m; exact m
  · by_cases h2 : 2 ≤ L.length
    · obtain ⟨mn, mx, A, B, S⟩ := shape_of ha hpos h2
      rw [S.eq] at m
      exact S.sub v m
    · have : L = [] := List.eq_nil_of_length_eq_zero (by omega)
      subst this
      simp [hullA, chainR] at m
theorem hullA_inC {L : List Pt} (ha : Asc L) (hpos : PosD L) (q : Pt) : InC (hullA L) q ↔ InC L q := by
  by_cases h1 : L.length = 1
  · unfold hullA; rw [if_pos h1]
  · by_cases h2 : 2 ≤ L.length
    · obtain ⟨mn, mx, A, B, S⟩ := shape_of ha hpos h2
      rw [S.eq]
      exact S.hull q
    · have : L = [] := List.eq_nil_of_length_eq_zero (by omega)
      subst this
      simp [hullA, chainR]
theorem hullA_exp {L : List Pt} (ha : Asc L) (can : ∀ p ∈ L, Can p) : ∀ v ∈ hullA L, ∃ l, Exp L l v := fun v m => by
  have hpos : PosD L := fun p m => (can p m).pos
  by_cases h1 : L.length = 1
  · unfold hullA at m; rw [if_pos h1] at m
    obtain ⟨p, rfl⟩ := len1 h1
    rw [List.mem_singleton.mp m]
    exact least_exp fun q hq n => absurd (List.mem_singleton.mp hq) n
  · by_cases h2 : 2 ≤ L.length
    · obtain ⟨mn, mx, A, B, S⟩ := shape_of ha hpos h2
      rw [S.eq] at m
      exact S.exp can v m
    · have : L = [] := List.eq_nil_of_length_eq_zero (by omega)
      subst this
      simp [hullA, chainR] at m
theorem hullA_uniq {L M : List Pt} (ha : Asc L) (hb : Asc M) (ca : ∀ p ∈ L, Can p) (cb : ∀ p ∈ M, Can p) (nL : L ≠ []) (nM : M ≠ []) (h : ∀ q, 0 < q.d → (InC L q ↔ InC M q)) : hullA L = hullA M := by
  have pa : PosD L := fun p m => (ca p m).pos
  have pb : PosD M := fun p m => (cb p m).pos
  have mv : ∀ {L M : List Pt}, Asc L → Asc M → (∀ p ∈ L, Can p) → (∀ p ∈ M, Can p) → (∀ q, 0 < q.d → (InC L q ↔ InC M q)) → ∀ v ∈ hullA L, v ∈ hullA M := fun {L M} ha hb ca cb h v m => by
    have pa : PosD L := fun p m => (ca p m).pos
    have pb : PosD M := fun p m => (cb p m).pos
    obtain ⟨l, e⟩ := hullA_exp ha ca v m
    have vL := hullA_sub ha pa v m
    refine e.move (fun p hp => cb p (hullA_sub hb pb p hp)) (ca v vL) (InC.mem vL) (fun q hq k => (hullA_inC hb pb q).mpr ((h q hq).mp k)) fun q hq k => (h q hq).mpr ((hullA_inC hb pb q).mp k)
  have hm : ∀ v, v ∈ hullA L ↔ v ∈ hullA M := fun v => ⟨mv ha hb ca cb h v, mv hb ha cb ca (fun q hq => (h q hq).symm) v⟩
  have one : ∀ {L M : List Pt}, Asc M → PosD M → L.length = 1 → 2 ≤ M.length → (∀ v, v ∈ hullA L ↔ v ∈ hullA M) → False := fun {L M} hb pb h1 h2 hm => by
    obtain ⟨p, rfl⟩ := len1 h1
    obtain ⟨mn, mx, A, B, S⟩ := shape_of hb pb h2
    rw [S.eq] at hm
    have e1 := (hm mn).mpr (by simp)
    have e2 := (hm mx).mpr (by simp)
    simp [hullA] at e1 e2
    exact S.ne.ne (e1.trans e2.symm)
  have l0 : 0 < L.length := List.length_pos_iff.mpr nL
  have m0 : 0 < M.length := List.length_pos_iff.mpr nM
  by_cases h1 : L.length = 1
  · by_cases h2 : M.length = 1
    · obtain ⟨p, rfl⟩ := len1 h1
      obtain ⟨q, rfl⟩ := len1 h2
      have := (hm p).mp (by simp [hullA])
      simp [hullA] at this
      rw [this]
    · exact (one hb pb h1 (by omega) hm).elim
  · by_cases h2 : M.length = 1
    · exact (one ha pa h2 (by omega) fun v => (hm v).symm).elim
    · obtain ⟨mn, mx, A, B, S⟩ := shape_of ha pa (by omega)
      obtain ⟨mn', mx', A', B', S'⟩ := shape_of hb pb (by omega)
      rw [S.eq, S'.eq] at hm ⊢
      exact S.uniq S' hm
end Pz

/-! Geo4: edges of a hull, the places that satisfy them; cutting. -/
namespace Pz
/-- two neighbours in a list -/
theorem zip_next {W : List Pt} {a b : Pt} : ∀ {R : List Pt} {v : Pt}, (a, b) ∈ (v :: R).zip (R ++ W) → W.length ≤ 1 → ∃ X Y, v :: R ++ W = X ++ a :: b :: Y
  | [], v, h, hw => by
    match W, hw with
    | [], _ => simp at h
    | [w], _ =>
      simp at h
      exact ⟨[], [], by rw [h.1, h.2]; rfl⟩
  | c :: R, v, h, hw => by
    rw [List.cons_append, List.zip_cons_cons] at h
    rcases List.mem_cons.mp h with e | h
    · cases e
      exact ⟨[], R ++ W, rfl⟩
    · obtain ⟨X, Y, e⟩ := zip_next (R := R) (v := c) h hw
      exact ⟨v :: X, Y, by simp at e ⊢; exact e⟩
theorem next_zip {W : List Pt} {a b : Pt} : ∀ {X R Y : List Pt} {v : Pt}, v :: R ++ W = X ++ a :: b :: Y → W.length ≤ 1 → (a, b) ∈ (v :: R).zip (R ++ W)
  | [], [], Y, v, h, hw => by
    match W, hw with
    | [], _ => simp at h
    | [w], _ => simp at h; simp [h.1, h.2.1]
  | [], c :: R, Y, v, h, hw => by
    simp at h
    simp [h.1, h.2.1]
  | x :: X, [], Y, v, h, hw => by
    have : W = X ++ a :: b :: Y := by simp at h; exact h.2
    rw [this] at hw
    simp at hw
    omega
  | x :: X, c :: R, Y, v, h, hw => by
    have : c :: R ++ W = X ++ a :: b :: Y := by simp at h ⊢; exact h.2
    have := next_zip this hw
    rw [List.cons_append, List.zip_cons_cons]
    exact List.mem_cons_of_mem _ this
/-- a corner and the next one: neighbours in the list closed -/
theorem cyc_iff {v a b : Pt} {R : List Pt} : (a, b) ∈ cyc (v :: R) ↔ ∃ X Y, v :: R ++ [v] = X ++ a :: b :: Y := by
  unfold cyc
  rw [show (v :: R).drop 1 ++ (v :: R).take 1 = R ++ [v] by simp]
  exact ⟨fun h => zip_next h (by simp), fun ⟨X, Y, e⟩ => next_zip e (by simp)⟩

/-- an edge of a hull: on one of the two chains -/
theorem split_two {P Q X Y : List Pt} {m a b : Pt} (e : P ++ m :: Q = X ++ a :: b :: Y) : (∃ Y', P ++ [m] = X ++ a :: b :: Y') ∨ (∃ X', m :: Q = X' ++ a :: b :: Y) := by
  rcases List.append_eq_append_iff.mp e with ⟨Z, h1, h2⟩ | ⟨Z, h1, h2⟩
  · -- X = P ++ Z
    exact .inr ⟨Z, h2⟩
  · -- P = X ++ Z, a :: b :: Y = Z ++ m :: Q
    match Z, h2 with
    | [], h2 => exact .inr ⟨[], by simpa using h2.symm⟩
    | [z], h2 =>
      simp at h2
      refine .inl ⟨[], ?_⟩
      rw [h1, ← h2.1, ← h2.2.1]; simp
    | z :: z' :: Z, h2 =>
      simp at h2
      refine .inl ⟨Z ++ [m], ?_⟩
      rw [h1, ← h2.1, ← h2.2.1]; simp
section
variable {L : List Pt} {mn mx : Pt} {A B : List Pt}
theorem rev_split {W X Y : List Pt} {a b : Pt} (e : W = X ++ a :: b :: Y) : W.reverse = Y.reverse ++ b :: a :: X.reverse := by
  rw [e]; simp
theorem Shape.edge (S : Shape L mn mx A B) {a b : Pt} (h : (a, b) ∈ cyc (mn :: A ++ mx :: B)) : ∀ q ∈ L, 0 ≤ det a b q := by
  rw [List.cons_append, cyc_iff] at h
  obtain ⟨X, Y, e⟩ := h
  have e' : (mn :: A) ++ mx :: (B ++ [mn]) = X ++ a :: b :: Y := by rw [← e]; simp
  rcases split_two e' with ⟨Y', h⟩ | ⟨X', h⟩
  · refine S.low.edge (X := Y'.reverse) (Y := X.reverse) ?_
    rw [← rev_split h]; simp
  · refine S.upp.edge (X := Y.reverse) (Y := X'.reverse) ?_
    rw [← rev_split h]; simp
/-- a fan: q lies in one of the triangles -/
theorem fan {l : Ln} {o q : Pt} (lo : 0 ≤ ev l o) : ∀ {R : List Pt} {a : Pt}, (∀ v ∈ a :: R, 0 ≤ ev l v) → (∀ X Y b c, a :: R = X ++ b :: c :: Y → 0 < det o b c ∧ 0 ≤ det b c q) → 0 < det o a q ∨ (R ≠ [] ∧ 0 ≤ det o a q) →
    (∀ z, (a :: R).getLast? = some z → det o z q ≤ 0) → 0 ≤ ev l q
  | [], a, hv, hs, h0, hz => by
    have := hz a rfl
    rcases h0 with h | h
    · omega
    · exact absurd rfl h.1
  | b :: R, a, hv, hs, h0, hz => by
    obtain ⟨t1, t2⟩ := hs [] R a b rfl
    have h0' : 0 ≤ det o a q := by rcases h0 with h | h <;> omega
    rcases Int.lt_or_le 0 (det o b q) with k | k
    · exact fan lo (R := R) (a := b) (fun v m => hv v (List.mem_cons_of_mem _ m)) (fun X Y c d e => hs (a :: X) Y c d (by rw [e]; rfl)) (.inl k) fun z hz' => hz z (by rw [List.getLast?_cons_cons]; exact hz')
    · have e := cramer l o a b q
      have e1 : det q a b = det a b q := (det_rot q a b).symm
      have e2 : det o q b = - det o b q := det_swap o b q
      have q1 := Int.mul_nonneg t2 lo
      have q2 : 0 ≤ (- det o b q) * ev l a := Int.mul_nonneg (by omega) (hv a (by simp))
      have q3 := Int.mul_nonneg h0' (hv b (by simp))
      rw [e1, e2] at e
      exact nonneg_of_mul t1 (by omega)
theorem Shape.inside (S : Shape L mn mx A B) (h3 : A ≠ [] ∨ B ≠ []) {q : Pt} (h : ∀ a b, (a, b) ∈ cyc (mn :: A ++ mx :: B) → 0 ≤ det a b q) : InC (mn :: A ++ mx :: B) q := fun l k => by
  have h' : ∀ X Y a b, mn :: (A ++ mx :: B) ++ [mn] = X ++ a :: b :: Y → 0 ≤ det a b q := fun X Y a b e => h a b (by
    rw [List.cons_append, cyc_iff]
    exact ⟨X, Y, e⟩)
  obtain ⟨a, R, eR⟩ : ∃ a R, A ++ mx :: B = a :: R := by
    cases A with
    | nil => exact ⟨mx, B, rfl⟩
    | cons x r => exact ⟨x, r ++ mx :: B, rfl⟩
  have hR : R ≠ [] := by
    rintro rfl
    rcases h3 with h3 | h3
    · cases A with
      | nil => exact h3 rfl
      | cons x r => simp at eR
    · cases A with
      | nil => simp at eR; exact h3 eR.2
      | cons x r => simp at eR
  refine fan (o := mn) (k mn (by simp)) (R := R) (a := a) (fun v m => k v (by rw [List.cons_append, eR]; exact List.mem_cons_of_mem _ m)) (fun X Y b c e => ⟨?_, ?_⟩) (.inr ⟨hR, ?_⟩) fun z hz => ?_
  · rw [← eR] at e
    rcases split_two e with ⟨Y', h⟩ | ⟨X', h⟩
    · have cv := S.low.conv
      have : mx :: (A.reverse ++ [mn]) = (Y'.reverse ++ c :: b :: X.reverse) ++ [mn] := by
        rw [← rev_split h]; simp
      rw [this, List.append_assoc] at cv
      exact (conv_edge cv).2 mn (by simp)
    · have cv := S.upp.conv
      have : mn :: (B.reverse ++ [mx]) = mn :: Y.reverse ++ c :: b :: X'.reverse := by
        rw [List.cons_append, ← rev_split h]; simp
      rw [this] at cv
      have := (conv_edge cv).1 mn (by simp)
      rwa [det_rot] at this
  · refine h' (mn :: X) (Y ++ [mn]) b c ?_
    rw [eR, e]; simp
  · refine h' [] (R ++ [mn]) mn a ?_
    rw [eR]; simp
  · -- the last edge
    have hne : a :: R ≠ [] := by simp
    have e1 : (a :: R).getLast hne = z := by
      rw [List.getLast?_eq_some_getLast hne] at hz; exact Option.some.inj hz
    have e2 : a :: R = (a :: R).dropLast ++ [z] := by rw [← e1, List.dropLast_concat_getLast]
    have := h' (mn :: (a :: R).dropLast) [] z mn (by
      rw [eR, e2]
      simp)
    have e3 := det_swap' mn z q
    omega
end
/-! ### a stretch -/
theorem stretch_X {a b q : Pt} (ad : 0 < a.d) (ab : Lt a b) (h : det a b q = 0) (h1 : ¬ Lt q a) (h2 : ¬ Lt b q) : InC [a, b] q := fun l k => by
  have ka := k a (by simp)
  have kb := k b (by simp)
  have eX := midX l a b q
  have eY := midY l a b q
  rw [h] at eX eY
  have n1 := dX_neg q a
  have n2 := dX_neg b q
  have n3 := dY_neg q a
  have n4 := dY_neg b q
  unfold Lt at h1 h2
  rcases ab with t | ⟨t, t'⟩
  · refine nonneg_of_mul t ?_
    have q1 : 0 ≤ dX q b * ev l a := Int.mul_nonneg (by omega) ka
    have q2 : 0 ≤ dX a q * ev l b := Int.mul_nonneg (by omega) kb
    omega
  · have z : dX a q = 0 := by
      have := detXY a b q
      rw [h, t] at this
      have k3 : dY a b * dX a q = 0 := by omega
      exact zero_of_mul t' k3
    have z2 : dX q b = 0 := by
      have := dX_trans a q b
      rw [t, z] at this
      exact zero_of_mul ad (by omega)
    refine nonneg_of_mul t' ?_
    have q1 : 0 ≤ dY q b * ev l a := Int.mul_nonneg (by omega) ka
    have q2 : 0 ≤ dY a q * ev l b := Int.mul_nonneg (by omega) kb
    omega
/-- by heights along the stretch -/
theorem stretch_D {a b q : Pt} (ab : Lt a b) (h : det a b q = 0) (h1 : 0 ≤ dX a b * dX a q + dY a b * dY a q) (h2 : 0 ≤ dX a b * dX q b + dY a b * dY q b) : InC [a, b] q := fun l k => by
  have ka := k a (by simp)
  have kb := k b (by simp)
  have eX := midX l a b q
  have eY := midY l a b q
  rw [h] at eX eY
  have p : 0 < dX a b * dX a b + dY a b * dY a b := by
    rcases ab with t | ⟨t, t'⟩
    · have := Int.mul_pos t t
      have : 0 ≤ dY a b * dY a b := by
        rcases Int.le_total 0 (dY a b) with z | z
        · exact Int.mul_nonneg z z
        · exact Int.mul_nonneg_of_nonpos_of_nonpos z z
      omega
    · have := Int.mul_pos t' t'
      rw [t]; omega
  refine nonneg_of_mul p ?_
  have e : (dX a b * dX a b + dY a b * dY a b) * ev l q = (dX a b * dX q b + dY a b * dY q b) * ev l a + (dX a b * dX a q + dY a b * dY a q) * ev l b := by
    have : (dX a b * dX a b + dY a b * dY a b) * ev l q = dX a b * (dX a b * ev l q) + dY a b * (dY a b * ev l q) := by grind
    rw [this, eX, eY]; grind
  rw [e]
  have := Int.mul_nonneg h2 ka
  have := Int.mul_nonneg h1 kb
  omega
theorem one_inC {a q : Pt} : InC [a] q ↔ (∃ k : Int, 0 ≤ k) ∧ ∀ l, 0 ≤ ev l a → 0 ≤ ev l q := ⟨fun h => ⟨⟨0, by omega⟩, fun l k => h l fun p m => by rw [List.mem_singleton.mp m]; exact k⟩, fun h l k => h.2 l (k a (by simp))⟩
theorem one_eqv {a q : Pt} (h : InC [a] q) : Eqv a q := by
  have key : ∀ l, ev l a = 0 → ev l q = 0 := fun l z => by
    have h1 := h l fun p m => by rw [List.mem_singleton.mp m]; omega
    have h2 := h (smul (-1) l) fun p m => by rw [List.mem_singleton.mp m, ev_smul]; omega
    rw [ev_smul] at h2
    omega
  have e1 := key ⟨a.d, 0, -a.x⟩ (by simp only [ev]; grind)
  have e2 := key ⟨0, a.d, -a.y⟩ (by simp only [ev]; grind)
  simp only [ev] at e1 e2
  exact ⟨by simp only [dX]; grind, by simp only [dY]; grind⟩
theorem eqv_ev {a q : Pt} (h : Eqv a q) (l : Ln) : a.d * ev l q = q.d * ev l a := by
  have h1 := h.1
  have h2 := h.2
  simp only [dX, dY] at h1 h2
  simp only [ev]
  grind
theorem eqv_inC {a q : Pt} {L : List Pt} (ad : 0 < a.d) (qd : 0 < q.d) (h : Eqv a q) (c : InC L a) : InC L q := fun l k => by
  have := c l k
  have e := eqv_ev h l
  refine nonneg_of_mul ad ?_
  rw [e]
  exact Int.mul_nonneg (by omega) this
end Pz

/-! Geo5: plates; cutting a plate to a half plane. -/
namespace Pz

/-- a plate: the hull of some places -/
def IsPl (V : List Pt) : Prop := ∃ L, Asc L ∧ (∀ p ∈ L, Can p) ∧ L ≠ [] ∧ V = hullA L
section
variable {V W : List Pt}
theorem IsPl.can (h : IsPl V) : ∀ v ∈ V, Can v := fun v m => by
  obtain ⟨L, ha, hc, _, rfl⟩ := h
  exact hc v (hullA_sub ha (fun p m => (hc p m).pos) v m)
theorem IsPl.pos (h : IsPl V) : PosD V := fun v m => (h.can v m).pos
/-- its three forms -/
theorem IsPl.forms (h : IsPl V) : (∃ p, V = [p] ∧ Can p) ∨ ∃ L mn mx A B, Shape L mn mx A B ∧ (∀ p ∈ L, Can p) ∧ V = mn :: A ++ mx :: B := by
  obtain ⟨L, ha, hc, hn, rfl⟩ := h
  have l0 : 0 < L.length := List.length_pos_iff.mpr hn
  by_cases h1 : L.length = 1
  · obtain ⟨p, rfl⟩ := len1 h1
    exact .inl ⟨p, by simp [hullA], hc p (by simp)⟩
  · obtain ⟨mn, mx, A, B, S⟩ := shape_of ha (fun p m => (hc p m).pos) (by omega)
    exact .inr ⟨L, mn, mx, A, B, S, hc, S.eq⟩
theorem IsPl.ne (h : IsPl V) : V ≠ [] := by
  rcases h.forms with ⟨p, rfl, _⟩ | ⟨L, mn, mx, A, B, S, hc, rfl⟩ <;> simp
theorem IsPl.edge (h : IsPl V) {a b : Pt} (m : (a, b) ∈ cyc V) : ∀ q, InC V q → 0 ≤ det a b q := fun q c => by
  rw [← ev_side]
  refine c _ fun v hv => ?_
  rw [ev_side]
  rcases h.forms with ⟨p, rfl, _⟩ | ⟨L, mn, mx, A, B, S, hc, rfl⟩
  · simp [cyc] at m
    rw [m.1, m.2, det_aa]; omega
  · exact S.edge m v (S.sub v hv)
theorem IsPl.inside (h : IsPl V) (h3 : 3 ≤ V.length) {q : Pt} (k : ∀ a b, (a, b) ∈ cyc V → 0 ≤ det a b q) : InC V q := by
  rcases h.forms with ⟨p, rfl, _⟩ | ⟨L, mn, mx, A, B, S, hc, rfl⟩
  · simp at h3
  · refine S.inside ?_ k
    cases A with
    | cons => exact .inl (by simp)
    | nil =>
      cases B with
      | cons => exact .inr (by simp)
      | nil => simp at h3
theorem IsPl.two (h : IsPl V) (h2 : V.length = 2) : ∃ a b, V = [a, b] ∧ Lt a b := by
  rcases h.forms with ⟨p, rfl, _⟩ | ⟨L, mn, mx, A, B, S, hc, rfl⟩
  · simp at h2
  · simp at h2
    have hA : A = [] := List.eq_nil_of_length_eq_zero (by omega)
    have hB : B = [] := List.eq_nil_of_length_eq_zero (by omega)
    subst hA; subst hB
    exact ⟨mn, mx, rfl, S.ne⟩
theorem IsPl.exp (h : IsPl V) : ∀ v ∈ V, ∃ l, Exp V l v := fun v m => by
  obtain ⟨L, ha, hc, hn, rfl⟩ := h
  obtain ⟨l, e1, e2⟩ := hullA_exp ha hc v m
  exact ⟨l, e1, fun q hq => e2 q (hullA_sub ha (fun p m => (hc p m).pos) q hq)⟩
theorem IsPl.uniq (h : IsPl V) (h' : IsPl W) (e : ∀ q, 0 < q.d → (InC V q ↔ InC W q)) : V = W := by
  obtain ⟨L, ha, hc, hn, rfl⟩ := h
  obtain ⟨M, hb, hd, hm, rfl⟩ := h'
  refine hullA_uniq ha hb hc hd hn hm fun q hq => ?_
  rw [← hullA_inC ha (fun p m => (hc p m).pos), ← hullA_inC hb (fun p m => (hd p m).pos)]
  exact e q hq
/-- two turns in a round -/
theorem change {P : Pt → Prop} : ∀ {R : List Pt} {a : Pt}, P a → (∃ b ∈ R, ¬ P b) → ∃ X Y c d, a :: R = X ++ c :: d :: Y ∧ P c ∧ ¬ P d
  | [], _, _, ⟨_, m, _⟩ => (nomatch m)
  | b :: R, a, pa, ⟨z, m, nz⟩ => by
    rcases Classical.em (P b) with pb | pb
    · have : ∃ z ∈ R, ¬ P z := by
        rcases List.mem_cons.mp m with e | m
        · subst e; exact absurd pb nz
        · exact ⟨z, m, nz⟩
      obtain ⟨X, Y, c, d, e, h1, h2⟩ := change pb this
      exact ⟨a :: X, Y, c, d, by rw [e]; rfl, h1, h2⟩
    · exact ⟨[], R, a, b, rfl, pa, pb⟩
theorem cyc_change {P : Pt → Prop} {V : List Pt} (h1 : ∃ v ∈ V, P v) (h2 : ∃ v ∈ V, ¬ P v) : ∃ a b, (a, b) ∈ cyc V ∧ P a ∧ ¬ P b := by
  obtain ⟨v, hv, pv⟩ := h1
  obtain ⟨w, hw, pw⟩ := h2
  cases V with
  | nil => exact nomatch hv
  | cons o R =>
    rcases Classical.em (P o) with po | po
    · have : ∃ b ∈ R ++ [o], ¬ P b := ⟨w, by
        rcases List.mem_cons.mp hw with e | e
        · simp [e]
        · simp [e], pw⟩
      obtain ⟨X, Y, c, d, e, k1, k2⟩ := change po this
      exact ⟨c, d, cyc_iff.mpr ⟨X, Y, by rw [← e]; rfl⟩, k1, k2⟩
    · -- from v on to o
      have hvR : v ∈ R := by
        rcases List.mem_cons.mp hv with e | e
        · subst e; exact absurd pv po
        · exact e
      obtain ⟨R1, R2, e⟩ := List.append_of_mem hvR
      obtain ⟨X, Y, c, d, e2, k1, k2⟩ := change (R := R2 ++ [o]) pv ⟨o, by simp, po⟩
      refine ⟨c, d, cyc_iff.mpr ⟨o :: R1 ++ X, Y, ?_⟩, k1, k2⟩
      have : v :: R2 ++ [o] = X ++ c :: d :: Y := by rw [← e2]; rfl
      rw [e]
      simp at this ⊢
      exact this
end
/-! ### the place in its form -/
def canon (x y d : Int) : Pt :=
  let g : Int := if 0 < d then Int.gcd (Int.gcd x y) d else - (Int.gcd (Int.gcd x y) d : Int)
  ⟨x / g, y / g, d / g⟩
theorem canon_spec {x y d : Int} (h : d ≠ 0) : ∃ g : Int, (0 < d → 0 < g) ∧ (d < 0 → g < 0) ∧ x = g * (canon x y d).x ∧ y = g * (canon x y d).y ∧ d = g * (canon x y d).d ∧ Can (canon x y d) := by
  have gp : 0 < (Int.gcd (Int.gcd x y) d : Int) := by
    have : Int.gcd (Int.gcd x y) d ≠ 0 := fun z => h (Int.gcd_eq_zero_iff.mp z).2
    omega
  have dd : (Int.gcd (Int.gcd x y) d : Int) ∣ d := Int.gcd_dvd_right ..
  have d1 : (Int.gcd (Int.gcd x y) d : Int) ∣ (Int.gcd x y : Int) := Int.gcd_dvd_left ..
  have dx : (Int.gcd (Int.gcd x y) d : Int) ∣ x := Int.dvd_trans d1 (Int.gcd_dvd_left ..)
  have dy : (Int.gcd (Int.gcd x y) d : Int) ∣ y := Int.dvd_trans d1 (Int.gcd_dvd_right ..)
  unfold canon
  generalize eG : (Int.gcd (Int.gcd x y) d : Int) = G at *
  have key : ∀ g : Int, (g = G ∨ g = -G) → (0 < d → 0 < g) → (d < 0 → g < 0) → ∃ g' : Int, (0 < d → 0 < g') ∧ (d < 0 → g' < 0) ∧ x = g' * (x / g) ∧ y = g' * (y / g) ∧ d = g' * (d / g) ∧ Can ⟨x / g, y / g, d / g⟩ := fun g hg h1 h2 => by
    have n0 : g ≠ 0 := by omega
    have dv : ∀ z, G ∣ z → g ∣ z := fun z k => by
      rcases hg with e | e
      · rw [e]; exact k
      · rw [e]; exact Int.neg_dvd.mpr k
    have ex := Int.mul_ediv_cancel' (dv x dx)
    have ey := Int.mul_ediv_cancel' (dv y dy)
    have ed := Int.mul_ediv_cancel' (dv d dd)
    refine ⟨g, h1, h2, ex.symm, ey.symm, ed.symm, ?_, ?_⟩
    · show 0 < d / g
      rcases Int.lt_or_gt_of_ne h with z | z
      · have := h2 z
        have q : 0 < (-g) * (d / g) ∨ True := .inr trivial
        have k : (-g) * (d / g) = -d := by rw [Int.neg_mul, ed]
        exact pos_of_mul (a := -g) (by omega) (by omega)
      · exact pos_of_mul (h1 z) (by omega)
    · show Int.gcd (Int.gcd (x / g) (y / g)) (d / g) = 1
      -- |g| times it is the gcd of all
      have e1 : Int.gcd x y = g.natAbs * Int.gcd (x / g) (y / g) := by
        rw [← Int.gcd_mul_left, ex, ey]
      have e2 : Int.gcd (Int.gcd x y) d = g.natAbs * Int.gcd (Int.gcd (x / g) (y / g)) (d / g) := by
        have : Int.gcd (Int.gcd x y) d = Int.gcd (g * (Int.gcd (x / g) (y / g) : Int)) (g * (d / g)) := by
          rw [ed, e1]
          show Nat.gcd _ _ = Nat.gcd _ _
          rw [Int.natAbs_mul]
          simp [Int.natAbs_mul]
        rw [this, Int.gcd_mul_left]
      have e3 : g.natAbs = Int.gcd (Int.gcd x y) d := by
        rcases hg with e | e
        · rw [e, ← eG]; simp
        · rw [e, ← eG]; simp
      have gp' : 0 < g.natAbs := by omega
      have : g.natAbs * 1 = g.natAbs * Int.gcd (Int.gcd (x / g) (y / g)) (d / g) := by rw [← e2, Nat.mul_one]; exact e3
      exact (Nat.eq_of_mul_eq_mul_left gp' this).symm
  by_cases z : 0 < d
  · simp only [if_pos z]
    exact key G (.inl rfl) (fun _ => gp) (fun k => absurd k (by omega))
  · simp only [if_neg z]
    exact key (-G) (.inr rfl) (fun k => absurd k z) (fun _ => by omega)
theorem canon_ev {x y d : Int} (h : d ≠ 0) : Can (canon x y d) ∧ ∃ g : Int, 0 < g ∧ ∀ l : Ln, g * ev l (canon x y d) = (if 0 < d then 1 else -1) * (l.a * x + l.b * y + l.c * d) := by
  obtain ⟨g, g1, g2, hx, hy, hd, c⟩ := canon_spec (x := x) (y := y) h
  refine ⟨c, ?_⟩
  generalize canon x y d = p at *
  by_cases z : 0 < d
  · refine ⟨g, g1 z, fun l => ?_⟩
    rw [if_pos z]
    simp only [ev]
    grind
  · refine ⟨-g, by have := g2 (by omega); omega, fun l => ?_⟩
    rw [if_neg z]
    simp only [ev]
    grind
/-- the place where a way crosses a line -/
def cross (p q : Pt) (s t : Int) : Pt := canon (q.x * s - p.x * t) (q.y * s - p.y * t) (s * q.d - t * p.d)
theorem cross_spec {p q : Pt} {s t : Int} (hp : 0 < p.d) (hq : 0 < q.d) (h : s * t < 0) : Can (cross p q s t) ∧ ∃ g : Int, 0 < g ∧ ∀ l, g * ev l (cross p q s t) = (if 0 < s then s else -s) * ev l q + (if 0 < s then -t else t) * ev l p := by
  have hs : s ≠ 0 := by rintro rfl; omega
  by_cases k : 0 < s
  · have ht : t < 0 := by
      rcases Int.lt_or_le t 0 with z | z
      · exact z
      · have := Int.mul_nonneg (Int.le_of_lt k) z; omega
    have d0 : 0 < s * q.d - t * p.d := by
      have := Int.mul_pos k hq
      have : 0 < (-t) * p.d := Int.mul_pos (by omega) hp
      rw [Int.neg_mul] at this
      omega
    obtain ⟨c, g, gp, e⟩ := canon_ev (x := q.x * s - p.x * t) (y := q.y * s - p.y * t) (d := s * q.d - t * p.d) (by omega)
    refine ⟨c, g, gp, fun l => ?_⟩
    have := e l
    unfold cross
    rw [this, if_pos d0, if_pos k, if_pos k]
    simp only [ev]
    grind
  · have ht : 0 < t := by
      rcases Int.lt_or_le 0 t with z | z
      · exact z
      · have := Int.mul_nonneg_of_nonpos_of_nonpos (a := s) (by omega) z; omega
    have d0 : s * q.d - t * p.d < 0 := by
      have := Int.mul_pos ht hp
      have : 0 < (-s) * q.d := Int.mul_pos (by omega) hq
      rw [Int.neg_mul] at this
      omega
    obtain ⟨c, g, gp, e⟩ := canon_ev (x := q.x * s - p.x * t) (y := q.y * s - p.y * t) (d := s * q.d - t * p.d) (by omega)
    refine ⟨c, g, gp, fun l => ?_⟩
    have := e l
    unfold cross
    rw [this, if_neg (by omega), if_neg k, if_neg k]
    simp only [ev]
    grind
/-! ### cutting -/
/-- the places that are left, and those on the line -/
def cutL (V : List Pt) (h : Ln) : List Pt :=
  V.filter (fun p => decide (0 ≤ ev h p)) ++ (cyc V).filterMap fun e => if ev h e.1 * ev h e.2 < 0 then some (cross e.1 e.2 (ev h e.1) (ev h e.2)) else none
theorem mem_cutL {V : List Pt} {h : Ln} {x : Pt} : x ∈ cutL V h ↔ (x ∈ V ∧ 0 ≤ ev h x) ∨ ∃ a b, (a, b) ∈ cyc V ∧ ev h a * ev h b < 0 ∧ x = cross a b (ev h a) (ev h b) := by
  unfold cutL
  rw [List.mem_append, List.mem_filter, List.mem_filterMap]
  constructor
  · rintro (⟨h1, h2⟩ | ⟨⟨a, b⟩, h1, h2⟩)
    · exact .inl ⟨h1, of_decide_eq_true h2⟩
    · split at h2
      · rename_i z
        exact .inr ⟨a, b, h1, z, (Option.some.inj h2).symm⟩
      · cases h2
  · rintro (⟨h1, h2⟩ | ⟨a, b, h1, h2, h3⟩)
    · exact .inl ⟨h1, decide_eq_true h2⟩
    · exact .inr ⟨(a, b), h1, by rw [if_pos h2, h3]⟩
theorem cyc_mem {V : List Pt} {a b : Pt} (h : (a, b) ∈ cyc V) : a ∈ V ∧ b ∈ V := by
  unfold cyc at h
  have := List.of_mem_zip h
  refine ⟨this.1, ?_⟩
  rcases List.mem_append.mp this.2 with k | k
  · exact List.mem_of_mem_drop k
  · exact List.mem_of_mem_take k
theorem cutL_can {V : List Pt} {h : Ln} (c : ∀ p ∈ V, Can p) : ∀ p ∈ cutL V h, Can p := fun p m => by
  rcases mem_cutL.mp m with ⟨k, _⟩ | ⟨a, b, k, z, rfl⟩
  · exact c p k
  · obtain ⟨ka, kb⟩ := cyc_mem k
    exact (cross_spec (c a ka).pos (c b kb).pos z).1
/-- t a - s b, where s, t are the depths of a and b -/
def onl (h : Ln) (a b : Pt) : Pt := ⟨ev h b * a.x - ev h a * b.x, ev h b * a.y - ev h a * b.y, ev h b * a.d - ev h a * b.d⟩
theorem ev_onl (h l : Ln) (a b : Pt) : ev l (onl h a b) = ev h b * ev l a - ev h a * ev l b := by simp only [ev, onl]; grind
theorem det_onl (h : Ln) (a b x y : Pt) (z : ev h x = 0) : det (onl h a b) x y = - (det a b x * ev h y) := by
  have e := cramer h a b x y
  rw [z] at e
  have e1 : det (onl h a b) x y = ev h b * det a x y - ev h a * det b x y := by simp only [det, onl]; grind
  have e2 : det y b x = det b x y := (det_rot y b x).symm
  have e3 : det a y x = - det a x y := det_swap a x y
  rw [e1, e, e2, e3]
  grind
theorem det_onl3 (h : Ln) (a b c d : Pt) : det a b (onl h c d) = ev h d * det a b c - ev h c * det a b d := by
  rw [← ev_side, ev_onl, ev_side, ev_side]
theorem onl_key {h l : Ln} {a b c d x y : Pt} (z : ev h x = 0) (hy : ev h y ≠ 0) : det a b (onl h c d) * ev l x = det a b x * ev l (onl h c d) - det c d x * ev l (onl h a b) := by
  -- all of onl a b, onl c d, x lie on the line
  have z1 : ev h (onl h a b) = 0 := by rw [ev_onl]; grind
  have z2 : ev h (onl h c d) = 0 := by rw [ev_onl]; grind
  have c1 := det_onl h a b x y z
  have c2 := det_onl h c d x y z
  have c3 := det_onl h a b (onl h c d) y z2
  generalize onl h a b = u at *
  generalize onl h c d = w at *
  have d0 : det u w x = 0 := by
    have e := cramer h u w x y
    rw [z1, z2, z] at e
    have : det u w x * ev h y = 0 := by omega
    exact (Int.mul_eq_zero.mp this).resolve_right hy
  have e := cramer l u w y x
  have s1 : det x w y = - det w x y := det_swap' w x y
  rw [s1, c1, c2, c3, d0] at e
  generalize det a b w = K at *
  generalize det a b x = t1 at *
  generalize det c d x = t2 at *
  have : ev h y * (K * ev l x - (t1 * ev l w - t2 * ev l u)) = 0 := by grind
  have := (Int.mul_eq_zero.mp this).resolve_left hy
  omega
theorem eqv_of_det {u x : Pt} (h : ∀ y, det u x y = 0) : Eqv u x := by
  have h1 := h ⟨0, 1, 0⟩
  have h2 := h ⟨1, 0, 0⟩
  simp only [det] at h1 h2
  exact ⟨by simp only [dX]; grind, by simp only [dY]; grind⟩
/-- a place of the plate on the line -/
theorem online {V : List Pt} {h l : Ln} {x : Pt} (P : IsPl V) (cx : InC V x) (xd : 0 < x.d) (z : ev h x = 0) (hn : ∃ v ∈ V, ev h v < 0) (hp : ∃ v ∈ V, ¬ ev h v < 0)
    (k1 : ∀ v ∈ V, 0 ≤ ev h v → 0 ≤ ev l v) (k2 : ∀ a b, (a, b) ∈ cyc V → ev h a * ev h b < 0 → 0 ≤ ev l (cross a b (ev h a) (ev h b))) : 0 ≤ ev l x := by
  obtain ⟨a, b, hab, ha, hb⟩ := cyc_change hn hp
  obtain ⟨c, d, hcd, hc, hd⟩ := cyc_change (P := fun v => ¬ ev h v < 0) hp (by obtain ⟨v, m, k⟩ := hn; exact ⟨v, m, fun z => z k⟩)
  have hd' : ev h d < 0 := Decidable.of_not_not hd
  obtain ⟨ma, mb⟩ := cyc_mem hab
  obtain ⟨mc, md⟩ := cyc_mem hcd
  have pos := P.pos
  -- u: where the way from a to b crosses; w: that from c to d
  have side_ok : ∀ {a b : Pt}, (a, b) ∈ cyc V → ((ev h a < 0 ∧ 0 ≤ ev h b) → 0 ≤ ev l (onl h a b)) ∧ ((0 ≤ ev h a ∧ ev h b < 0) → ev l (onl h a b) ≤ 0) := fun {a b} m => by
    obtain ⟨ma, mb⟩ := cyc_mem m
    rw [ev_onl]
    constructor
    · rintro ⟨h1, h2⟩
      by_cases e : ev h b = 0
      · have q := k1 b mb h2
        rw [e, Int.zero_mul]
        have : 0 ≤ (- ev h a) * ev l b := Int.mul_nonneg (by omega) q
        rw [Int.neg_mul] at this
        omega
      · have n : ev h a * ev h b < 0 := Int.mul_neg_of_neg_of_pos h1 (by omega)
        obtain ⟨_, g, gp, e2⟩ := cross_spec (pos a ma) (pos b mb) n
        have q := k2 a b m n
        have := e2 l
        rw [if_neg (by omega), if_neg (by omega)] at this
        have := Int.mul_nonneg (Int.le_of_lt gp) q
        grind
    · rintro ⟨h1, h2⟩
      by_cases e : ev h a = 0
      · have q := k1 a ma h1
        rw [e, Int.zero_mul]
        have : 0 ≤ (- ev h b) * ev l a := Int.mul_nonneg (by omega) q
        rw [Int.neg_mul] at this
        omega
      · have n : ev h a * ev h b < 0 := Int.mul_neg_of_pos_of_neg (by omega) h2
        obtain ⟨_, g, gp, e2⟩ := cross_spec (pos a ma) (pos b mb) n
        have q := k2 a b m n
        have := e2 l
        rw [if_pos (by omega), if_pos (by omega)] at this
        have := Int.mul_nonneg (Int.le_of_lt gp) q
        grind
  have lu := (side_ok hab).1 ⟨ha, by omega⟩
  have lw := (side_ok hcd).2 ⟨by omega, hd'⟩
  have t1 := P.edge hab x cx
  have t2 := P.edge hcd x cx
  have K : 0 ≤ - det a b (onl h c d) := by
    rw [det_onl3]
    have q1 := P.edge hab c (InC.mem mc)
    have q2 := P.edge hab d (InC.mem md)
    have r1 : 0 ≤ (- ev h d) * det a b c := Int.mul_nonneg (by omega) q1
    have r2 : 0 ≤ ev h c * det a b d := Int.mul_nonneg (by omega) q2
    rw [Int.neg_mul] at r1
    omega
  have du : 0 < (onl h a b).d := by
    show 0 < ev h b * a.d - ev h a * b.d
    have r1 : 0 < (- ev h a) * b.d := Int.mul_pos (by omega) (pos b mb)
    have r2 : 0 ≤ ev h b * a.d := Int.mul_nonneg (by omega) (Int.le_of_lt (pos a ma))
    rw [Int.neg_mul] at r1
    omega
  have dw : (onl h c d).d < 0 := by
    show ev h d * c.d - ev h c * d.d < 0
    have r1 : 0 < (- ev h d) * c.d := Int.mul_pos (by omega) (pos c mc)
    have r2 : 0 ≤ ev h c * d.d := Int.mul_nonneg (by omega) (Int.le_of_lt (pos d md))
    rw [Int.neg_mul] at r1
    omega
  have key := fun l => onl_key (l := l) (a := a) (b := b) (c := c) (d := d) z (y := a) (by omega)
  have kl := key l
  have r1 : 0 ≤ det a b x * (- ev l (onl h c d)) := Int.mul_nonneg t1 (by omega)
  have r2 : 0 ≤ det c d x * ev l (onl h a b) := Int.mul_nonneg t2 lu
  rw [Int.mul_neg] at r1
  rcases Int.lt_or_le 0 (- det a b (onl h c d)) with kp | kp
  · refine nonneg_of_mul kp ?_
    rw [Int.neg_mul, kl]
    omega
  · -- the two ways cross in one place
    have K0 : det a b (onl h c d) = 0 := by omega
    have kd := key ⟨0, 0, 1⟩
    have e1 : ∀ p, ev ⟨0, 0, 1⟩ p = p.d := fun p => by simp only [ev]; omega
    rw [K0, e1, e1, e1, Int.zero_mul] at kd
    have s1 : 0 ≤ det a b x * (- (onl h c d).d) := Int.mul_nonneg t1 (by omega)
    have s2 : 0 ≤ det c d x * (onl h a b).d := Int.mul_nonneg t2 (by omega)
    rw [Int.mul_neg] at s1
    have t10 : det a b x = 0 := by
      have : det a b x * (onl h c d).d = 0 := by omega
      rcases Int.mul_eq_zero.mp this with z | z
      · exact z
      · omega
    have ee : Eqv (onl h a b) x := eqv_of_det fun y => by rw [det_onl h a b x y z, t10]; omega
    have := eqv_ev ee l
    refine nonneg_of_mul du ?_
    rw [this]
    exact Int.mul_nonneg (by omega) lu
theorem exists_max {α : Type} (r : α → α → Prop) (tot : ∀ a b, r a b ∨ r b a) (tr : ∀ a b c, r a b → r b c → r a c) : ∀ {L : List α}, L ≠ [] → ∃ m ∈ L, ∀ v ∈ L, r v m
  | [], h => absurd rfl h
  | [a], _ => ⟨a, by simp, fun v m => by rw [List.mem_singleton.mp m]; exact (tot a a).elim id id⟩
  | a :: b :: L, _ => by
    obtain ⟨m, hm, h⟩ := exists_max r tot tr (L := b :: L) (by simp)
    rcases tot a m with k | k
    · exact ⟨m, List.mem_cons_of_mem _ hm, fun v hv => by
        rcases List.mem_cons.mp hv with e | e
        · rw [e]; exact k
        · exact h v e⟩
    · exact ⟨a, by simp, fun v hv => by
        rcases List.mem_cons.mp hv with e | e
        · rw [e]; exact (tot a a).elim id id
        · exact tr v m a (h v e) k⟩
/-- the cut: what the plate and the half plane both have -/
theorem cutL_inC {V : List Pt} {h : Ln} {q : Pt} (P : IsPl V) : InC (cutL V h) q ↔ InC V q ∧ 0 ≤ ev h q := by
  have pos := P.pos
  constructor
  · intro c
    constructor
    · refine c.mono fun p m => ?_
      rcases mem_cutL.mp m with ⟨k, _⟩ | ⟨a, b, k, z, rfl⟩
      · exact InC.mem k
      · obtain ⟨ma, mb⟩ := cyc_mem k
        obtain ⟨_, g, gp, e⟩ := cross_spec (pos a ma) (pos b mb) z
        intro l kl
        refine nonneg_of_mul gp ?_
        rw [e l]
        have s0 : ev h a ≠ 0 := by intro w; rw [w] at z; omega
        by_cases s : 0 < ev h a
        · rw [if_pos s, if_pos s]
          have tb : ev h b < 0 := by
            rcases Int.lt_or_le (ev h b) 0 with w | w
            · exact w
            · have := Int.mul_nonneg (Int.le_of_lt s) w; omega
          have := Int.mul_nonneg (Int.le_of_lt s) (kl b mb)
          have : 0 ≤ (- ev h b) * ev l a := Int.mul_nonneg (by omega) (kl a ma)
          omega
        · rw [if_neg s, if_neg s]
          have tb : 0 < ev h b := by
            rcases Int.lt_or_le 0 (ev h b) with w | w
            · exact w
            · have := Int.mul_nonneg_of_nonpos_of_nonpos (a := ev h a) (by omega) w; omega
          have := Int.mul_nonneg (Int.le_of_lt tb) (kl a ma)
          have : 0 ≤ (- ev h a) * ev l b := Int.mul_nonneg (by omega) (kl b mb)
          omega
    · refine c h fun p m => ?_
      rcases mem_cutL.mp m with ⟨_, k⟩ | ⟨a, b, k, z, rfl⟩
      · exact k
      · obtain ⟨ma, mb⟩ := cyc_mem k
        obtain ⟨_, g, gp, e⟩ := cross_spec (pos a ma) (pos b mb) z
        refine nonneg_of_mul gp ?_
        rw [e h]
        split
        · rw [Int.neg_mul, Int.mul_comm]; omega
        · rw [Int.neg_mul, Int.mul_comm]; omega
  · rintro ⟨c, hq⟩ l kl
    have k1 : ∀ v ∈ V, 0 ≤ ev h v → 0 ≤ ev l v := fun v m z => kl v (mem_cutL.mpr (.inl ⟨m, z⟩))
    have k2 : ∀ a b, (a, b) ∈ cyc V → ev h a * ev h b < 0 → 0 ≤ ev l (cross a b (ev h a) (ev h b)) := fun a b m z => kl _ (mem_cutL.mpr (.inr ⟨a, b, m, z, rfl⟩))
    by_cases hn : ∃ v ∈ V, ev h v < 0
    · -- m: the greatest ratio of those beyond the line
      let Vn := V.filter fun v => decide (ev h v < 0)
      have hVn : Vn ≠ [] := by
        obtain ⟨v, m, k⟩ := hn
        exact List.ne_nil_of_mem (List.mem_filter.mpr ⟨m, decide_eq_true k⟩)
      have memn : ∀ v, v ∈ Vn → v ∈ V ∧ ev h v < 0 := fun v m => ⟨(List.mem_filter.mp m).1, of_decide_eq_true (List.mem_filter.mp m).2⟩
      have hmx : ∃ m, m ∈ V ∧ ev h m < 0 ∧ ∀ v ∈ V, ev h v < 0 → 0 ≤ - ev h m * ev l v + ev l m * ev h v := by
        have key := fun L => exists_max (L := L) (fun (v m : {v : Pt // ev h v < 0}) => 0 ≤ - ev h m.1 * ev l v.1 + ev l m.1 * ev h v.1)
          (fun a b => by
            have : (- ev h b.1 * ev l a.1 + ev l b.1 * ev h a.1) = - (- ev h a.1 * ev l b.1 + ev l a.1 * ev h b.1) := by grind
            omega)
          (fun a b c h1 h2 => by
            have hb := b.2
            have hc := c.2
            have ha := a.2
            refine nonneg_of_mul (a := - ev h b.1) (by omega) ?_
            have r1 : 0 ≤ (- ev h c.1) * (- ev h b.1 * ev l a.1 + ev l b.1 * ev h a.1) := Int.mul_nonneg (by omega) h1
            have r2 : 0 ≤ (- ev h a.1) * (- ev h c.1 * ev l b.1 + ev l c.1 * ev h b.1) := Int.mul_nonneg (by omega) h2
            grind)
        have key2 := key (Vn.attach.map fun v => (⟨v.1, (memn v.1 v.2).2⟩ : {v : Pt // ev h v < 0})) (by simpa using hVn)
        obtain ⟨m, hm, hmax⟩ := key2
        refine ⟨m.1, ?_, m.2, fun v hv hz => ?_⟩
        · obtain ⟨w, _, e⟩ := List.mem_map.mp hm
          rw [← e]
          exact (memn w.1 w.2).1
        · have hv' : v ∈ Vn := List.mem_filter.mpr ⟨hv, decide_eq_true hz⟩
          exact hmax ⟨v, hz⟩ (List.mem_map.mpr ⟨⟨v, hv'⟩, List.mem_attach .., rfl⟩)
      obtain ⟨m, mV, hmn, hmax'⟩ := hmx
      by_cases lm : 0 ≤ ev l m
      · -- l is nowhere below 0
        refine c l fun v hv => ?_
        rcases Int.lt_or_le (ev h v) 0 with z | z
        · have := hmax' v hv z
          have r : 0 ≤ ev l m * (- ev h v) := Int.mul_nonneg lm (by omega)
          rw [Int.mul_neg] at r
          exact nonneg_of_mul (a := - ev h m) (by omega) (by omega)
        · exact k1 v hv z
      · have g := c (add (smul (- ev h m) l) (smul (ev l m) h)) fun v hv => by
          rw [ev_add, ev_smul, ev_smul]
          rcases Int.lt_or_le (ev h v) 0 with z | z
          · exact hmax' v hv z
          · by_cases z0 : ev h v = 0
            · rw [z0]
              have := Int.mul_nonneg (a := - ev h m) (by omega) (k1 v hv z)
              omega
            · -- the place between m and v on the line
              have n : ev h m * ev h v < 0 := Int.mul_neg_of_neg_of_pos hmn (by omega)
              obtain ⟨cx, g, gp, e⟩ := cross_spec (pos m mV) (pos v hv) n
              have inx : InC V (cross m v (ev h m) (ev h v)) := fun l' kl' => by
                refine nonneg_of_mul gp ?_
                rw [e l', if_neg (by omega), if_neg (by omega)]
                have := Int.mul_nonneg (a := - ev h m) (by omega) (kl' v hv)
                have := Int.mul_nonneg (a := ev h v) (by omega) (kl' m mV)
                omega
              have zx : ev h (cross m v (ev h m) (ev h v)) = 0 := by
                have := e h
                rw [if_neg (by omega), if_neg (by omega)] at this
                exact zero_of_mul gp (by rw [this]; grind)
              have := online P inx cx.pos zx ⟨m, mV, hmn⟩ ⟨v, hv, by omega⟩ k1 k2
              have r := Int.mul_nonneg (Int.le_of_lt gp) this
              rw [e l, if_neg (by omega), if_neg (by omega)] at r
              have : ev h v * ev l m = ev l m * ev h v := Int.mul_comm ..
              omega
        rw [ev_add, ev_smul, ev_smul] at g
        have r : 0 ≤ (- ev l m) * ev h q := Int.mul_nonneg (by omega) hq
        rw [Int.neg_mul] at r
        exact nonneg_of_mul (a := - ev h m) (by omega) (by omega)
    · refine c l fun v hv => k1 v hv ?_
      rcases Int.lt_or_le (ev h v) 0 with z | z
      · exact absurd ⟨v, hv, z⟩ hn
      · exact z
end Pz

/-! Geo6: the hull of any places; borders; what two plates both have. -/
namespace Pz
/-! ### sorting -/
def ins (p : Pt) : List Pt → List Pt
  | [] => [p]
  | q :: r => if p = q then q :: r else if Lt p q then p :: q :: r else q :: ins p r
def sortP (L : List Pt) : List Pt := L.foldl (fun s p => ins p s) []
theorem mem_ins {p x : Pt} : ∀ {S : List Pt}, x ∈ ins p S ↔ x = p ∨ x ∈ S
  | [] => by simp [ins]
  | q :: r => by
    unfold ins
    split
    · rename_i e; subst e; simp
    · split
      · simp
      · rw [List.mem_cons, mem_ins (S := r), List.mem_cons]
        constructor
        · rintro (h | h | h)
          · exact .inr (.inl h)
          · exact .inl h
          · exact .inr (.inr h)
        · rintro (h | h | h)
          · exact .inr (.inl h)
          · exact .inl h
          · exact .inr (.inr h)
theorem asc_ins {p : Pt} (hp : Can p) : ∀ {S : List Pt}, Asc S → (∀ q ∈ S, Can q) → Asc (ins p S)
  | [], _, _ => List.pairwise_singleton _ _
  | q :: r, ha, hc => by
    have pc := List.pairwise_cons.mp ha
    have hq := hc q (by simp)
    unfold ins
    split
    · exact ha
    · rename_i ne
      split
      · rename_i lt
        refine List.pairwise_cons.mpr ⟨fun x m => ?_, ha⟩
        rcases List.mem_cons.mp m with e | m
        · rw [e]; exact lt
        · exact Lt.trans hp.pos hq.pos (hc x (by simp [m])).pos lt (pc.1 x m)
      · rename_i nl
        refine List.pairwise_cons.mpr ⟨fun x m => ?_, asc_ins hp pc.2 fun x m => hc x (List.mem_cons_of_mem _ m)⟩
        rcases mem_ins.mp m with e | m
        · subst e
          rcases Lt.total hp hq with k | k | k
          · exact absurd k nl
          · exact absurd k ne
          · exact k
        · exact pc.1 x m
theorem sortP_spec {L : List Pt} (hc : ∀ p ∈ L, Can p) : Asc (sortP L) ∧ ∀ x, x ∈ sortP L ↔ x ∈ L := by
  suffices h : ∀ (L S : List Pt), Asc S → (∀ p ∈ S, Can p) → (∀ p ∈ L, Can p) → Asc (L.foldl (fun s p => ins p s) S) ∧ ∀ x, x ∈ L.foldl (fun s p => ins p s) S ↔ x ∈ S ∨ x ∈ L by
    obtain ⟨h1, h2⟩ := h L [] List.Pairwise.nil (fun _ z => (nomatch z)) hc
    exact ⟨h1, fun x => by rw [sortP, h2]; simp⟩
  intro L
  induction L with
  | nil => intro S ha _ _; exact ⟨ha, fun x => by simp⟩
  | cons p L ih =>
    intro S ha hs hl
    have hp := hl p (by simp)
    obtain ⟨h1, h2⟩ := ih (ins p S) (asc_ins hp ha hs) (fun q m => by
      rcases mem_ins.mp m with e | m
      · rw [e]; exact hp
      · exact hs q m) fun q m => hl q (List.mem_cons_of_mem _ m)
    refine ⟨h1, fun x => ?_⟩
    rw [List.foldl_cons, h2, mem_ins, List.mem_cons]
    constructor
    · rintro ((h | h) | h)
      · exact .inr (.inl h)
      · exact .inl h
      · exact .inr (.inr h)
    · rintro (h | h | h)
      · exact .inl (.inr h)
      · exact .inl (.inl h)
      · exact .inr h
/-- there is one ascending list of them -/
theorem asc_uniq {L S : List Pt} (hc : ∀ p ∈ L, Can p) (ha : Asc S) (h : ∀ x, x ∈ S ↔ x ∈ L) : S = sortP L := by
  obtain ⟨h1, h2⟩ := sortP_spec hc
  exact sorted_eq (R := Lt) (fun a b k1 k2 => k1.asymm k2) ha h1 fun x => by rw [h, h2]
/-- the program's hull -/
def hullM (L : List Pt) : List Pt := hullA (sortP L)
theorem hullM_pl {L : List Pt} (hc : ∀ p ∈ L, Can p) (n : L ≠ []) : IsPl (hullM L) := by
  obtain ⟨h1, h2⟩ := sortP_spec hc
  refine ⟨sortP L, h1, fun p m => hc p ((h2 p).mp m), ?_, rfl⟩
  obtain ⟨a, m⟩ := List.exists_mem_of_ne_nil L n
  exact List.ne_nil_of_mem ((h2 a).mpr m)
theorem inC_congr {L M : List Pt} (h : ∀ x, x ∈ L ↔ x ∈ M) (q : Pt) : InC L q ↔ InC M q :=
  ⟨fun k => k.mono fun p m => InC.mem ((h p).mp m), fun k => k.mono fun p m => InC.mem ((h p).mpr m)⟩
theorem hullM_inC {L : List Pt} (hc : ∀ p ∈ L, Can p) (q : Pt) : InC (hullM L) q ↔ InC L q := by
  obtain ⟨h1, h2⟩ := sortP_spec hc
  unfold hullM
  rw [hullA_inC h1 fun p m => (hc p ((h2 p).mp m)).pos]
  exact inC_congr h2 q
theorem IsPl.hullM {V : List Pt} (h : IsPl V) : hullM V = V := by
  refine (hullM_pl h.can h.ne).uniq h fun q _ => hullM_inC h.can q
theorem hullA_len {L : List Pt} (ha : Asc L) (hpos : PosD L) : ∀ v ∈ hullA L, v ∈ L := hullA_sub ha hpos

/-! ### whether a plate has a place -/
def nbrs (V : List Pt) : List (Pt × Pt) := (cyc V).filter fun e => decide (e.1 ≠ e.2)
theorem mem_nbrs {V : List Pt} {a b : Pt} : (a, b) ∈ nbrs V ↔ (a, b) ∈ cyc V ∧ a ≠ b := by
  unfold nbrs; rw [List.mem_filter]; simp
def hasM (V : List Pt) (p : Pt) : Bool :=
  (nbrs V).all (fun e => decide (0 ≤ det e.1 e.2 p)) && (decide (2 < V.length) || (!decide (Lt p (V.headD p)) && !decide (Lt (V.getLastD p) p)))
theorem not_before {V : List Pt} {a q : Pt} (c : InC V q) (h : ∀ v ∈ V, v = a ∨ Lt a v) : ¬ Lt q a := fun lt => by
  obtain ⟨N, h0, hN⟩ := bound_list (dY a) (q :: V)
  have e : ∀ q, ev ⟨N * a.d, a.d, -(N * a.x) - a.y⟩ q = N * dX a q + dY a q := fun q => by simp only [ev, dX, dY]; grind
  have := c ⟨N * a.d, a.d, -(N * a.x) - a.y⟩ fun v m => by
    rw [e]
    rcases h v m with k | k | ⟨k, k'⟩
    · rw [k, dX_self, dY_self]; omega
    · have := (hN v (by simp [m])).1
      have : N * 1 ≤ N * dX a v := Int.mul_le_mul_of_nonneg_left (by omega) (by omega)
      omega
    · rw [k]; omega
  rw [e] at this
  have n1 := dX_neg q a
  have n2 := dY_neg q a
  rcases lt with k | ⟨k, k'⟩
  · have := (hN q (by simp)).2
    have r : N * 1 ≤ N * (- dX a q) := Int.mul_le_mul_of_nonneg_left (by omega) (by omega)
    rw [Int.mul_neg] at r
    omega
  · have z : dX a q = 0 := by omega
    rw [z] at this
    omega
theorem not_behind {V : List Pt} {a q : Pt} (c : InC V q) (h : ∀ v ∈ V, v = a ∨ Lt v a) : ¬ Lt a q := fun lt => by
  obtain ⟨N, h0, hN⟩ := bound_list (dY a) (q :: V)
  have e : ∀ q, ev ⟨-(N * a.d), -a.d, N * a.x + a.y⟩ q = -(N * dX a q + dY a q) := fun q => by simp only [ev, dX, dY]; grind
  have := c ⟨-(N * a.d), -a.d, N * a.x + a.y⟩ fun v m => by
    rw [e]
    rcases h v m with k | k | ⟨k, k'⟩
    · rw [k, dX_self, dY_self]; omega
    · have := (hN v (by simp [m])).2
      have n1 := dX_neg a v
      have r : N * 1 ≤ N * (- dX a v) := Int.mul_le_mul_of_nonneg_left (by omega) (by omega)
      rw [Int.mul_neg] at r
      omega
    · have n1 := dX_neg a v
      have n2 := dY_neg a v
      have z : dX a v = 0 := by omega
      rw [z]; omega
  rw [e] at this
  rcases lt with k | ⟨k, k'⟩
  · have := (hN q (by simp)).1
    have r : N * 1 ≤ N * dX a q := Int.mul_le_mul_of_nonneg_left (by omega) (by omega)
    omega
  · rw [k] at this
    omega
theorem nbrs_all {V : List Pt} {p : Pt} : (nbrs V).all (fun e => decide (0 ≤ det e.1 e.2 p)) = true ↔ ∀ a b, (a, b) ∈ cyc V → 0 ≤ det a b p := by
  rw [List.all_eq_true]
  constructor
  · intro h a b m
    by_cases e : a = b
    · rw [e, det_aa]; omega
    · exact of_decide_eq_true (h (a, b) (mem_nbrs.mpr ⟨m, e⟩))
  · rintro h ⟨a, b⟩ m
    exact decide_eq_true (h a b (mem_nbrs.mp m).1)
theorem hasM_iff {V : List Pt} {p : Pt} (P : IsPl V) (hp : Can p) : hasM V p = true ↔ InC V p := by
  unfold hasM
  rw [Bool.and_eq_true, nbrs_all]
  have len0 : 0 < V.length := List.length_pos_iff.mpr P.ne
  by_cases h3 : 2 < V.length
  · rw [decide_eq_true h3, Bool.true_or]
    exact ⟨fun h => P.inside h3 h.1, fun h => ⟨fun a b m => P.edge m p h, rfl⟩⟩
  · rw [decide_eq_false h3, Bool.false_or, Bool.and_eq_true, Bool.not_eq_true', Bool.not_eq_true', decide_eq_false_iff_not, decide_eq_false_iff_not]
    by_cases h2 : V.length = 2
    · obtain ⟨a, b, rfl, ab⟩ := P.two h2
      have ha := P.can a (by simp)
      have e1 : [a, b].headD p = a := rfl
      have e2 : [a, b].getLastD p = b := rfl
      rw [e1, e2]
      constructor
      · rintro ⟨h, k1, k2⟩
        have c1 := h a b (by simp [cyc])
        have c2 := h b a (by simp [cyc])
        have := det_swap' a b p
        exact stretch_X ha.pos ab (by omega) k1 k2
      · intro c
        refine ⟨fun x y m => P.edge m p c, not_before c fun v m => ?_, not_behind c fun v m => ?_⟩
        · simp at m
          rcases m with e | e
          · exact .inl e
          · rw [e]; exact .inr ab
        · simp at m
          rcases m with e | e
          · rw [e]; exact .inr ab
          · exact .inl e
    · obtain ⟨a, rfl⟩ := len1 (L := V) (by omega)
      have ha := P.can a (by simp)
      have e1 : [a].headD p = a := rfl
      have e2 : [a].getLastD p = a := rfl
      rw [e1, e2]
      constructor
      · rintro ⟨_, k1, k2⟩
        rcases Lt.total hp ha with k | k | k
        · exact absurd k k1
        · rw [k]; exact InC.mem (by simp)
        · exact absurd k k2
      · intro c
        have := eq_of_can ha hp (one_eqv c)
        subst this
        exact ⟨fun x y m => P.edge m _ c, fun k => k.irrefl, fun k => k.irrefl⟩

/-! ### directions, heights, half planes, as the program reckons them -/
/-- a half plane a x + b y ≥ c: what depth tells -/
def dep (h : Ln) : Ln := ⟨h.a, h.b, -h.c⟩
def dirM (a b : Int) : Int × Int := (a / (Int.gcd a b : Int), b / (Int.gcd a b : Int))
def towM (p q : Pt) : Int × Int := let w := canon (q.x * p.d - p.x * q.d) (q.y * p.d - p.y * q.d) (q.d * p.d); dirM w.x w.y
def frM (p q : Int) : Int × Int := let g : Int := if 0 < q then Int.gcd p q else -(Int.gcd p q : Int); (p / g, q / g)
def hgtM (u : Int × Int) (p : Pt) : Int × Int := frM (u.1 * p.x + u.2 * p.y) p.d
def halfM (a b c : Int) : Ln := let g : Int := Int.gcd (Int.gcd a b) c; ⟨a / g, b / g, c / g⟩
def hatM (u : Int × Int) (p : Pt) : Ln := let h := hgtM u p; halfM (u.1 * h.2) (u.2 * h.2) h.1
def faceM (h : Ln) : Ln := ⟨-h.a, -h.b, -h.c⟩
def backM (u : Int × Int) : Int × Int := (-u.1, -u.2)
def quartM (u : Int × Int) : Int × Int := (-u.2, u.1)
def sideM (e : Pt × Pt) : (Int × Int) × Pt × Pt := (backM (quartM (towM e.1 e.2)), e.1, e.2)
def bordM (V : List Pt) : List Ln :=
  let f := (nbrs V).map fun e => faceM (hatM (sideM e).1 e.1)
  match V with
  | [a, b] => f ++ [hatM (towM a b) a, hatM (backM (towM a b)) b]
  | _ => f

theorem gcd_div2 {a b : Int} (h : a ≠ 0 ∨ b ≠ 0) : 0 < (Int.gcd a b : Int) ∧ (Int.gcd a b : Int) * (dirM a b).1 = a ∧ (Int.gcd a b : Int) * (dirM a b).2 = b := by
  have : Int.gcd a b ≠ 0 := fun z => by
    have := Int.gcd_eq_zero_iff.mp z
    omega
  exact ⟨by omega, Int.mul_ediv_cancel' (Int.gcd_dvd_left ..), Int.mul_ediv_cancel' (Int.gcd_dvd_right ..)⟩
theorem tow_spec {p q : Pt} (hp : 0 < p.d) (hq : 0 < q.d) (ne : dX p q ≠ 0 ∨ dY p q ≠ 0) : ∃ g : Int, 0 < g ∧ dX p q = g * (towM p q).1 ∧ dY p q = g * (towM p q).2 := by
  have d0 : 0 < q.d * p.d := Int.mul_pos hq hp
  obtain ⟨g, g1, _, e1, e2, _, _⟩ := canon_spec (x := q.x * p.d - p.x * q.d) (y := q.y * p.d - p.y * q.d) (d := q.d * p.d) (by omega)
  have gp := g1 d0
  unfold towM
  simp only
  generalize canon (q.x * p.d - p.x * q.d) (q.y * p.d - p.y * q.d) (q.d * p.d) = w at *
  have n : w.x ≠ 0 ∨ w.y ≠ 0 := by
    rcases ne with k | k
    · left; intro z; rw [z] at e1; exact k (by simp only [dX]; omega)
    · right; intro z; rw [z] at e2; exact k (by simp only [dY]; omega)
  obtain ⟨k0, k1, k2⟩ := gcd_div2 n
  refine ⟨g * (Int.gcd w.x w.y : Int), Int.mul_pos gp k0, ?_, ?_⟩
  · rw [Int.mul_assoc, k1]; exact e1
  · rw [Int.mul_assoc, k2]; exact e2
theorem fr_spec {p q : Int} (h : 0 < q) : ∃ g : Int, 0 < g ∧ p = g * (frM p q).1 ∧ q = g * (frM p q).2 ∧ 0 < (frM p q).2 := by
  unfold frM
  simp only [if_pos h]
  have g0 : 0 < (Int.gcd p q : Int) := by
    have : Int.gcd p q ≠ 0 := fun z => by have := (Int.gcd_eq_zero_iff.mp z).2; omega
    omega
  have e2 := Int.mul_ediv_cancel' (Int.gcd_dvd_right p q)
  refine ⟨_, g0, (Int.mul_ediv_cancel' (Int.gcd_dvd_left ..)).symm, e2.symm, ?_⟩
  exact pos_of_mul g0 (by rw [e2]; exact h)
theorem half_spec {a b c : Int} (h : a ≠ 0 ∨ b ≠ 0) : ∃ g : Int, 0 < g ∧ a = g * (halfM a b c).a ∧ b = g * (halfM a b c).b ∧ c = g * (halfM a b c).c := by
  unfold halfM
  simp only
  have g0 : 0 < (Int.gcd (Int.gcd a b) c : Int) := by
    have : Int.gcd (Int.gcd a b) c ≠ 0 := fun z => by
      have := (Int.gcd_eq_zero_iff.mp z).1
      have := Int.gcd_eq_zero_iff.mp (show Int.gcd a b = 0 by omega)
      omega
    omega
  have d1 : (Int.gcd (Int.gcd a b) c : Int) ∣ (Int.gcd a b : Int) := Int.gcd_dvd_left ..
  exact ⟨_, g0, (Int.mul_ediv_cancel' (Int.dvd_trans d1 (Int.gcd_dvd_left ..))).symm, (Int.mul_ediv_cancel' (Int.dvd_trans d1 (Int.gcd_dvd_right ..))).symm, (Int.mul_ediv_cancel' (Int.gcd_dvd_right ..)).symm⟩
/-- the half plane along u at p -/
theorem hat_spec {u : Int × Int} {p : Pt} (hp : 0 < p.d) (n : u.1 ≠ 0 ∨ u.2 ≠ 0) : ∃ k : Int, 0 < k ∧ ∀ r : Pt, k * ev (dep (hatM u p)) r = u.1 * dX p r + u.2 * dY p r := by
  unfold hatM
  simp only
  obtain ⟨g, g0, e1, e2, k0⟩ := fr_spec (p := u.1 * p.x + u.2 * p.y) hp
  have eh : hgtM u p = frM (u.1 * p.x + u.2 * p.y) p.d := rfl
  rw [eh]
  generalize frM (u.1 * p.x + u.2 * p.y) p.d = h at *
  have n' : u.1 * h.2 ≠ 0 ∨ u.2 * h.2 ≠ 0 := by
    rcases n with k | k
    · left; intro z; rcases Int.mul_eq_zero.mp z with z | z <;> omega
    · right; intro z; rcases Int.mul_eq_zero.mp z with z | z <;> omega
  obtain ⟨g', g0', f1, f2, f3⟩ := half_spec (c := h.1) n'
  generalize halfM (u.1 * h.2) (u.2 * h.2) h.1 = H at *
  refine ⟨g * g', Int.mul_pos g0 g0', fun r => ?_⟩
  simp only [dep, ev, dX, dY]
  have : g * g' * (H.a * r.x + H.b * r.y + -H.c * r.d) = g * ((g' * H.a) * r.x + (g' * H.b) * r.y - (g' * H.c) * r.d) := by grind
  rw [this, ← f1, ← f2, ← f3]
  have : g * (u.1 * h.2 * r.x + u.2 * h.2 * r.y - h.1 * r.d) = u.1 * (g * h.2) * r.x + u.2 * (g * h.2) * r.y - (g * h.1) * r.d := by grind
  rw [this, ← e1, ← e2]
  grind
theorem lt_nz {p q : Pt} (hp : Can p) (hq : Can q) (ne : p ≠ q) : dX p q ≠ 0 ∨ dY p q ≠ 0 := by
  by_cases h : dX p q = 0
  · right; intro k; exact ne (eq_of_can hp hq ⟨h, k⟩)
  · exact .inl h
/-- a border's half plane has the places on the left of its side -/
theorem bord_spec {p q : Pt} (hp : Can p) (hq : Can q) (ne : p ≠ q) (r : Pt) : 0 ≤ ev (dep (faceM (hatM (sideM (p, q)).1 p))) r ↔ 0 ≤ det p q r := by
  obtain ⟨g, g0, e1, e2⟩ := tow_spec hp.pos hq.pos (lt_nz hp hq ne)
  have eu : (sideM (p, q)).1 = ((towM p q).2, -(towM p q).1) := by simp [sideM, backM, quartM]
  have n : (sideM (p, q)).1.1 ≠ 0 ∨ (sideM (p, q)).1.2 ≠ 0 := by
    rw [eu]
    rcases lt_nz hp hq ne with k | k
    · right; intro z
      have : (towM p q).1 = 0 := by simp at z; exact z
      rw [this] at e1; omega
    · left; intro z
      have : (towM p q).2 = 0 := z
      rw [this] at e2; omega
  obtain ⟨k, k0, e⟩ := hat_spec hp.pos n
  have er := e r
  rw [eu] at er ⊢
  have ef : ev (dep (faceM (hatM ((towM p q).2, -(towM p q).1) p))) r = - ev (dep (hatM ((towM p q).2, -(towM p q).1) p)) r := by simp only [dep, faceM, ev]; grind
  rw [ef]
  have eD := detXY p q r
  generalize ev (dep (hatM ((towM p q).2, -(towM p q).1) p)) r = E at *
  have key : g * (k * E) = -(p.d * det p q r) := by
    rw [er, eD, e1, e2]; grind
  have pp := hp.pos
  constructor
  · intro h
    refine nonneg_of_mul pp ?_
    have := Int.mul_nonneg (Int.le_of_lt g0) (Int.mul_nonneg (Int.le_of_lt k0) h)
    rw [Int.mul_neg, Int.mul_neg] at this
    omega
  · intro h
    have := Int.mul_nonneg (Int.le_of_lt pp) h
    refine nonneg_of_mul k0 (nonneg_of_mul g0 ?_)
    rw [Int.mul_neg, Int.mul_neg]
    omega
/-- all borders of a plate of two corners or more: the plate -/
theorem bordM_iff {V : List Pt} (P : IsPl V) (h2 : 2 ≤ V.length) (r : Pt) : (∀ h ∈ bordM V, 0 ≤ ev (dep h) r) ↔ InC V r := by
  have can := P.can
  have fst : (∀ h ∈ (nbrs V).map fun e => faceM (hatM (sideM e).1 e.1), 0 ≤ ev (dep h) r) ↔ ∀ a b, (a, b) ∈ cyc V → 0 ≤ det a b r := by
    constructor
    · intro h a b m
      by_cases e : a = b
      · rw [e, det_aa]; omega
      · obtain ⟨ma, mb⟩ := cyc_mem m
        exact (bord_spec (can a ma) (can b mb) e r).mp (h _ (List.mem_map.mpr ⟨(a, b), mem_nbrs.mpr ⟨m, e⟩, rfl⟩))
    · intro h x m
      obtain ⟨⟨a, b⟩, k, rfl⟩ := List.mem_map.mp m
      obtain ⟨k1, k2⟩ := mem_nbrs.mp k
      obtain ⟨ma, mb⟩ := cyc_mem k1
      exact (bord_spec (can a ma) (can b mb) k2 r).mpr (h a b k1)
  by_cases h3 : V.length = 2
  · obtain ⟨a, b, rfl, ab⟩ := P.two h3
    have ha := can a (by simp)
    have hb := can b (by simp)
    obtain ⟨g, g0, e1, e2⟩ := tow_spec ha.pos hb.pos (lt_nz ha hb ab.ne)
    have nz := lt_nz ha hb ab.ne
    have n1 : (towM a b).1 ≠ 0 ∨ (towM a b).2 ≠ 0 := by
      rcases nz with k | k
      · left; intro z; rw [z] at e1; omega
      · right; intro z; rw [z] at e2; omega
    have n2 : (backM (towM a b)).1 ≠ 0 ∨ (backM (towM a b)).2 ≠ 0 := by
      simp only [backM]; omega
    obtain ⟨k, k0, f1⟩ := hat_spec ha.pos n1
    obtain ⟨k', k0', f2⟩ := hat_spec hb.pos n2
    have f1 := f1 r
    have f2 := f2 r
    have hB : bordM [a, b] = ((nbrs [a, b]).map fun e => faceM (hatM (sideM e).1 e.1)) ++ [hatM (towM a b) a, hatM (backM (towM a b)) b] := rfl
    have D1 : g * (k * ev (dep (hatM (towM a b) a)) r) = dX a b * dX a r + dY a b * dY a r := by
      rw [f1, e1, e2]; grind
    have D2 : g * (k' * ev (dep (hatM (backM (towM a b)) b)) r) = dX a b * dX r b + dY a b * dY r b := by
      rw [f2, e1, e2, dX_neg b r, dY_neg b r]; simp only [backM]; grind
    rw [hB]
    constructor
    · intro h
      have c := fst.mp fun x m => h x (List.mem_append_left _ m)
      have c1 := c a b (by simp [cyc])
      have c2 := c b a (by simp [cyc])
      have := det_swap' a b r
      refine stretch_D ab (by omega) ?_ ?_
      · rw [← D1]
        exact Int.mul_nonneg (by omega) (Int.mul_nonneg (by omega) (h _ (by simp)))
      · rw [← D2]
        exact Int.mul_nonneg (by omega) (Int.mul_nonneg (by omega) (h _ (by simp)))
    · intro c x m
      rcases List.mem_append.mp m with m | m
      · exact fst.mpr (fun x y mm => P.edge mm r c) x m
      · -- the ends: by the functionals themselves
        simp at m
        rcases m with e | e
        · rw [e]
          refine c _ fun v hv => ?_
          have q := hat_spec ha.pos n1
          obtain ⟨k, k0, f⟩ := q
          refine nonneg_of_mul k0 ?_
          rw [f v]
          simp at hv
          rcases hv with e | e
          · rw [e, dX_self, dY_self]; omega
          · rw [e, e1, e2]
            have p1 : 0 ≤ (towM a b).1 * (towM a b).1 := by
              rcases Int.le_total 0 (towM a b).1 with z | z
              · exact Int.mul_nonneg z z
              · exact Int.mul_nonneg_of_nonpos_of_nonpos z z
            have p2 : 0 ≤ (towM a b).2 * (towM a b).2 := by
              rcases Int.le_total 0 (towM a b).2 with z | z
              · exact Int.mul_nonneg z z
              · exact Int.mul_nonneg_of_nonpos_of_nonpos z z
            have := Int.mul_nonneg (Int.le_of_lt g0) p1
            have := Int.mul_nonneg (Int.le_of_lt g0) p2
            grind
        · rw [e]
          refine c _ fun v hv => ?_
          obtain ⟨k, k0, f⟩ := hat_spec hb.pos n2
          refine nonneg_of_mul k0 ?_
          rw [f v]
          simp at hv
          rcases hv with e | e
          · rw [e, dX_neg a b, dY_neg a b, e1, e2]
            have p1 : 0 ≤ (towM a b).1 * (towM a b).1 := by
              rcases Int.le_total 0 (towM a b).1 with z | z
              · exact Int.mul_nonneg z z
              · exact Int.mul_nonneg_of_nonpos_of_nonpos z z
            have p2 : 0 ≤ (towM a b).2 * (towM a b).2 := by
              rcases Int.le_total 0 (towM a b).2 with z | z
              · exact Int.mul_nonneg z z
              · exact Int.mul_nonneg_of_nonpos_of_nonpos z z
            have := Int.mul_nonneg (Int.le_of_lt g0) p1
            have := Int.mul_nonneg (Int.le_of_lt g0) p2
            simp only [backM]
            grind
          · rw [e, dX_self, dY_self]; omega
  · have hB : bordM V = (nbrs V).map fun e => faceM (hatM (sideM e).1 e.1) := by
      unfold bordM
      match V, h3 with
      | [], _ => rfl
      | [a], _ => rfl
      | [a, b], h => simp at h
      | a :: b :: c :: t, _ => rfl
    rw [hB, fst]
    exact ⟨fun h => P.inside (by omega) h, fun c a b m => P.edge m r c⟩
/-! ### what two plates both have -/
def cutM (V : List Pt) (h : Ln) : Option (List Pt) := if cutL V (dep h) = [] then none else some (hullM (cutL V (dep h)))
def cutAll : List Ln → List Pt → Option (List Pt)
  | [], V => some V
  | h :: r, V => match cutM V h with | none => none | some W => cutAll r W
def meetM (P Q : List Pt) : Option (List Pt) :=
  match Q with
  | [q] => if hasM P q then some Q else none
  | _ => cutAll (bordM Q) P
/-- the places of what may be none -/
def Reg : Option (List Pt) → Pt → Prop
  | none, _ => False
  | some V, q => InC V q
def Good : Option (List Pt) → Prop
  | none => True
  | some V => IsPl V
theorem good_uniq {o o' : Option (List Pt)} (h : Good o) (h' : Good o') (e : ∀ q, 0 < q.d → (Reg o q ↔ Reg o' q)) : o = o' := by
  have some_in : ∀ {V : List Pt}, IsPl V → ∃ q, 0 < q.d ∧ InC V q := fun {V} P => by
    obtain ⟨a, m⟩ := List.exists_mem_of_ne_nil V P.ne
    exact ⟨a, P.pos a m, InC.mem m⟩
  match o, o', h, h', e with
  | none, none, _, _, _ => rfl
  | none, some V, _, P, e =>
    obtain ⟨q, k1, k2⟩ := some_in P
    exact ((e q k1).mpr k2).elim
  | some V, none, P, _, e =>
    obtain ⟨q, k1, k2⟩ := some_in P
    exact ((e q k1).mp k2).elim
  | some V, some W, P, P', e => rw [P.uniq P' e]
theorem cutM_spec {V : List Pt} {h : Ln} (P : IsPl V) : Good (cutM V h) ∧ ∀ q, 0 < q.d → (Reg (cutM V h) q ↔ InC V q ∧ 0 ≤ ev (dep h) q) := by
  have can := cutL_can (h := dep h) P.can
  unfold cutM
  split
  · rename_i e
    refine ⟨trivial, fun q hq => ?_⟩
    rw [← cutL_inC P, e]
    exact ⟨fun z => z.elim, fun z => InC.nil hq z⟩
  · rename_i e
    exact ⟨hullM_pl can e, fun q hq => by rw [← cutL_inC P]; exact hullM_inC can q⟩
theorem cutAll_spec : ∀ {Hs : List Ln} {V : List Pt}, IsPl V → Good (cutAll Hs V) ∧ ∀ q, 0 < q.d → (Reg (cutAll Hs V) q ↔ InC V q ∧ ∀ h ∈ Hs, 0 ≤ ev (dep h) q)
  | [], V, P => ⟨P, fun q hq => by simp [cutAll, Reg]⟩
  | h :: r, V, P => by
    obtain ⟨g, e⟩ := cutM_spec (h := h) P
    unfold cutAll
    cases k : cutM V h with
    | none =>
      rw [k] at e
      refine ⟨trivial, fun q hq => ?_⟩
      have := e q hq
      simp only [Reg] at this ⊢
      constructor
      · exact fun z => z.elim
      · rintro ⟨z1, z2⟩
        exact this.mpr ⟨z1, z2 h (by simp)⟩
    | some W =>
      rw [k] at e g
      obtain ⟨g2, e2⟩ := cutAll_spec (Hs := r) (V := W) g
      refine ⟨g2, fun q hq => ?_⟩
      rw [e2 q hq]
      have := e q hq
      simp only [Reg] at this
      rw [this]
      simp only [List.mem_cons, forall_eq_or_imp]
      exact and_assoc
theorem meetM_spec {P Q : List Pt} (hP : IsPl P) (hQ : IsPl Q) : Good (meetM P Q) ∧ ∀ q, 0 < q.d → (Reg (meetM P Q) q ↔ InC P q ∧ InC Q q) := by
  by_cases h2 : 2 ≤ Q.length
  · have e : meetM P Q = cutAll (bordM Q) P := by
      unfold meetM
      match Q, h2 with
      | a :: b :: t, _ => rfl
    rw [e]
    obtain ⟨g, k⟩ := cutAll_spec (Hs := bordM Q) hP
    exact ⟨g, fun q hq => by rw [k q hq, bordM_iff hQ h2]⟩
  · have l0 : 0 < Q.length := List.length_pos_iff.mpr hQ.ne
    obtain ⟨a, rfl⟩ := len1 (L := Q) (by omega)
    have ha := hQ.can a (by simp)
    have hm := hasM_iff hP ha
    show Good (if hasM P a then some [a] else none) ∧ _
    have e : meetM P [a] = if hasM P a then some [a] else none := rfl
    rw [e]
    split
    · rename_i z
      have ca := hm.mp z
      refine ⟨hQ, fun q hq => ⟨fun c => ⟨?_, c⟩, fun c => c.2⟩⟩
      have := one_eqv (show InC [a] q from c)
      exact eqv_inC ha.pos hq this ca
    · rename_i z
      refine ⟨trivial, fun q hq => ⟨fun c => c.elim, fun c => ?_⟩⟩
      have := one_eqv c.2
      exact z (hm.mpr (eqv_inC hq ha.pos this.symm c.1))
end Pz

/-! Geo7: how large the corners are, and how many; maps. -/
namespace Pz
theorem bound_any {α : Type} (f : α → Int) : ∀ L : List α, ∃ N : Int, 0 < N ∧ ∀ q ∈ L, -N < f q ∧ f q < N
  | [] => ⟨1, by omega, fun _ z => (nomatch z)⟩
  | p :: L => by
    obtain ⟨N, h0, h⟩ := bound_any f L
    refine ⟨N + (f p).natAbs, by omega, fun q m => ?_⟩
    rcases List.mem_cons.mp m with rfl | m
    · omega
    · have := h q m; omega
/-- the plate is told by some functionals -/
def ByF (F : List Ln) (V : List Pt) : Prop := ∀ q, 0 < q.d → (InC V q ↔ ∀ h ∈ F, 0 ≤ ev h q)
theorem corner {F : List Ln} {V : List Pt} {v : Pt} (P : IsPl V) (hF : ByF F V) (hv : v ∈ V) : ∃ h1 ∈ F, ∃ h2 ∈ F, ev h1 v = 0 ∧ ev h2 v = 0 ∧ h1.a * h2.b - h1.b * h2.a ≠ 0 := by
  rcases Classical.em (∃ h1 ∈ F, ∃ h2 ∈ F, ev h1 v = 0 ∧ ev h2 v = 0 ∧ h1.a * h2.b - h1.b * h2.a ≠ 0) with h | no
  · exact h
  exfalso
  have vd := P.pos v hv
  have dir : ∃ r s : Int, (r ≠ 0 ∨ s ≠ 0) ∧ ∀ h ∈ F, ev h v = 0 → h.a * r + h.b * s = 0 := by
    rcases Classical.em (∃ h ∈ F, ev h v = 0 ∧ (h.a ≠ 0 ∨ h.b ≠ 0)) with ⟨h0, m0, z0, n0⟩ | none
    · refine ⟨-h0.b, h0.a, by omega, fun h m z => ?_⟩
      have : ¬ (h.a * h0.b - h.b * h0.a ≠ 0) := fun k => no ⟨h, m, h0, m0, z, z0, k⟩
      have : h.a * h0.b - h.b * h0.a = 0 := Decidable.of_not_not this
      rw [Int.mul_neg]; omega
    · refine ⟨1, 0, .inl (by omega), fun h m z => ?_⟩
      have : ¬ (h.a ≠ 0 ∨ h.b ≠ 0) := fun k => none ⟨h, m, z, k⟩
      have : h.a = 0 := by omega
      rw [this]; omega
  obtain ⟨r, s, nz, par⟩ := dir
  obtain ⟨N, N0, hN⟩ := bound_any (fun h : Ln => h.a * r + h.b * s) F
  have inside : ∀ k : Int, (k = 1 ∨ k = -1) → InC V ⟨N * v.x + k * r, N * v.y + k * s, N * v.d⟩ := fun k hk => by
    refine (hF _ (Int.mul_pos N0 vd)).mpr fun h m => ?_
    have e : ev h ⟨N * v.x + k * r, N * v.y + k * s, N * v.d⟩ = N * ev h v + k * (h.a * r + h.b * s) := by simp only [ev]; grind
    rw [e]
    have nn := (hF v vd).mp (InC.mem hv) h m
    by_cases z : ev h v = 0
    · rw [z, par h m z]; omega
    · have := hN h m
      have : N * 1 ≤ N * ev h v := Int.mul_le_mul_of_nonneg_left (by omega) (by omega)
      rcases hk with e | e <;> subst e <;> omega
  obtain ⟨l, le⟩ := P.exp v hv
  have l0 : ∀ q ∈ V, 0 ≤ ev l q := fun q hq => by
    by_cases e : q = v
    · rw [e, le.1]; omega
    · exact Int.le_of_lt (le.2 q hq e)
  have e : ∀ k : Int, ev l ⟨N * v.x + k * r, N * v.y + k * s, N * v.d⟩ = N * ev l v + k * (l.a * r + l.b * s) := fun k => by simp only [ev]; grind
  have a1 := inside 1 (.inl rfl) l l0
  have a2 := inside (-1) (.inr rfl) l l0
  rw [e, le.1] at a1 a2
  have := le.only (inside 1 (.inl rfl)) (by rw [e, le.1]; omega)
  obtain ⟨x, y⟩ := this
  simp only [dX, dY] at x y
  have x' : v.d * r = 0 := by grind
  have y' : v.d * s = 0 := by grind
  have := zero_of_mul vd x'
  have := zero_of_mul vd y'
  omega
/-- all three numbers at most N in size -/
def Sz (N : Nat) (p : Pt) : Prop := p.x.natAbs ≤ N ∧ p.y.natAbs ≤ N ∧ p.d.natAbs ≤ N
def SzL (c : Nat) (h : Ln) : Prop := h.a.natAbs ≤ c ∧ h.b.natAbs ≤ c ∧ h.c.natAbs ≤ c
theorem abs_mul {a b : Int} {m n : Nat} (ha : a.natAbs ≤ m) (hb : b.natAbs ≤ n) : (a * b).natAbs ≤ m * n := by
  rw [Int.natAbs_mul]; exact Nat.mul_le_mul ha hb
theorem abs_sub {a b : Int} {m n : Nat} (ha : a.natAbs ≤ m) (hb : b.natAbs ≤ n) : (a - b).natAbs ≤ m + n := by omega
theorem abs_add {a b : Int} {m n : Nat} (ha : a.natAbs ≤ m) (hb : b.natAbs ≤ n) : (a + b).natAbs ≤ m + n := by omega
theorem abs_of_mul {k a b : Int} (h : k * a = b) (n : k ≠ 0) : a.natAbs ≤ b.natAbs := by
  rw [← h, Int.natAbs_mul]
  have : 1 ≤ k.natAbs := by omega
  have := Nat.mul_le_mul_right a.natAbs this
  omega
theorem corner_sz {c : Nat} {h1 h2 : Ln} {v : Pt} (hv : Can v) (s1 : SzL c h1) (s2 : SzL c h2) (z1 : ev h1 v = 0) (z2 : ev h2 v = 0) (n : h1.a * h2.b - h1.b * h2.a ≠ 0) : Sz (2 * (c * c)) v := by
  obtain ⟨a1, b1, c1⟩ := s1
  obtain ⟨a2, b2, c2⟩ := s2
  have ex : (h1.a * h2.b - h1.b * h2.a) * v.x = (h1.b * h2.c - h2.b * h1.c) * v.d := by simp only [ev] at z1 z2; grind
  have ey : (h1.a * h2.b - h1.b * h2.a) * v.y = (h1.c * h2.a - h2.c * h1.a) * v.d := by simp only [ev] at z1 z2; grind
  have sD : (h1.a * h2.b - h1.b * h2.a).natAbs ≤ c * c + c * c := abs_sub (abs_mul a1 b2) (abs_mul b1 a2)
  have sA : (h1.b * h2.c - h2.b * h1.c).natAbs ≤ c * c + c * c := abs_sub (abs_mul b1 c2) (abs_mul b2 c1)
  have sB : (h1.c * h2.a - h2.c * h1.a).natAbs ≤ c * c + c * c := abs_sub (abs_mul c1 a2) (abs_mul c2 a1)
  generalize h1.a * h2.b - h1.b * h2.a = D at *
  generalize h1.b * h2.c - h2.b * h1.c = A at *
  generalize h1.c * h2.a - h2.c * h1.a = B at *
  have dd : v.d ∣ D := by
    have d1 : v.d.natAbs ∣ (D * v.x).natAbs := Int.natAbs_dvd_natAbs.mpr ⟨A, by rw [ex, Int.mul_comm]⟩
    have d2 : v.d.natAbs ∣ (D * v.y).natAbs := Int.natAbs_dvd_natAbs.mpr ⟨B, by rw [ey, Int.mul_comm]⟩
    have d3 : v.d.natAbs ∣ (D * v.d).natAbs := Int.natAbs_dvd_natAbs.mpr ⟨D, Int.mul_comm ..⟩
    rw [Int.natAbs_mul] at d1 d2 d3
    have c1 := Nat.dvd_gcd (Nat.dvd_gcd d1 d2) d3
    rw [Nat.gcd_mul_left, Nat.gcd_mul_left] at c1
    have e : ((v.x.natAbs.gcd v.y.natAbs).gcd v.d.natAbs) = 1 := hv.2
    rw [e, Nat.mul_one] at c1
    exact Int.natAbs_dvd_natAbs.mp c1
  obtain ⟨k, hk⟩ := dd
  have vd := hv.pos
  have k0 : k ≠ 0 := by rintro rfl; rw [Int.mul_zero] at hk; exact n hk
  have x' : k * v.x = A := by
    have : v.d * (k * v.x - A) = 0 := by rw [hk] at ex; grind
    have := zero_of_mul vd this
    omega
  have y' : k * v.y = B := by
    have : v.d * (k * v.y - B) = 0 := by rw [hk] at ey; grind
    have := zero_of_mul vd this
    omega
  have d' : k * v.d = D := by rw [hk, Int.mul_comm]
  have q1 := abs_of_mul x' k0
  have q2 := abs_of_mul y' k0
  have q3 := abs_of_mul d' k0
  refine ⟨?_, ?_, ?_⟩ <;> omega
/-- three exposed places in a line -/
theorem no_mid {V : List Pt} {e : Ln} {a b c : Pt} (hb : Exp V e b) (ha : a ∈ V) (hc : c ∈ V) (h1 : Lt a b) (h2 : Lt b c) (ad : 0 < a.d) (bd : 0 < b.d) (cd : 0 < c.d) (t : det a b c = 0) : False := by
  have ea := hb.2 a ha h1.ne
  have ec := hb.2 c hc h2.ne.symm
  have X := midX e a c b
  have Y := midY e a c b
  have s := det_swap a b c
  rw [s, t, hb.1] at X Y
  have x1 : 0 ≤ dX a b := by rcases h1 with h | h <;> omega
  have x2 : 0 ≤ dX b c := by rcases h2 with h | h <;> omega
  have q1 := Int.mul_nonneg x2 (Int.le_of_lt ea)
  have q2 := Int.mul_nonneg x1 (Int.le_of_lt ec)
  have z1 : ev e a * dX b c = 0 := by rw [Int.mul_comm]; omega
  have z2 : ev e c * dX a b = 0 := by rw [Int.mul_comm]; omega
  have z1 := zero_of_mul ea z1
  have z2 := zero_of_mul ec z2
  have y1 : 0 < dY a b := by rcases h1 with h | h <;> omega
  have y2 : 0 < dY b c := by rcases h2 with h | h <;> omega
  have r1 := Int.mul_pos y2 ea
  have r2 := Int.mul_pos y1 ec
  omega
theorem no_three {V : List Pt} (P : IsPl V) {a b c : Pt} (ha : a ∈ V) (hb : b ∈ V) (hc : c ∈ V) (ab : a ≠ b) (bc : b ≠ c) (ac : a ≠ c) (t : det a b c = 0) : False := by
  have pa := P.pos a ha
  have pb := P.pos b hb
  have pc := P.pos c hc
  obtain ⟨la, ea⟩ := P.exp a ha
  obtain ⟨lb, eb⟩ := P.exp b hb
  obtain ⟨lc, ec⟩ := P.exp c hc
  have s1 := det_swap a b c
  have s2 := det_swap' a b c
  have s3 := det_rot a b c
  have s4 := det_rot b c a
  have s5 := det_swap c a b
  have tot := fun {p q} (hp : p ∈ V) (hq : q ∈ V) => Lt.total (P.can p hp) (P.can q hq)
  rcases tot ha hb with h1 | h1 | h1
  · rcases tot hb hc with h2 | h2 | h2
    · exact no_mid eb ha hc h1 h2 pa pb pc t
    · exact bc h2
    · rcases tot ha hc with h3 | h3 | h3
      · exact no_mid ec ha hb h3 h2 pa pc pb (by omega)
      · exact ac h3
      · exact no_mid ea hc hb h3 h1 pc pa pb (by omega)
  · exact ab h1
  · rcases tot ha hc with h2 | h2 | h2
    · exact no_mid ea hb hc h1 h2 pb pa pc (by omega)
    · exact ac h2
    · rcases tot hb hc with h3 | h3 | h3
      · exact no_mid ec hb ha h3 h2 pb pc pa (by omega)
      · exact bc h3
      · exact no_mid eb hc ha h3 h1 pc pb pa (by omega)
theorem len_sub {α : Type} [DecidableEq α] : ∀ {V W : List α}, V.Nodup → (∀ x ∈ V, x ∈ W) → V.length ≤ W.length
  | [], _, _, _ => by simp
  | x :: V, W, nd, h => by
    have ⟨n1, n2⟩ := List.nodup_cons.mp nd
    have := len_sub (W := W.erase x) n2 fun y m => (List.mem_erase_of_ne (fun e => n1 (by rw [← e]; exact m))).mpr (h y (List.mem_cons_of_mem _ m))
    have mx := h x (by simp)
    rw [List.length_erase_of_mem mx] at this
    have : 0 < W.length := List.length_pos_of_mem mx
    simp only [List.length_cons]
    omega
theorem IsPl.nodup {V : List Pt} (P : IsPl V) : V.Nodup := by
  rcases P.forms with ⟨p, rfl, _⟩ | ⟨L, mn, mx, A, B, S, hc, rfl⟩
  · simp
  · have nA : (mn :: A).Nodup := List.Pairwise.imp (fun {a b} (h : Lt a b) => h.ne) (List.pairwise_append.mp S.ascA).1
    have nB : (mx :: B).Nodup := List.Pairwise.imp (fun {a b} (h : Lt b a) => h.ne.symm) (List.pairwise_append.mp S.ascB).1
    refine List.nodup_append.mpr ⟨nA, nB, fun x m y m' e => ?_⟩
    subst e
    have z1 : det mn mx mn = 0 := det_aba _ _
    have z2 : det mn mx mx = 0 := det_abb _ _
    have ne := S.ne.ne
    rcases List.mem_cons.mp m with e | m
    · rcases List.mem_cons.mp m' with e' | m'
      · exact ne (e.symm.trans e')
      · have := S.above m'
        rw [e] at this; omega
    · rcases List.mem_cons.mp m' with e' | m'
      · have := S.below m
        rw [e'] at this; omega
      · have := S.below m
        have := S.above m'
        omega
theorem few_tight {V : List Pt} (P : IsPl V) {h : Ln} (n : h.a ≠ 0 ∨ h.b ≠ 0) : (V.filter fun v => decide (ev h v = 0)).length ≤ 2 := by
  have mem : ∀ v, v ∈ V.filter (fun v => decide (ev h v = 0)) → v ∈ V ∧ ev h v = 0 := fun v m => ⟨(List.mem_filter.mp m).1, of_decide_eq_true (List.mem_filter.mp m).2⟩
  have nd : (V.filter fun v => decide (ev h v = 0)).Nodup := List.Pairwise.filter _ P.nodup
  generalize V.filter (fun v => decide (ev h v = 0)) = W at *
  match W, nd, mem with
  | [], _, _ => simp
  | [_], _, _ => simp
  | [_, _], _, _ => simp
  | a :: b :: c :: t, nd, mem =>
    exfalso
    obtain ⟨ma, za⟩ := mem a (by simp)
    obtain ⟨mb, zb⟩ := mem b (by simp)
    obtain ⟨mc, zc⟩ := mem c (by simp)
    simp at nd
    refine no_three P ma mb mc (fun e => nd.1.1 e) (fun e => nd.2.1.1 e) (fun e => nd.1.2.1 e) ?_
    have k : ∀ s, det a b c * ev h s = 0 := fun s => by
      have := cramer h a b c s
      rw [za, zb, zc] at this
      omega
    rcases n with n | n
    · have := k ⟨1, 0, 0⟩
      have e : ev h ⟨1, 0, 0⟩ = h.a := by simp only [ev]; omega
      rw [e] at this
      exact (Int.mul_eq_zero.mp this).resolve_right n
    · have := k ⟨0, 1, 0⟩
      have e : ev h ⟨0, 1, 0⟩ = h.b := by simp only [ev]; omega
      rw [e] at this
      exact (Int.mul_eq_zero.mp this).resolve_right n
theorem few {F : List Ln} {V : List Pt} (P : IsPl V) (hF : ByF F V) : V.length ≤ 2 * F.length := by
  have h : ∀ v ∈ V, v ∈ F.flatMap fun h => if h.a ≠ 0 ∨ h.b ≠ 0 then V.filter (fun v => decide (ev h v = 0)) else [] := fun v m => by
    obtain ⟨h1, m1, h2, _, z1, _, n⟩ := corner P hF m
    refine List.mem_flatMap.mpr ⟨h1, m1, ?_⟩
    have n1 : h1.a ≠ 0 ∨ h1.b ≠ 0 := by
      rcases Decidable.em (h1.a = 0) with e | e
      · right; intro e'; rw [e, e'] at n; omega
      · exact .inl e
    rw [if_pos n1]
    exact List.mem_filter.mpr ⟨m, decide_eq_true z1⟩
  refine Nat.le_trans (len_sub P.nodup h) ?_
  have : ∀ F : List Ln, (F.flatMap fun h => if h.a ≠ 0 ∨ h.b ≠ 0 then V.filter (fun v => decide (ev h v = 0)) else []).length ≤ 2 * F.length := fun F => by
    induction F with
    | nil => simp
    | cons h F ih =>
      rw [List.flatMap_cons, List.length_append, List.length_cons]
      have : (if h.a ≠ 0 ∨ h.b ≠ 0 then V.filter (fun v => decide (ev h v = 0)) else []).length ≤ 2 := by
        split
        · rename_i n; exact few_tight P n
        · simp
      omega
  exact this F
/-! ### levels: told by k functionals of numbers up to c -/
structure Lv (k c : Nat) (V : List Pt) : Prop where
  pl : IsPl V
  by_ : ∃ F : List Ln, F.length ≤ k ∧ (∀ h ∈ F, SzL c h) ∧ ByF F V
theorem Lv.len {k c : Nat} {V : List Pt} (h : Lv k c V) : V.length ≤ 2 * k := by
  obtain ⟨F, h1, _, h3⟩ := h.by_
  have := few h.pl h3
  omega
theorem Lv.sz {k c : Nat} {V : List Pt} (h : Lv k c V) : ∀ v ∈ V, Sz (2 * (c * c)) v := fun v m => by
  obtain ⟨F, h1, h2, h3⟩ := h.by_
  obtain ⟨a, ma, b, mb, z1, z2, n⟩ := corner h.pl h3 m
  exact corner_sz (h.pl.can v m) (h2 a ma) (h2 b mb) z1 z2 n
theorem Lv.mono {k c k' c' : Nat} {V : List Pt} (h : Lv k c V) (hk : k ≤ k') (hc : c ≤ c') : Lv k' c' V := by
  obtain ⟨F, h1, h2, h3⟩ := h.by_
  exact ⟨h.pl, F, by omega, fun x m => ⟨Nat.le_trans (h2 x m).1 hc, Nat.le_trans (h2 x m).2.1 hc, Nat.le_trans (h2 x m).2.2 hc⟩, h3⟩
theorem szL_dep {c : Nat} {h : Ln} (s : SzL c h) : SzL c (dep h) := ⟨s.1, s.2.1, by show (-h.c).natAbs ≤ c; rw [Int.natAbs_neg]; exact s.2.2⟩
theorem Lv.cut {k c : Nat} {V W : List Pt} {h : Ln} (l : Lv k c V) (s : SzL c h) (e : cutM V h = some W) : Lv (k + 1) c W := by
  obtain ⟨F, h1, h2, h3⟩ := l.by_
  obtain ⟨g, q⟩ := cutM_spec (h := h) l.pl
  rw [e] at g q
  refine ⟨g, F ++ [dep h], by simp; omega, fun x m => ?_, fun p hp => ?_⟩
  · rcases List.mem_append.mp m with m | m
    · exact h2 x m
    · rw [List.mem_singleton.mp m]; exact szL_dep s
  · have := q p hp
    simp only [Reg] at this
    rw [this, h3 p hp]
    constructor
    · rintro ⟨a, b⟩ x m
      rcases List.mem_append.mp m with m | m
      · exact a x m
      · rw [List.mem_singleton.mp m]; exact b
    · intro a
      exact ⟨fun x m => a x (List.mem_append_left _ m), a _ (by simp)⟩
theorem Lv.cuts {c : Nat} : ∀ {Hs : List Ln} {k : Nat} {V W : List Pt}, Lv k c V → (∀ h ∈ Hs, SzL c h) → cutAll Hs V = some W → Lv (k + Hs.length) c W
  | [], k, V, W, l, _, e => by
    simp only [cutAll, Option.some.injEq] at e
    rw [← e]; exact l
  | h :: r, k, V, W, l, s, e => by
    unfold cutAll at e
    cases q : cutM V h with
    | none => rw [q] at e; cases e
    | some U =>
      rw [q] at e
      have := Lv.cuts (l.cut (s h (by simp)) q) (fun x m => s x (List.mem_cons_of_mem _ m)) e
      rw [List.length_cons]
      rw [show k + (r.length + 1) = k + 1 + r.length by omega]
      exact this
/-- the size of borders -/
theorem ediv_sz {a g : Int} {n : Nat} (h : a.natAbs ≤ n) (d : g ∣ a) : (a / g).natAbs ≤ n := by
  obtain ⟨k, rfl⟩ := d
  by_cases z : g = 0
  · rw [z]; simp
  · rw [Int.mul_ediv_cancel_left _ z]
    rw [Int.natAbs_mul] at h
    have : 1 ≤ g.natAbs := by omega
    have := Nat.mul_le_mul_right k.natAbs this
    omega
theorem canon_sz {x y d : Int} {n : Nat} (hx : x.natAbs ≤ n) (hy : y.natAbs ≤ n) (hd : d.natAbs ≤ n) : Sz n (canon x y d) := by
  have dd : (Int.gcd (Int.gcd x y) d : Int) ∣ d := Int.gcd_dvd_right ..
  have d1 : (Int.gcd (Int.gcd x y) d : Int) ∣ (Int.gcd x y : Int) := Int.gcd_dvd_left ..
  have dx : (Int.gcd (Int.gcd x y) d : Int) ∣ x := Int.dvd_trans d1 (Int.gcd_dvd_left ..)
  have dy : (Int.gcd (Int.gcd x y) d : Int) ∣ y := Int.dvd_trans d1 (Int.gcd_dvd_right ..)
  unfold canon
  simp only
  split
  · exact ⟨ediv_sz hx dx, ediv_sz hy dy, ediv_sz hd dd⟩
  · exact ⟨ediv_sz hx (Int.neg_dvd.mpr dx), ediv_sz hy (Int.neg_dvd.mpr dy), ediv_sz hd (Int.neg_dvd.mpr dd)⟩
theorem dir_sz {a b : Int} {n : Nat} (ha : a.natAbs ≤ n) (hb : b.natAbs ≤ n) : (dirM a b).1.natAbs ≤ n ∧ (dirM a b).2.natAbs ≤ n :=
  ⟨ediv_sz ha (Int.gcd_dvd_left ..), ediv_sz hb (Int.gcd_dvd_right ..)⟩
theorem tow_sz {p q : Pt} {n : Nat} (hp : Sz n p) (hq : Sz n q) : (towM p q).1.natAbs ≤ 2 * (n * n) ∧ (towM p q).2.natAbs ≤ 2 * (n * n) := by
  obtain ⟨px, py, pd⟩ := hp
  obtain ⟨qx, qy, qd⟩ := hq
  have ⟨h1, h2, _⟩ := canon_sz (n := 2 * (n * n)) (x := q.x * p.d - p.x * q.d) (y := q.y * p.d - p.y * q.d) (d := q.d * p.d)
    (by have := abs_sub (abs_mul qx pd) (abs_mul px qd); omega) (by have := abs_sub (abs_mul qy pd) (abs_mul py qd); omega) (by have := abs_mul qd pd; omega)
  exact dir_sz h1 h2
theorem fr_sz {p q : Int} {m n : Nat} (hp : p.natAbs ≤ m) (hq : q.natAbs ≤ n) : (frM p q).1.natAbs ≤ m ∧ (frM p q).2.natAbs ≤ n := by
  unfold frM
  simp only
  split
  · exact ⟨ediv_sz hp (Int.gcd_dvd_left ..), ediv_sz hq (Int.gcd_dvd_right ..)⟩
  · exact ⟨ediv_sz hp (Int.neg_dvd.mpr (Int.gcd_dvd_left ..)), ediv_sz hq (Int.neg_dvd.mpr (Int.gcd_dvd_right ..))⟩
theorem half_sz {a b c : Int} {n : Nat} (ha : a.natAbs ≤ n) (hb : b.natAbs ≤ n) (hc : c.natAbs ≤ n) : SzL n (halfM a b c) := by
  have d1 : (Int.gcd (Int.gcd a b) c : Int) ∣ (Int.gcd a b : Int) := Int.gcd_dvd_left ..
  exact ⟨ediv_sz ha (Int.dvd_trans d1 (Int.gcd_dvd_left ..)), ediv_sz hb (Int.dvd_trans d1 (Int.gcd_dvd_right ..)), ediv_sz hc (Int.gcd_dvd_right ..)⟩
theorem hat_sz {u : Int × Int} {p : Pt} {m n : Nat} (u1 : u.1.natAbs ≤ m) (u2 : u.2.natAbs ≤ m) (hp : Sz n p) : SzL (2 * (m * n)) (hatM u p) := by
  obtain ⟨px, py, pd⟩ := hp
  have ⟨h1, h2⟩ := fr_sz (p := u.1 * p.x + u.2 * p.y) (q := p.d) (m := 2 * (m * n)) (n := n) (by have := abs_add (abs_mul u1 px) (abs_mul u2 py); omega) pd
  unfold hatM
  simp only
  have e : hgtM u p = frM (u.1 * p.x + u.2 * p.y) p.d := rfl
  rw [e]
  refine half_sz ?_ ?_ h1
  · have := abs_mul u1 h2; omega
  · have := abs_mul u2 h2; omega
theorem face_sz {c : Nat} {h : Ln} (s : SzL c h) : SzL c (faceM h) := ⟨by show (-h.a).natAbs ≤ c; rw [Int.natAbs_neg]; exact s.1, by show (-h.b).natAbs ≤ c; rw [Int.natAbs_neg]; exact s.2.1, by show (-h.c).natAbs ≤ c; rw [Int.natAbs_neg]; exact s.2.2⟩
theorem bord_sz {V : List Pt} {n : Nat} (h : ∀ v ∈ V, Sz n v) : ∀ x ∈ bordM V, SzL (2 * (2 * (n * n) * n)) x := fun x m => by
  have one : ∀ a b, a ∈ V → b ∈ V → SzL (2 * (2 * (n * n) * n)) (faceM (hatM (sideM (a, b)).1 a)) := fun a b ma mb => by
    obtain ⟨t1, t2⟩ := tow_sz (h a ma) (h b mb)
    refine face_sz (hat_sz (m := 2 * (n * n)) ?_ ?_ (h a ma))
    · simp [sideM, backM, quartM]; exact t2
    · simp [sideM, backM, quartM]; exact t1
  have fst : ∀ x ∈ (nbrs V).map fun e => faceM (hatM (sideM e).1 e.1), SzL (2 * (2 * (n * n) * n)) x := fun x m => by
    obtain ⟨⟨a, b⟩, k, rfl⟩ := List.mem_map.mp m
    obtain ⟨ma, mb⟩ := cyc_mem (mem_nbrs.mp k).1
    exact one a b ma mb
  match V, h, m, fst with
  | [], h, m, fst => exact fst x m
  | [a], h, m, fst => exact fst x m
  | [a, b], h, m, fst =>
    have ha := h a (by simp)
    have hb := h b (by simp)
    obtain ⟨t1, t2⟩ := tow_sz ha hb
    rcases List.mem_append.mp (show x ∈ ((nbrs [a, b]).map fun e => faceM (hatM (sideM e).1 e.1)) ++ [hatM (towM a b) a, hatM (backM (towM a b)) b] from m) with m | m
    · exact fst x m
    · simp at m
      rcases m with e | e
      · rw [e]; exact hat_sz t1 t2 ha
      · rw [e]; exact hat_sz (by simp [backM]; exact t1) (by simp [backM]; exact t2) hb
  | a :: b :: c :: t, h, m, fst => exact fst x m
theorem nbrs_len (V : List Pt) : (nbrs V).length ≤ V.length := by
  unfold nbrs cyc
  refine Nat.le_trans (List.length_filter_le ..) ?_
  rw [List.length_zip]
  omega
theorem bord_len (V : List Pt) : (bordM V).length ≤ V.length + 2 := by
  have := nbrs_len V
  match V, this with
  | [], h => simp [bordM, nbrs, cyc]
  | [a], h => simp [bordM, nbrs, cyc]
  | [a, b], h => show (((nbrs [a, b]).map _) ++ [_, _]).length ≤ _; simp at h ⊢; omega
  | a :: b :: c :: t, h => show ((nbrs (a :: b :: c :: t)).map _).length ≤ _; rw [List.length_map]; omega
/-- a plate of two corners or more is told by its borders -/
theorem lv_of {V : List Pt} {n k c : Nat} (P : IsPl V) (h : ∀ v ∈ V, Sz n v) (hk : V.length + 2 ≤ k) (hk4 : 4 ≤ k) (hc : 2 * (2 * (n * n) * n) ≤ c) (hn : n ≤ c) : Lv k c V := by
  refine ⟨P, ?_⟩
  by_cases h2 : 2 ≤ V.length
  · refine ⟨(bordM V).map dep, ?_, fun x m => ?_, fun q _ => ?_⟩
    · have := bord_len V
      rw [List.length_map]; omega
    · obtain ⟨y, my, rfl⟩ := List.mem_map.mp m
      have := bord_sz h y my
      exact szL_dep ⟨Nat.le_trans this.1 hc, Nat.le_trans this.2.1 hc, Nat.le_trans this.2.2 hc⟩
    · rw [← bordM_iff P h2 q]
      constructor
      · intro k x m
        obtain ⟨y, my, rfl⟩ := List.mem_map.mp m
        exact k y my
      · intro k x m
        exact k _ (List.mem_map.mpr ⟨x, m, rfl⟩)
  · have l0 : 0 < V.length := List.length_pos_iff.mpr P.ne
    obtain ⟨a, rfl⟩ := len1 (L := V) (by omega)
    have ha := P.can a (by simp)
    obtain ⟨sx, sy, sd⟩ := h a (by simp)
    refine ⟨[⟨a.d, 0, -a.x⟩, ⟨-a.d, 0, a.x⟩, ⟨0, a.d, -a.y⟩, ⟨0, -a.d, a.y⟩], by simp; omega, fun x m => ?_, fun q hq => ?_⟩
    · simp at m
      rcases m with e | e | e | e <;> subst e <;> exact ⟨by simp <;> omega, by simp <;> omega, by simp <;> omega⟩
    · constructor
      · intro c x m
        obtain ⟨z1, z2⟩ := one_eqv c
        simp only [dX, dY] at z1 z2
        simp at m
        rcases m with e | e | e | e <;> subst e <;> simp only [ev] <;> grind
      · intro c
        have e1 := c ⟨a.d, 0, -a.x⟩ (by simp)
        have e2 := c ⟨-a.d, 0, a.x⟩ (by simp)
        have e3 := c ⟨0, a.d, -a.y⟩ (by simp)
        have e4 := c ⟨0, -a.d, a.y⟩ (by simp)
        simp only [ev] at e1 e2 e3 e4
        refine eqv_inC ha.pos hq ⟨?_, ?_⟩ (InC.mem (by simp))
        · simp only [dX]; grind
        · simp only [dY]; grind
end Pz

/-! Geo8: maps that are one to one. -/
namespace Pz
structure Mp where
  a : Int
  b : Int
  c : Int
  d : Int
  e : Int
  f : Int
  n : Int
/-- one to one -/
def Mp.Ok (M : Mp) : Prop := 0 < M.n ∧ M.a * M.d - M.b * M.c ≠ 0
def ledP (M : Mp) (p : Pt) : Pt := canon (M.a * p.x + M.b * p.y + M.e * p.d) (M.c * p.x + M.d * p.y + M.f * p.d) (M.n * p.d)
def mapM (M : Mp) (V : List Pt) : List Pt := hullM (V.map (ledP M))
/-- a functional behind the map -/
def Mp.pull (M : Mp) (l : Ln) : Ln := ⟨l.a * M.a + l.b * M.c, l.a * M.b + l.b * M.d, l.a * M.e + l.b * M.f + l.c * M.n⟩
theorem led_ev {M : Mp} (h : M.Ok) {p : Pt} (hp : 0 < p.d) : Can (ledP M p) ∧ ∃ g : Int, 0 < g ∧ ∀ l, g * ev l (ledP M p) = ev (M.pull l) p := by
  have d0 : 0 < M.n * p.d := Int.mul_pos h.1 hp
  obtain ⟨c, g, g0, e⟩ := canon_ev (x := M.a * p.x + M.b * p.y + M.e * p.d) (y := M.c * p.x + M.d * p.y + M.f * p.d) (d := M.n * p.d) (by omega)
  refine ⟨c, g, g0, fun l => ?_⟩
  have := e l
  rw [if_pos d0] at this
  unfold ledP
  rw [this]
  simp only [ev, Mp.pull]
  grind
/-- the way back, times something above 0 -/
def Mp.inv (M : Mp) (z : Pt) : Pt :=
  let D := M.a * M.d - M.b * M.c
  let s : Int := if 0 < D then 1 else -1
  ⟨s * (M.d * (M.n * z.x - M.e * z.d) - M.b * (M.n * z.y - M.f * z.d)), s * (M.a * (M.n * z.y - M.f * z.d) - M.c * (M.n * z.x - M.e * z.d)), s * D * z.d⟩
theorem inv_pos {M : Mp} (h : M.Ok) {z : Pt} (hz : 0 < z.d) : 0 < (M.inv z).d := by
  have := h.2
  simp only [Mp.inv]
  split
  · rename_i k
    rw [Int.one_mul]; exact Int.mul_pos k hz
  · refine Int.mul_pos ?_ hz
    omega
theorem pull_inv {M : Mp} (h : M.Ok) (l : Ln) (z : Pt) : ∃ k : Int, 0 < k ∧ ev (M.pull l) (M.inv z) = k * ev l z := by
  obtain ⟨h1, h2⟩ := h
  simp only [Mp.inv]
  split
  · rename_i k
    refine ⟨(M.a * M.d - M.b * M.c) * M.n, Int.mul_pos k h1, ?_⟩
    simp only [ev, Mp.pull]
    grind
  · rename_i k
    refine ⟨(-(M.a * M.d - M.b * M.c)) * M.n, Int.mul_pos (by omega) h1, ?_⟩
    simp only [ev, Mp.pull]
    grind
/-- the functional z ↦ l (inv z) -/
theorem push_fun {M : Mp} (h : M.Ok) (l : Ln) : ∃ l' : Ln, (∀ z, ev l' z = ev l (M.inv z)) ∧ ∃ k : Int, 0 < k ∧ ∀ p, ev (M.pull l') p = k * ev l p := by
  obtain ⟨h1, h2⟩ := h
  by_cases k : 0 < M.a * M.d - M.b * M.c
  · refine ⟨⟨l.a * (M.d * M.n) - l.b * (M.c * M.n), l.b * (M.a * M.n) - l.a * (M.b * M.n), l.a * (M.b * M.f - M.d * M.e) + l.b * (M.c * M.e - M.a * M.f) + l.c * (M.a * M.d - M.b * M.c)⟩, fun z => ?_, (M.a * M.d - M.b * M.c) * M.n, Int.mul_pos k h1, fun p => ?_⟩
    · simp only [Mp.inv, if_pos k, ev]; grind
    · simp only [ev, Mp.pull]; grind
  · refine ⟨⟨-(l.a * (M.d * M.n) - l.b * (M.c * M.n)), -(l.b * (M.a * M.n) - l.a * (M.b * M.n)), -(l.a * (M.b * M.f - M.d * M.e) + l.b * (M.c * M.e - M.a * M.f) + l.c * (M.a * M.d - M.b * M.c))⟩, fun z => ?_, (-(M.a * M.d - M.b * M.c)) * M.n, Int.mul_pos (by omega) h1, fun p => ?_⟩
    · simp only [Mp.inv, if_neg k, ev]; grind
    · simp only [ev, Mp.pull]; grind
theorem led_can {M : Mp} (h : M.Ok) {V : List Pt} (hV : PosD V) : ∀ p ∈ V.map (ledP M), Can p := fun p m => by
  obtain ⟨v, hv, rfl⟩ := List.mem_map.mp m
  exact (led_ev h (hV v hv)).1
theorem map_inC {M : Mp} (h : M.Ok) {V : List Pt} (hV : PosD V) (z : Pt) : InC (V.map (ledP M)) z ↔ InC V (M.inv z) := by
  constructor
  · intro c l k
    obtain ⟨l', e1, kk, k0, e2⟩ := push_fun h l
    rw [← e1]
    refine c l' fun p m => ?_
    obtain ⟨v, hv, rfl⟩ := List.mem_map.mp m
    obtain ⟨_, g, g0, e⟩ := led_ev h (hV v hv)
    refine nonneg_of_mul g0 ?_
    rw [e, e2]
    exact Int.mul_nonneg (Int.le_of_lt k0) (k v hv)
  · intro c l k
    obtain ⟨kk, k0, e⟩ := pull_inv h l z
    refine nonneg_of_mul k0 ?_
    rw [← e]
    refine c _ fun v hv => ?_
    obtain ⟨_, g, g0, e⟩ := led_ev h (hV v hv)
    rw [← e]
    exact Int.mul_nonneg (Int.le_of_lt g0) (k _ (List.mem_map.mpr ⟨v, hv, rfl⟩))
theorem mapM_pl {M : Mp} (h : M.Ok) {V : List Pt} (P : IsPl V) : IsPl (mapM M V) :=
  hullM_pl (led_can h P.pos) (by simpa using P.ne)
theorem mapM_inC {M : Mp} (h : M.Ok) {V : List Pt} (P : IsPl V) (z : Pt) : InC (mapM M V) z ↔ InC V (M.inv z) := by
  unfold mapM
  rw [hullM_inC (led_can h P.pos), map_inC h P.pos]
theorem meet_map {M : Mp} (h : M.Ok) {P Q : List Pt} (hP : IsPl P) (hQ : IsPl Q) : meetM (mapM M P) (mapM M Q) = (meetM P Q).map (mapM M) := by
  obtain ⟨g1, e1⟩ := meetM_spec (mapM_pl h hP) (mapM_pl h hQ)
  obtain ⟨g2, e2⟩ := meetM_spec hP hQ
  have g3 : Good ((meetM P Q).map (mapM M)) := by
    cases e : meetM P Q with
    | none => trivial
    | some V => rw [e] at g2; exact mapM_pl h g2
  refine good_uniq g1 g3 fun q hq => ?_
  rw [e1 q hq, mapM_inC h hP, mapM_inC h hQ, ← e2 _ (inv_pos h hq)]
  cases e : meetM P Q with
  | none => exact Iff.rfl
  | some V =>
    rw [e] at g2
    exact (mapM_inC h g2 q).symm
/-! ### the rules of meet -/
theorem meet_comm {P Q : List Pt} (hP : IsPl P) (hQ : IsPl Q) : meetM P Q = meetM Q P := by
  obtain ⟨g1, e1⟩ := meetM_spec hP hQ
  obtain ⟨g2, e2⟩ := meetM_spec hQ hP
  exact good_uniq g1 g2 fun q hq => by rw [e1 q hq, e2 q hq]; exact and_comm
theorem meet_pl {P Q V : List Pt} (hP : IsPl P) (hQ : IsPl Q) (e : meetM P Q = some V) : IsPl V := by
  have := (meetM_spec hP hQ).1
  rw [e] at this; exact this
def meetO (o o' : Option (List Pt)) : Option (List Pt) := match o, o' with
  | some P, some Q => meetM P Q
  | _, _ => none
theorem meetO_spec {o o' : Option (List Pt)} (h : Good o) (h' : Good o') : Good (meetO o o') ∧ ∀ q, 0 < q.d → (Reg (meetO o o') q ↔ Reg o q ∧ Reg o' q) := by
  match o, o', h, h' with
  | some P, some Q, h, h' => exact meetM_spec h h'
  | none, _, _, _ => exact ⟨trivial, fun q _ => by simp [meetO, Reg]⟩
  | some P, none, _, _ => exact ⟨trivial, fun q _ => by simp [meetO, Reg]⟩
theorem meet_assoc {o1 o2 o3 : Option (List Pt)} (h1 : Good o1) (h2 : Good o2) (h3 : Good o3) : meetO (meetO o1 o2) o3 = meetO o1 (meetO o2 o3) := by
  obtain ⟨a1, b1⟩ := meetO_spec h1 h2
  obtain ⟨a2, b2⟩ := meetO_spec h2 h3
  obtain ⟨a3, b3⟩ := meetO_spec a1 h3
  obtain ⟨a4, b4⟩ := meetO_spec h1 a2
  refine good_uniq a3 a4 fun q hq => ?_
  rw [b3 q hq, b1 q hq, b4 q hq, b2 q hq]
  exact and_assoc
theorem meet_sub {P Q : List Pt} (hP : IsPl P) (hQ : IsPl Q) (h : ∀ q, 0 < q.d → InC P q → InC Q q) : meetM P Q = some P := by
  obtain ⟨g1, e1⟩ := meetM_spec hP hQ
  exact good_uniq (o' := some P) g1 hP fun q hq => by rw [e1 q hq]; exact ⟨fun z => z.1, fun z => ⟨z, h q hq z⟩⟩
theorem meet_self {P : List Pt} (hP : IsPl P) : meetM P P = some P := meet_sub hP hP fun _ _ z => z
/-- cut to itself again -/
theorem meet_again {P Q : List Pt} (hP : IsPl P) (hQ : IsPl Q) : meetO (meetM P Q) (some P) = meetM P Q := by
  obtain ⟨g1, e1⟩ := meetM_spec hP hQ
  obtain ⟨g2, e2⟩ := meetO_spec g1 (o' := some P) hP
  refine good_uniq g2 g1 fun q hq => ?_
  rw [e2 q hq, e1 q hq]
  exact ⟨fun z => z.1, fun z => ⟨z, z.1⟩⟩
end Pz

/-! Geo9: heaps by sums over their rows. -/
namespace Pz
abbrev Row := List Pt × Int
/-- the sum of φ over a heap -/
def pr (h : List Row) (φ : List Pt → Int) : Int := (h.map fun r => r.2 * φ r.1).sum
/-- the weight of a plate -/
def wt (h : List Row) (P : List Pt) : Int := pr h fun Q => if Q = P then 1 else 0
def Same (h k : List Row) : Prop := ∀ P, wt h P = wt k P
theorem pr_nil (φ : List Pt → Int) : pr [] φ = 0 := rfl
theorem pr_cons (r : Row) (h : List Row) (φ : List Pt → Int) : pr (r :: h) φ = r.2 * φ r.1 + pr h φ := by simp [pr]
theorem pr_app (h k : List Row) (φ : List Pt → Int) : pr (h ++ k) φ = pr h φ + pr k φ := by simp [pr]
theorem pr_scale (n : Int) (h : List Row) (φ : List Pt → Int) : pr (h.map fun r => (r.1, r.2 * n)) φ = n * pr h φ := by
  induction h with
  | nil => simp [pr]
  | cons r h ih => rw [List.map_cons, pr_cons, pr_cons, ih]; grind
theorem pr_map (f : List Pt → List Pt) (h : List Row) (φ : List Pt → Int) : pr (h.map fun r => (f r.1, r.2)) φ = pr h fun P => φ (f P) := by
  simp [pr, List.map_map, Function.comp_def]
theorem pr_congr {h : List Row} {φ ψ : List Pt → Int} (e : ∀ r ∈ h, φ r.1 = ψ r.1) : pr h φ = pr h ψ := by
  induction h with
  | nil => rfl
  | cons r h ih => rw [pr_cons, pr_cons, e r (by simp), ih fun s m => e s (List.mem_cons_of_mem _ m)]
theorem pr_add (h : List Row) (φ ψ : List Pt → Int) : pr h (fun P => φ P + ψ P) = pr h φ + pr h ψ := by
  induction h with
  | nil => rfl
  | cons r h ih => rw [pr_cons, pr_cons, pr_cons, ih]; grind
theorem pr_mul (h : List Row) (n : Int) (φ : List Pt → Int) : pr h (fun P => n * φ P) = n * pr h φ := by
  induction h with
  | nil => simp [pr]
  | cons r h ih => rw [pr_cons, pr_cons, ih]; grind
theorem pr_zero (h : List Row) : pr h (fun _ => 0) = 0 := by
  induction h with
  | nil => rfl
  | cons r h ih => rw [pr_cons, ih]; omega
theorem pr_swap (h k : List Row) (φ : List Pt → List Pt → Int) : pr h (fun P => pr k fun Q => φ P Q) = pr k fun Q => pr h fun P => φ P Q := by
  induction h with
  | nil => rw [pr_nil]; exact (pr_zero k).symm
  | cons r h ih =>
    rw [pr_cons, ih, ← pr_mul, ← pr_add]
    exact pr_congr fun s _ => by rw [pr_cons]
/-- a heap of no weights -/
theorem pr_null : ∀ (n : Nat) (h : List Row), h.length ≤ n → (∀ P, wt h P = 0) → ∀ φ, pr h φ = 0
  | _, [], _, _, _ => rfl
  | 0, r :: h, l, _, _ => by simp at l
  | n + 1, r :: h, l, z, φ => by
    have split : ∀ (k : List Row) (ψ : List Pt → Int), pr k ψ = wt k r.1 * ψ r.1 + pr (k.filter fun s => decide (s.1 ≠ r.1)) ψ := fun k ψ => by
      induction k with
      | nil => simp [pr, wt]
      | cons s k ih =>
        have e : wt (s :: k) r.1 = s.2 * (if s.1 = r.1 then 1 else 0) + wt k r.1 := pr_cons ..
        rw [pr_cons, e, ih]
        by_cases q : s.1 = r.1
        · rw [List.filter_cons_of_neg (by simp [q]), if_pos q, q]; grind
        · rw [List.filter_cons_of_pos (by simp [q]), if_neg q, pr_cons]; grind
    rw [split, z, Int.zero_mul, Int.zero_add]
    refine pr_null n _ ?_ (fun P => ?_) φ
    · rw [List.filter_cons_of_neg (by simp)]
      have := List.length_filter_le (fun s : Row => decide (s.1 ≠ r.1)) h
      simp at l
      omega
    · have := split (r :: h) fun Q => if Q = P then 1 else 0
      have zP : pr (r :: h) (fun Q => if Q = P then 1 else 0) = 0 := z P
      rw [zP, z, Int.zero_mul, Int.zero_add] at this
      exact this.symm
theorem Same.pr {h k : List Row} (e : Same h k) (φ : List Pt → Int) : pr h φ = pr k φ := by
  have := pr_null _ (h ++ k.map fun r => (r.1, r.2 * (-1))) (Nat.le_refl _) (fun P => by
    show Pz.pr _ _ = 0
    rw [pr_app, pr_scale]
    have := e P
    unfold wt at this
    omega) φ
  rw [pr_app, pr_scale] at this
  omega
theorem same_iff {h k : List Row} : Same h k ↔ ∀ φ, pr h φ = pr k φ := ⟨fun e φ => e.pr φ, fun e _ => e _⟩
theorem Same.symm {h k : List Row} (e : Same h k) : Same k h := fun P => (e P).symm
theorem Same.trans {h k l : List Row} (e : Same h k) (e' : Same k l) : Same h l := fun P => (e P).trans (e' P)
/-! ### over -/
def at0 (φ : List Pt → Int) : Option (List Pt) → Int
  | none => 0
  | some V => φ V
def overG (mt : List Pt → List Pt → Option (List Pt)) (f g : List Row) : List Row := f.flatMap fun r => g.filterMap fun s => (mt r.1 s.1).map fun V => (V, r.2 * s.2)
def overR (f g : List Row) : List Row := overG meetM f g
theorem pr_row (mt : List Pt → List Pt → Option (List Pt)) (r : Row) (φ : List Pt → Int) : ∀ g : List Row, pr (g.filterMap fun s => (mt r.1 s.1).map fun V => (V, r.2 * s.2)) φ = r.2 * pr g fun Q => at0 φ (mt r.1 Q)
  | [] => by simp [pr]
  | s :: g => by
    have ih := pr_row mt r φ g
    rw [List.filterMap_cons, pr_cons, Int.mul_add, ← ih]
    cases e : mt r.1 s.1 with
    | none => simp only [Option.map_none, at0]; rw [Int.mul_zero, Int.mul_zero, Int.zero_add]
    | some V => simp only [Option.map_some, at0]; rw [pr_cons, ← Int.mul_assoc]
theorem pr_overG (mt : List Pt → List Pt → Option (List Pt)) (f g : List Row) (φ : List Pt → Int) : pr (overG mt f g) φ = pr f fun P => pr g fun Q => at0 φ (mt P Q) := by
  unfold overG
  induction f with
  | nil => rfl
  | cons r f ih => rw [List.flatMap_cons, pr_app, ih, pr_cons, pr_row]
theorem pr_over (f g : List Row) (φ : List Pt → Int) : pr (overR f g) φ = pr f fun P => pr g fun Q => at0 φ (meetM P Q) := pr_overG meetM f g φ
/-- all plates of a heap are plates -/
def AllP (h : List Row) : Prop := ∀ r ∈ h, IsPl r.1
theorem overR_pl {f g : List Row} (hf : AllP f) (hg : AllP g) : AllP (overR f g) := fun r m => by
  obtain ⟨a, ma, m⟩ := List.mem_flatMap.mp m
  obtain ⟨b, mb, e⟩ := List.mem_filterMap.mp m
  cases q : meetM a.1 b.1 with
  | none => rw [q] at e; cases e
  | some V =>
    rw [q] at e
    simp only [Option.map_some, Option.some.injEq] at e
    rw [← e]
    exact meet_pl (hf a ma) (hg b mb) q
theorem pr_meet {f g : List Row} (φ : List Pt → Int) : pr (overR f g) φ = pr f fun P => pr g fun Q => at0 φ (meetO (some P) (some Q)) := pr_over f g φ
/-- in either order -/
theorem over_comm {f g : List Row} (hf : AllP f) (hg : AllP g) : Same (overR g f) (overR f g) := same_iff.mpr fun φ => by
  rw [pr_over, pr_over, pr_swap]
  exact pr_congr fun r m => pr_congr fun s n => by rw [meet_comm (hg s n) (hf r m)]
theorem at0_pr (o : Option (List Pt)) (h : List Row) (φ : List Pt → List Pt → Int) : at0 (fun V => pr h fun Q => φ V Q) o = pr h fun Q => at0 (fun V => φ V Q) o := by
  cases o with
  | none => exact (pr_zero h).symm
  | some V => rfl
theorem at0_meet (φ : List Pt → Int) (o : Option (List Pt)) (Q : List Pt) : at0 (fun V => at0 φ (meetM V Q)) o = at0 φ (meetO o (some Q)) := by
  cases o <;> rfl
theorem at0_meet' (φ : List Pt → Int) (o : Option (List Pt)) (P : List Pt) : at0 (fun V => at0 φ (meetM P V)) o = at0 φ (meetO (some P) o) := by
  cases o <;> rfl
/-- put about -/
theorem over_assoc {f g h b c : List Row} (hf : AllP f) (hg : AllP g) (hh : AllP h) (eb : Same b (overR f g)) (ec : Same c (overR g h)) : Same (overR b h) (overR f c) := same_iff.mpr fun φ => by
  rw [pr_over, pr_over, eb.pr, pr_over]
  refine pr_congr fun r m => ?_
  rw [ec.pr, pr_over]
  refine pr_congr fun s n => ?_
  rw [at0_pr]
  refine pr_congr fun t o => ?_
  rw [at0_meet, at0_meet']
  exact congrArg _ (meet_assoc (o1 := some r.1) (o2 := some s.1) (o3 := some t.1) (hf r m) (hg s n) (hh t o))
/-- of sums -/
theorem over_sum {f g h s b c : List Row} (n : Int) (es : ∀ φ, pr s φ = pr g φ + n * pr h φ) (eb : Same b (overR f g)) (ec : Same c (overR f h)) : ∀ φ, pr (overR f s) φ = pr b φ + n * pr c φ := fun φ => by
  rw [pr_over, eb.pr, ec.pr, pr_over, pr_over, ← pr_mul, ← pr_add]
  exact pr_congr fun r _ => es _
theorem over_null {f z : List Row} (ez : ∀ φ, pr z φ = 0) : ∀ φ, pr (overR f z) φ = 0 := fun φ => by
  rw [pr_over, ← pr_zero f]
  exact pr_congr fun r _ => ez _
/-- with a plate that has all -/
theorem over_wide {f w : List Row} {W : List Pt} (hf : AllP f) (hW : IsPl W) (ew : ∀ φ, pr w φ = φ W) (h : ∀ r ∈ f, ∀ q, 0 < q.d → InC r.1 q → InC W q) : Same (overR f w) f ∧ Same (overR w f) f := by
  have e : ∀ φ, pr (overR f w) φ = pr f φ := fun φ => by
    rw [pr_over]
    refine pr_congr fun r m => ?_
    rw [ew, meet_sub (hf r m) hW (h r m)]
    rfl
  refine ⟨same_iff.mpr e, same_iff.mpr fun φ => ?_⟩
  rw [← e, pr_over, pr_over, ew]
  refine pr_congr fun r m => ?_
  rw [ew, meet_comm hW (hf r m)]
/-- led -/
theorem over_led {M : Mp} (hM : M.Ok) {f g b lf lg lb : List Row} (hf : AllP f) (hg : AllP g) (eb : Same b (overR f g)) (ef : Same lf (f.map fun r => (mapM M r.1, r.2))) (eg : Same lg (g.map fun r => (mapM M r.1, r.2)))
    (el : Same lb (b.map fun r => (mapM M r.1, r.2))) : Same (overR lf lg) lb := same_iff.mpr fun φ => by
  rw [pr_over, ef.pr, pr_map, el.pr, pr_map, eb.pr, pr_over]
  refine pr_congr fun r m => ?_
  rw [eg.pr, pr_map]
  refine pr_congr fun s n => ?_
  rw [meet_map hM (hf r m) (hg s n)]
  cases meetM r.1 s.1 <;> rfl
/-- with a point -/
theorem over_point {f w : List Row} {p : Pt} (ew : ∀ φ, pr w φ = φ [p]) : ∀ φ, pr (overR f w) φ = ((f.filter fun r => hasM r.1 p).map (·.2)).sum * φ [p] := fun φ => by
  rw [pr_over]
  induction f with
  | nil => simp [pr]
  | cons r f ih =>
    rw [pr_cons, ih, ew]
    have e : meetM r.1 [p] = if hasM r.1 p then some [p] else none := rfl
    rw [e]
    by_cases k : hasM r.1 p
    · rw [List.filter_cons_of_pos (p := fun r : Row => hasM r.1 p) k, if_pos k, List.map_cons, List.sum_cons]
      simp only [at0]
      grind
    · rw [List.filter_cons_of_neg (p := fun r : Row => hasM r.1 p) k, if_neg k]
      simp only [at0]
      grind
/-- a heap of one plate -/
theorem over_one {w : List Row} {P : List Pt} {n : Int} (hP : IsPl P) (ew : ∀ φ, pr w φ = n * φ P) : ∀ φ, pr (overR w w) φ = n * pr w φ := fun φ => by
  rw [pr_over, ew, ew, ew, meet_self hP]
  rfl
theorem over_again {w g c : List Row} {P : List Pt} {n : Int} (hP : IsPl P) (hg : AllP g) (ew : ∀ φ, pr w φ = n * φ P) (ec : Same c (overR w g)) : ∀ φ, pr (overR c w) φ = n * pr c φ := fun φ => by
  rw [pr_over, ec.pr, ec.pr, pr_over, pr_over, ew, ew, ← Int.mul_assoc]
  rw [Int.mul_assoc]
  congr 1
  rw [← pr_mul]
  refine pr_congr fun r m => ?_
  have e : ∀ V : List Pt, pr w (fun Q => at0 φ (meetM V Q)) = n * at0 φ (meetM V P) := fun V => ew _
  have e2 : at0 (fun V => pr w fun Q => at0 φ (meetM V Q)) (meetM P r.1) = n * at0 (fun V => at0 φ (meetM V P)) (meetM P r.1) := by
    cases meetM P r.1 with
    | none => simp [at0]
    | some V => exact e V
  rw [e2, at0_meet, meet_again hP (hg r m)]
end Pz

set_option Elab.async false
set_option linter.all false
set_option maxRecDepth 100000
/-! W0: the text by places; gcd of three; bool - bool. -/
namespace Wk
open PySem L2 PySem.Spec PyProof.Rows
def top (i : Nat) : Stmt := PySem.Challenge.pw_plateheaps_k30_whole_heaps_over_one_anot.main.body.getD i (.Pass ⟨0, 0, 0, 0⟩)
theorem args_gcd3 (a b c : Value) : argsOk "math.gcd" ⟨[a, b, c], []⟩ := by unfold argsOk; kernel_rfl
theorem run_gcd3 (a : Int) (t : Tok) (b : Int) (u : Tok) (c : Int) (v : Tok) :
    Gives (Builtin.«math.gcd» ⟨[.int a t, .int b u, .int c v], []⟩) (.int (((((Nat.gcd 0 a.natAbs).gcd b.natAbs).gcd c.natAbs : Nat) : Int))) :=
  .of_wp fun M A E s Q h => by obtain ⟨hp, g, d, tk, os⟩ := s; wp_walk; exact ⟨_, rfl, h⟩
section
variable {X : Cx}
def rGcd3 : List V → Hp → VK → Prop := fun vs H Q => ∃ a b c : Int, vs = [.int a, .int b, .int c] ∧ Q (.int (Int.gcd (Int.gcd a b) c : Int)) H
theorem cr_gcd3 : CallR X (.builtin "math.gcd") rGcd3 := by
  intro pins s σ H vs us Q I r h
  obtain ⟨a, b, c, rfl, q⟩ := h
  obtain ⟨u1, u2, u3, rfl, r1, r2, r3⟩ : ∃ u1 u2 u3, us = [u1, u2, u3] ∧ RelV (.int a) u1 ∧ RelV (.int b) u2 ∧ RelV (.int c) u3 := by
    cases r with
    | cons p1 q1 => cases q1 with
      | cons p2 q2 => cases q2 with
        | cons p3 q3 => cases q3; exact ⟨_, _, _, rfl, p1, p2, p3⟩
  obtain ⟨t1, rfl⟩ := r1
  obtain ⟨t2, rfl⟩ := r2
  obtain ⟨t3, rfl⟩ := r3
  have g := run_gcd3 a t1 b t2 c t3
  rw [Nat.gcd_zero_left] at g
  refine PySem.call_function_meets PySem.W.MGF.kind_gcd PySem.W.MGF.plain_gcd PySem.W.MGF.entry_gcd (args_gcd3 _ _ _) g.meets ?_
  exact ⟨.int _, H, I.tok _, ⟨_, rfl⟩, q⟩
/-- True - False: as numbers -/
theorem op_sub_bb : OpR X (binaryOp .Sub) (fun x y H Q => ∃ i k : Bool, x = .bl i ∧ y = .bl k ∧ Q (.int (PyProof.Rows.b2i i - PyProof.Rows.b2i k)) H) := by
  intro pins s σ H x y v u Q I rx ry h
  obtain ⟨i, k, rfl, rfl, q⟩ := h
  cases rx
  cases ry
  exact PyProof.Rows.sub_bool ⟨.int _, H, I.tok _, ⟨_, rfl⟩, q⟩
end
end Wk

set_option Elab.async false
set_option linter.all false
set_option maxRecDepth 100000
/-! W1: how data stand in the heap; a proved def as one thing; comprehensions of pure steps. -/
namespace Wk
open PySem L2 PySem.Spec PyProof.Rows
open Pz (Pt Ln)
/-! ### data at values -/
abbrev Rl (α : Type) := Hp → V → α → Prop
/-- what is tracked stays -/
def Mono {α : Type} (r : Rl α) : Prop := ∀ H H' v x, L2.Same H H' → r H v x → r H' v x
def rI : Rl Int := fun _ v i => v = .int i
def rB : Rl Bool := fun _ v b => v = .bl b
def rP : Rl Pt := fun H v p => ∃ a, v = .ref a ∧ H a = some (.tup [.int p.x, .int p.y, .int p.d])
def rH : Rl Ln := fun H v h => ∃ a, v = .ref a ∧ H a = some (.tup [.int h.a, .int h.b, .int h.c])
def rU : Rl (Int × Int) := fun H v u => ∃ a, v = .ref a ∧ H a = some (.tup [.int u.1, .int u.2])
def rT {α : Type} (r : Rl α) : Rl (List α) := fun H v xs => ∃ a vs, v = .ref a ∧ H a = some (.tup vs) ∧ Paired (r H) vs xs
def rL {α : Type} (r : Rl α) : Rl (List α) := fun H v xs => ∃ a vs, v = .ref a ∧ H a = some (.lst vs) ∧ Paired (r H) vs xs
def rPr {α β : Type} (r : Rl α) (s : Rl β) : Rl (α × β) := fun H v x => ∃ a u w, v = .ref a ∧ H a = some (.tup [u, w]) ∧ r H u x.1 ∧ s H w x.2
def rO {α : Type} (r : Rl α) : Rl (Option α) := fun H v x => match x with | none => v = .non | some y => r H v y
theorem mI : Mono rI := fun _ _ _ _ _ h => h
theorem mB : Mono rB := fun _ _ _ _ _ h => h
theorem mP : Mono rP := fun _ _ _ _ s ⟨a, e, h⟩ => ⟨a, e, s _ _ h⟩
theorem mH : Mono rH := fun _ _ _ _ s ⟨a, e, h⟩ => ⟨a, e, s _ _ h⟩
theorem mU : Mono rU := fun _ _ _ _ s ⟨a, e, h⟩ => ⟨a, e, s _ _ h⟩
theorem Paired.imp {α β : Type} {F G : α → β → Prop} {xs : List α} {ys : List β} (h : Paired F xs ys) (k : ∀ a b, F a b → G a b) : Paired G xs ys := Paired.mapP h k
theorem mT {α : Type} {r : Rl α} (m : Mono r) : Mono (rT r) := fun _ _ _ _ s ⟨a, vs, e, h, p⟩ => ⟨a, vs, e, s _ _ h, Paired.imp p fun _ _ q => m _ _ _ _ s q⟩
theorem mL {α : Type} {r : Rl α} (m : Mono r) : Mono (rL r) := fun _ _ _ _ s ⟨a, vs, e, h, p⟩ => ⟨a, vs, e, s _ _ h, Paired.imp p fun _ _ q => m _ _ _ _ s q⟩
theorem mPr {α β : Type} {r : Rl α} {q : Rl β} (m : Mono r) (n : Mono q) : Mono (rPr r q) := fun _ _ _ _ s ⟨a, u, w, e, h, x, y⟩ => ⟨a, u, w, e, s _ _ h, m _ _ _ _ s x, n _ _ _ _ s y⟩
theorem mO {α : Type} {r : Rl α} (m : Mono r) : Mono (rO r) := fun _ _ _ x s h => by
  cases x with
  | none => exact h
  | some y => exact m _ _ _ _ s h
theorem Paired.get {α β : Type} {F : α → β → Prop} : ∀ {xs : List α} {ys : List β} {i : Nat} {x : α}, Paired F xs ys → xs[i]? = some x → ∃ y, ys[i]? = some y ∧ F x y
  | _, _, _, _, .nil, e => by simp at e
  | _, _, 0, _, .cons r _, e => by simp at e; subst e; exact ⟨_, rfl, r⟩
  | _, _, i + 1, x, .cons _ t, e => by
    obtain ⟨u, h1, h2⟩ := Paired.get (i := i) (x := x) t (by simpa using e)
    exact ⟨u, by simpa using h1, h2⟩
theorem Paired.get' {α β : Type} {F : α → β → Prop} : ∀ {xs : List α} {ys : List β} {i : Nat} {y : β}, Paired F xs ys → ys[i]? = some y → ∃ x, xs[i]? = some x ∧ F x y
  | _, _, _, _, .nil, e => by simp at e
  | _, _, 0, _, .cons r _, e => by simp at e; subst e; exact ⟨_, rfl, r⟩
  | _, _, i + 1, x, .cons _ t, e => by
    obtain ⟨u, h1, h2⟩ := Paired.get' (i := i) (y := x) t (by simpa using e)
    exact ⟨u, by simpa using h1, h2⟩
theorem Paired.len {α β : Type} {F : α → β → Prop} {xs : List α} {ys : List β} (h : Paired F xs ys) : xs.length = ys.length := Paired.length h
theorem same_new {H : Hp} {p : Addr} {o : HO} (h : H p = none) : L2.Same H (upd H p o) := fun b u e => by rw [upd_ne (ne_of_none e h)]; exact e
theorem same_new' {H H1 : Hp} {p : Addr} {o : HO} (s : L2.Same H H1) (h : H1 p = none) : L2.Same H (upd H1 p o) := s.trans (same_new h)
/-- a change at an address that was free -/
theorem same_at {H H1 : Hp} {p : Addr} {o : HO} (s : L2.Same H H1) (h : H p = none) : L2.Same H (upd H1 p o) := fun b u e => by rw [upd_ne (ne_of_none e h)]; exact s _ _ e

/-! ### a def that is proved -/
structure Has (P : Program) (w : World) (K : PySem.W.Frag) (mg : Str → Option Value) (base : Heap) (x : Str) (k : Nat) (sp : Sp) : Prop where
  ex : ∃ (f : Addr) (fd : FuncData) (ps : List Str), FnOk P w K mg base CX0 k f fd ps sp ∧ mg x = some (.ref f) ∧ PySem.W.keepIn K (.ref f) = true ∧ Binds K fd ps []
abbrev HasX (X : Cx) (x : Str) (k : Nat) (sp : Sp) : Prop := Has X.prog X.w X.K X.mg X.base x k sp
section
variable {X : Cx} {x : Str} {k : Nat} {sp : Sp} {p pos : Pos} {e : Expr} {es : List Expr} {t : TA}
theorem pe_has (h : HasX X x k sp) (hr : Room k X.A) (hg : Gl X x) (ha : PA X (e :: es) t) (hdb : (x == ("__debug__" : Str)) = false := by decide)
    (he : starEach (e :: es) X.env = (false, eval e X.env) :: starEach es X.env := by rfl) (hpl : (backTo pos (starEach es X.env)).any (·.1) = false := by rfl) : PE X (.Call (.Name x p) (e :: es) [] pos) (tCall sp [] E0 t) := by
  obtain ⟨f, fd, ps, F, m, kp, b⟩ := h.ex
  exact pe_call F hr hg m kp b .nil pass0 ha hdb he hpl
end
/-- where a def of the text stands -/
def DefAt (K : PySem.W.Frag) (mg : Str → Option Value) (x : Str) (st : Stmt) : Prop := ∃ (f : Addr) (fd : FuncData), Fun K x x st f fd ∧ mg x = some (.ref f)
/-- THE RULE for a def of the top -/
theorem has_of {P : Program} {w : World} {K : PySem.W.Frag} {mg : Str → Option Value} {base : Heap} {x : Str} {st : Stmt} {k : Nat} {N ps : List Str} {sp : Sp} (D : DefAt K mg x st) (S : FnScope N ps (defScope st))
    (hb : ∀ (kV doc pm : Value) (an : Option Addr) (cdv ct : Value) (us : List Value), us.length = ps.length → bindArgs (PySem.W.fnOf x x (defArgs st) (defBody st) (defScope st) .none kV doc pm an cdv ct) ⟨us, []⟩ = pure (ps.zip us))
    (len : ∀ vs H Q E, sp vs H Q E → vs.length = ps.length)
    (body : ∀ (f : Addr) (cdv : Value) (A : Around) (outer : List Env) (s : Shared) (H : Hp) (vs : List V) (Q : VK) (E : XK), Room k (A.deeper (envOfC x (defScope st) s.heap.objs.size f cdv)) → sp vs H Q E →
      ∃ t, PSs (cxOf CX0 P w K mg base N x (defScope st) f cdv A outer s H E).nox (defBody st) t ∧ t { nx := fun _ H' => Q .non H', rt := Q } (start N vs) H) : Has P w K mg base x (k + 1) sp := by
  obtain ⟨f, fd, F, m⟩ := D
  exact ⟨f, fd, ps, F.ok S len (fun cdv A outer s H vs Q E hr h => body f cdv A outer s H vs Q E hr h), m, F.kp, F.binds hb⟩
/-! ### promises of pure defs -/
section
variable {α β γ δ : Type}
def sp1 (r : Rl α) (pre : α → Prop) (s : Rl β) (f : α → β) : Sp := fun vs H Q _ => ∃ v x, vs = [v] ∧ r H v x ∧ pre x ∧ ∀ u H', L2.Same H H' → s H' u (f x) → Q u H'
def sp2 (r : Rl α) (r2 : Rl β) (pre : α → β → Prop) (s : Rl γ) (f : α → β → γ) : Sp := fun vs H Q _ => ∃ v v2 x y, vs = [v, v2] ∧ r H v x ∧ r2 H v2 y ∧ pre x y ∧ ∀ u H', L2.Same H H' → s H' u (f x y) → Q u H'
def sp3 (r : Rl α) (r2 : Rl β) (r3 : Rl γ) (pre : α → β → γ → Prop) (s : Rl δ) (f : α → β → γ → δ) : Sp := fun vs H Q _ => ∃ v v2 v3 x y z, vs = [v, v2, v3] ∧ r H v x ∧ r2 H v2 y ∧ r3 H v3 z ∧ pre x y z ∧ ∀ u H', L2.Same H H' → s H' u (f x y z) → Q u H'
theorem sp1_len {r : Rl α} {pre : α → Prop} {s : Rl β} {f : α → β} : ∀ vs H Q E, sp1 r pre s f vs H Q E → vs.length = 1 := fun _ _ _ _ ⟨_, _, e, _⟩ => by rw [e]; rfl
theorem sp2_len {r : Rl α} {r2 : Rl β} {pre : α → β → Prop} {s : Rl γ} {f : α → β → γ} : ∀ vs H Q E, sp2 r r2 pre s f vs H Q E → vs.length = 2 := fun _ _ _ _ ⟨_, _, _, _, e, _⟩ => by rw [e]; rfl
theorem sp3_len {r : Rl α} {r2 : Rl β} {r3 : Rl γ} {pre : α → β → γ → Prop} {s : Rl δ} {f : α → β → γ → δ} : ∀ vs H Q E, sp3 r r2 r3 pre s f vs H Q E → vs.length = 3 := fun _ _ _ _ ⟨_, _, _, _, _, _, e, _⟩ => by rw [e]; rfl
end
/-- tuples stay -/
def TupSame (H H' : Hp) : Prop := ∀ b xs, H b = some (.tup xs) → H' b = some (.tup xs)
/-- what is read are tuples alone -/
def MonoT {α : Type} (r : Rl α) : Prop := ∀ H H' v x, TupSame H H' → r H v x → r H' v x
theorem MonoT.mono {α : Type} {r : Rl α} (m : MonoT r) : Mono r := fun H H' v x s h => m H H' v x (fun b xs e => s b _ e) h
theorem tI : MonoT rI := fun _ _ _ _ _ h => h
theorem tB : MonoT rB := fun _ _ _ _ _ h => h
theorem tP : MonoT rP := fun _ _ _ _ s ⟨a, e, h⟩ => ⟨a, e, s _ _ h⟩
theorem tH : MonoT rH := fun _ _ _ _ s ⟨a, e, h⟩ => ⟨a, e, s _ _ h⟩
theorem tU : MonoT rU := fun _ _ _ _ s ⟨a, e, h⟩ => ⟨a, e, s _ _ h⟩
theorem tT {α : Type} {r : Rl α} (m : MonoT r) : MonoT (rT r) := fun _ _ _ _ s ⟨a, vs, e, h, p⟩ => ⟨a, vs, e, s _ _ h, Paired.imp p fun _ _ q => m _ _ _ _ s q⟩
theorem tPr {α β : Type} {r : Rl α} {q : Rl β} (m : MonoT r) (n : MonoT q) : MonoT (rPr r q) := fun _ _ _ _ s ⟨a, u, w, e, h, x, y⟩ => ⟨a, u, w, e, s _ _ h, m _ _ _ _ s x, n _ _ _ _ s y⟩
theorem tO {α : Type} {r : Rl α} (m : MonoT r) : MonoT (rO r) := fun _ _ _ x s h => by
  cases x with
  | none => exact h
  | some y => exact m _ _ _ _ s h
theorem tup_upd {H : Hp} {D : Addr} {xs ys : List V} (h : H D = some (.lst xs)) : TupSame H (upd H D (.lst ys)) := fun b zs e => by
  rw [upd_ne (ne_of e h (by intro z; cases z))]; exact e
/-! ### a comprehension whose step is pure -/
section
variable {α β : Type} {K : PySem.W.Frag} {a : Addr} {vs : List V} {xs : List α} {r : Rl α} {q : Rl β} {f : α → Option β} {g : TG} {tt : TT} {te : TE} {own : List Nat} {σ : L2.St} {H1 : Hp} {D : Addr} {Qd : Hp → Prop}
/-- what one turn must give -/
abbrev LcStep (r : Rl α) (q : Rl β) (f : α → Option β) (xs : List α) (g : TG) (tt : TT) (te : TE) (own : List Nat) (σ : L2.St) (H1 : Hp) : Prop :=
  ∀ v x H (C : V → Hp → Prop) (C0 : Hp → Prop), x ∈ xs → L2.Same H1 H → r H v x → (∀ y H4 z, L2.Same H H4 → f x = some z → q H4 y z → C y H4) → (∀ H3, L2.Same H H3 → f x = none → C0 H3) →
    g v (wipe σ own) H fun σ2 H2 => wipe σ2 own = wipe σ own ∧ tt σ2 H2 fun b H3 => if b = true then te σ2 H3 C else C0 H3
theorem take_filterMap {f : α → Option β} {xs : List α} {i : Nat} {x : α} (h : xs[i]? = some x) : (xs.take (i + 1)).filterMap f = (xs.take i).filterMap f ++ (match f x with | some z => [z] | none => []) := by
  rw [List.take_add_one, h]
  rw [List.filterMap_append]
  congr 1
  cases e : f x <;> simp [e]
theorem lc_pure_gen (mr : Mono r) (mq : MonoT q) (hp : Paired (r H1) vs xs) (hD : H1 D = none) (hl : vs.length ≤ sizeLine) (step : LcStep r q f xs g tt te own σ H1)
    (done : ∀ H ys, L2.Same H1 H → H D = some (.lst ys) → Paired (q H) ys (xs.filterMap f) → Qd H) :
    ∃ Pv : Nat → Hp → Prop, Pv 0 (upd H1 D (.lst [])) ∧ (∀ i H, i ≤ vs.length → Pv i H → L2.Same H1 H) ∧
      (∀ i x H, vs[i]? = some x → Pv i H → g x (wipe σ own) H fun σ2 H2 => wipe σ2 own = wipe σ own ∧ tt σ2 H2 fun b H3 =>
        if b = true then te σ2 H3 fun y H4 => ∃ acc, H4 D = some (.lst acc) ∧ acc.length < sizeLine ∧ Pv (i + 1) (upd H4 D (.lst (acc ++ [y]))) else Pv (i + 1) H3) ∧ ∀ H, Pv vs.length H → Qd H := by
  have hlen := Paired.len hp
  refine ⟨fun i H => L2.Same H1 H ∧ ∃ ys, H D = some (.lst ys) ∧ Paired (q H) ys ((xs.take i).filterMap f) ∧ ys.length ≤ i, ⟨same_new hD, [], upd_same, by simpa using Paired.nil, Nat.le_refl _⟩, fun i H _ h => h.1, fun i v H hv hP => ?_, fun H hP => ?_⟩
  · obtain ⟨sm, ys, hd, py, ly⟩ := hP
    obtain ⟨x, hx, rx⟩ := Paired.get hp hv
    have hi : i < vs.length := (List.getElem?_eq_some_iff.mp hv).1
    refine step v x H _ _ (List.mem_of_getElem? hx) sm (mr _ _ _ _ sm rx) (fun y H4 z s4 fz qz => ?_) fun H3 s3 fn => ?_
    · have n4 : L2.Same H1 H4 := sm.trans s4
      have d4 := s4 _ _ hd
      refine ⟨ys, d4, by omega, same_at n4 hD, ys ++ [y], upd_same, ?_, by simp; omega⟩
      rw [take_filterMap hx, fz]
      refine PySem.Paired.snoc (Paired.imp py fun _ _ k => mq _ _ _ _ (tup_upd d4) (mq.mono _ _ _ _ s4 k)) (mq _ _ _ _ (tup_upd d4) qz)
    · refine ⟨sm.trans s3, ys, s3 _ _ hd, ?_, by omega⟩
      rw [take_filterMap hx, fn, List.append_nil]
      exact Paired.imp py fun _ _ z => mq.mono _ _ _ _ s3 z
  · obtain ⟨sm, ys, hd, py, _⟩ := hP
    refine done H ys sm hd ?_
    rw [hlen, List.take_length] at py
    exact py
/-- over a list -/
theorem lcL (mr : Mono r) (mq : MonoT q) (hs : SqL K H1 a vs) (hp : Paired (r H1) vs xs) (hD : H1 D = none) (hl : vs.length ≤ sizeLine) (step : LcStep r q f xs g tt te own σ H1)
    (done : ∀ H ys, L2.Same H1 H → H D = some (.lst ys) → Paired (q H) ys (xs.filterMap f) → Qd H) :
    ∃ W : Nat → Nat → Hp → Prop, (∃ m, W 0 m (upd H1 D (.lst []))) ∧ ∀ i m H, W i m H →
      ((Itl K a).stop i H ∧ Qd H) ∨ ((Itl K a).go i H ∧ ∃ Nx : Hp → Prop, (∀ H', Nx H' → ∃ m', m' < m ∧ W (i + 1) m' H') ∧ ∀ x H', (Itl K a).yld i H x H' → g x (wipe σ own) H' fun σ2 H2 => wipe σ2 own = wipe σ own ∧ tt σ2 H2 fun b H3 =>
        if b = true then te σ2 H3 fun y H4 => ∃ acc, H4 D = some (.lst acc) ∧ acc.length < sizeLine ∧ Nx (upd H4 D (.lst (acc ++ [y]))) else Nx H3) := by
  obtain ⟨Pv, h0, hk, ht, hd⟩ := lc_pure_gen mr mq hp hD hl step done
  exact lc_list Pv h0 (fun i H hi h => (hk i H hi h).seq hs) ht hd
theorem sqT_same {H H' : Hp} {a : Addr} {xs : List V} (e : L2.Same H H') (h : SqT K H a xs) : SqT K H' a xs := by
  rcases h with (h | ⟨o, h⟩) | h
  · exact .inl (.inl (e _ _ h))
  · exact .inl (.inr ⟨o, e _ _ h⟩)
  · exact .inr h
/-- over a tuple -/
theorem lcT (mr : Mono r) (mq : MonoT q) (hs : SqT K H1 a vs) (hp : Paired (r H1) vs xs) (hD : H1 D = none) (hl : vs.length ≤ sizeLine) (step : LcStep r q f xs g tt te own σ H1)
    (done : ∀ H ys, L2.Same H1 H → H D = some (.lst ys) → Paired (q H) ys (xs.filterMap f) → Qd H) :
    ∃ W : Nat → Nat → Hp → Prop, (∃ m, W 0 m (upd H1 D (.lst []))) ∧ ∀ i m H, W i m H →
      ((Itt K a).stop i H ∧ Qd H) ∨ ((Itt K a).go i H ∧ ∃ Nx : Hp → Prop, (∀ H', Nx H' → ∃ m', m' < m ∧ W (i + 1) m' H') ∧ ∀ x H', (Itt K a).yld i H x H' → g x (wipe σ own) H' fun σ2 H2 => wipe σ2 own = wipe σ own ∧ tt σ2 H2 fun b H3 =>
        if b = true then te σ2 H3 fun y H4 => ∃ acc, H4 D = some (.lst acc) ∧ acc.length < sizeLine ∧ Nx (upd H4 D (.lst (acc ++ [y]))) else Nx H3) := by
  obtain ⟨Pv, h0, hk, ht, hd⟩ := lc_pure_gen mr mq hp hD hl step done
  exact lc_tup Pv h0 (fun i H hi h => sqT_same (hk i H hi h) hs) ht hd
end
end Wk

set_option Elab.async false
set_option linter.all false
set_option maxRecDepth 100000
/-! W2: what stands at the top; is_number, place. -/
namespace Wk
open PySem L2 PySem.Spec PyProof.Rows
open Pz (Pt Ln)
abbrev topS (i : Nat) : Stmt := Wk.top i
/-- what the top has written -/
structure Tx (K : PySem.W.Frag) (mg : Str → Option Value) : Prop where
  n_isinstance : mg "isinstance" = none
  n_int : mg "int" = none
  n_bool : mg "bool" = none
  n_all : mg "all" = none
  n_tuple : mg "tuple" = none
  n_len : mg "len" = none
  n_sorted : mg "sorted" = none
  n_list : mg "list" = none
  n_zip : mg "zip" = none
  n_enumerate : mg "enumerate" = none
  n_sum : mg "sum" = none
  n_range : mg "range" = none
  n_abs : mg "abs" = none
  gcd : mg "gcd" = some (.builtin "math.gcd")
  is_number : DefAt K mg "is_number" (topS 12)
  is_row_of_numbers : DefAt K mg "is_row_of_numbers" (topS 13)
  fraction : DefAt K mg "fraction" (topS 14)
  common_of : DefAt K mg "common_of" (topS 15)
  place : DefAt K mg "place" (topS 17)
  is_place : DefAt K mg "is_place" (topS 18)
  grid : DefAt K mg "grid" (topS 19)
  in_order : DefAt K mg "in_order" (topS 20)
  comes_first : DefAt K mg "comes_first" (topS 21)
  apart : DefAt K mg "apart" (topS 22)
  scaled : DefAt K mg "scaled" (topS 23)
  turn : DefAt K mg "turn" (topS 24)
  direction : DefAt K mg "direction" (topS 26)
  back : DefAt K mg "back" (topS 27)
  quarter : DefAt K mg "quarter" (topS 28)
  towards : DefAt K mg "towards" (topS 29)
  half : DefAt K mg "half" (topS 31)
  depth : DefAt K mg "depth" (topS 32)
  facing : DefAt K mg "facing" (topS 33)
  height : DefAt K mg "height" (topS 34)
  half_from : DefAt K mg "half_from" (topS 35)
  half_at : DefAt K mg "half_at" (topS 36)
  chain : DefAt K mg "chain" (topS 38)
  hull : DefAt K mg "hull" (topS 39)
  is_plate : DefAt K mg "is_plate" (topS 40)
  neighbours : DefAt K mg "neighbours" (topS 41)
  has_place : DefAt K mg "has_place" (topS 42)
  sides : DefAt K mg "sides" (topS 43)
  met_at : DefAt K mg "met_at" (topS 45)
  cut_plate : DefAt K mg "cut_plate" (topS 46)
  borders : DefAt K mg "borders" (topS 47)
  meet : DefAt K mg "meet" (topS 48)
  mirror : DefAt K mg "mirror" (topS 49)
  led_place : DefAt K mg "led_place" (topS 50)
  led : DefAt K mg "led" (topS 51)
  is_heap_row : DefAt K mg "is_heap_row" (topS 53)
  stands_ahead : DefAt K mg "stands_ahead" (topS 54)
  ascending : DefAt K mg "ascending" (topS 55)
  look : DefAt K mg "look" (topS 57)
  scaled_heap : DefAt K mg "scaled_heap" (topS 58)
  led_heap : DefAt K mg "led_heap" (topS 59)
  mirrored : DefAt K mg "mirrored" (topS 60)
  over : DefAt K mg "over" (topS 63)
  _law_open_cells : DefAt K mg "_law_open_cells" (topS 65)
  _law_pick : DefAt K mg "_law_pick" (topS 66)
  _law_any_order : DefAt K mg "_law_any_order" (topS 67)
  _law_common : DefAt K mg "_law_common" (topS 68)
  _law_place : DefAt K mg "_law_place" (topS 69)
  _law_first : DefAt K mg "_law_first" (topS 70)
  _law_places : DefAt K mg "_law_places" (topS 71)
  _law_step : DefAt K mg "_law_step" (topS 72)
  _law_turn : DefAt K mg "_law_turn" (topS 73)
  _law_chain : DefAt K mg "_law_chain" (topS 74)
  _law_hull : DefAt K mg "_law_hull" (topS 75)
  _law_draw_place : DefAt K mg "_law_draw_place" (topS 76)
  _law_draw_pool : DefAt K mg "_law_draw_pool" (topS 77)
  _law_draw_plate : DefAt K mg "_law_draw_plate" (topS 78)
  _law_draw_rows : DefAt K mg "_law_draw_rows" (topS 79)
  _law_draw_map : DefAt K mg "_law_draw_map" (topS 80)
  _law_one_to_one : DefAt K mg "_law_one_to_one" (topS 81)
  _law_heap : DefAt K mg "_law_heap" (topS 82)
  law : DefAt K mg "law" (topS 83)
section
variable {X : Cx}
/-- // by any divisor below 2 ^ 9000 in size -/
theorem op_fdivZ : OpR X (binaryOp .FloorDiv) (L2.rI (fun _ j => j ≠ 0 ∧ j.natAbs.log2 < 9000) fun i j => .int (i.fdiv j)) := opI fun i j _ _ _ _ _ hc q =>
  floordiv_int hc.1 q (.inl (PyProof.noPylong_of_log2 hc.2))
end
/-- a bound that all numbers keep -/
def BIG : Nat := 2 ^ 8000
theorem big_log {n : Nat} (h : n < BIG) : n.log2 < 9000 := Nat.lt_trans (PySem.Flt.log2_lt_of (by decide) h) (by decide)
theorem big_mul {i j : Int} (hi : i.natAbs < BIG) (hj : j.natAbs < BIG) : CMulW i j := wide_mul hi hj (by decide) (by decide) (by decide)
theorem gcd_le {a d : Int} (h : d ≠ 0) : (Int.gcd a d) ≤ d.natAbs := Nat.le_of_dvd (Int.natAbs_pos.mpr h) (by
  have := Int.gcd_dvd_right a d
  exact Int.natAbs_dvd_natAbs.mpr this)
theorem gcd_le' {a d : Int} (h : a ≠ 0) : (Int.gcd a d) ≤ a.natAbs := Nat.le_of_dvd (Int.natAbs_pos.mpr h) (by
  have := Int.gcd_dvd_left a d
  exact Int.natAbs_dvd_natAbs.mpr this)
section
variable {P : Program} {w : World} {K : PySem.W.Frag} {mg : Str → Option Value} {base : Heap}
theorem sc_is_number : FnScope ["value"] ["value"] (defScope (topS 12)) := ⟨rfl, rfl, rfl, by decide +kernel, rfl, by decide +kernel, by decide +kernel⟩
def sp_is_number : Sp := sp1 rI (fun _ => True) rB fun _ => true
theorem ok_is_number (T : Tx K mg) : Has P w K mg base "is_number" 1 sp_is_number := by
  refine has_of T.is_number sc_is_number (fun _ _ _ _ _ _ us hl => match us, hl with | [_], _ => rfl) sp1_len fun f cdv A outer s H vs Q E hr h => ?_
  obtain ⟨v, x, rfl, rfl, _, k⟩ := h
  refine ⟨_, pss_one (ps_ret (pe_and (pe_callB call_isi (by rfl) T.n_isinstance (by decide +kernel) (pa_cons (pv 0) (pa_cons (pe_bltn (v := .ty "int") (by rfl) T.n_int (by decide +kernel) rfl) pa_nil)))
    (pe_one (pe_not (pe_callB call_isi (by rfl) T.n_isinstance (by decide +kernel) (pa_cons (pv 0) (pa_cons (pe_bltn (v := .ty "bool") (by rfl) T.n_bool (by decide +kernel) rfl) pa_nil))))))), ?_⟩
  refine ⟨_, rfl, .int x, .ty "int", .type "int", .type "int", true, rfl, .ty _, .base (.int x), kit_ty (by decide +kernel), true, rfl, iteT ?_⟩
  refine ⟨_, rfl, .int x, .ty "bool", .type "int", .type "bool", false, rfl, .ty _, .base (.int x), kit_ty (by decide +kernel), false, rfl, ?_⟩
  exact k _ _ (.refl _) rfl
theorem fdiv_of {a g : Int} (h : g ∣ a) : a.fdiv g = a / g := by
  rw [Int.fdiv_eq_ediv]
  by_cases z : g = 0
  · subst z; simp
  · simp [h]
theorem place_div {x y d : Int} (d0 : d ≠ 0) (db : d.natAbs < BIG) {g : Int} (hg : g = if 0 < d then (Int.gcd (Int.gcd x y) d : Int) else -(Int.gcd (Int.gcd x y) d : Int)) :
    (g ≠ 0 ∧ g.natAbs.log2 < 9000) ∧ x.fdiv g = (Pz.canon x y d).x ∧ y.fdiv g = (Pz.canon x y d).y ∧ d.fdiv g = (Pz.canon x y d).d := by
  have gl : Int.gcd (Int.gcd x y) d ≤ d.natAbs := gcd_le d0
  have g0 : Int.gcd (Int.gcd x y) d ≠ 0 := fun z => d0 (Int.gcd_eq_zero_iff.mp z).2
  have dd : (Int.gcd (Int.gcd x y) d : Int) ∣ d := Int.gcd_dvd_right ..
  have d1 : (Int.gcd (Int.gcd x y) d : Int) ∣ (Int.gcd x y : Int) := Int.gcd_dvd_left ..
  have dx : (Int.gcd (Int.gcd x y) d : Int) ∣ x := Int.dvd_trans d1 (Int.gcd_dvd_left ..)
  have dy : (Int.gcd (Int.gcd x y) d : Int) ∣ y := Int.dvd_trans d1 (Int.gcd_dvd_right ..)
  have nb : g.natAbs = Int.gcd (Int.gcd x y) d := by rw [hg]; split <;> simp
  have dv : ∀ z, (Int.gcd (Int.gcd x y) d : Int) ∣ z → g ∣ z := fun z k => by
    rw [hg]; split
    · exact k
    · exact Int.neg_dvd.mpr k
  have e : Pz.canon x y d = ⟨x / g, y / g, d / g⟩ := by rw [hg]; rfl
  refine ⟨⟨fun z => ?_, big_log (by rw [nb]; omega)⟩, ?_, ?_, ?_⟩
  · rw [z] at nb; exact g0 nb.symm
  · rw [e]; exact fdiv_of (dv x dx)
  · rw [e]; exact fdiv_of (dv y dy)
  · rw [e]; exact fdiv_of (dv d dd)
theorem sc_place : FnScope ["x", "y", "d", "divisor", "one"] ["x", "y", "d"] (defScope (topS 17)) := ⟨rfl, rfl, rfl, by decide +kernel, rfl, by decide +kernel, by decide +kernel⟩
def sp_place : Sp := sp3 rI rI rI (fun _ _ d => d ≠ 0 ∧ d.natAbs < BIG) rP Pz.canon
theorem ok_place (T : Tx K mg) : Has P w K mg base "place" 2 sp_place := by
  have G1 : Has P w K mg base "is_number" 1 sp_is_number := ok_is_number T
  refine has_of T.place sc_place (fun _ _ _ _ _ _ us hl => match us, hl with | [_, _, _], _ => rfl) sp3_len fun f cdv A outer s H vs Q E hr h => ?_
  obtain ⟨v1, v2, v3, x, y, d, rfl, rfl, rfl, rfl, ⟨d0, db⟩, k⟩ := h
  refine ⟨_, pss_cons (ps_if (PW.pt (pw_or (pt_not (pt_val (pe_callB (cr_all rfl) (by rfl) T.n_all (by decide +kernel) (pa_cons
      (pe_lc (own := [("one", 4)]) (g := gName 4) (by rfl) sc_place.nd (pi_tup (pe_tup (pa_cons (pv 0) (pa_cons (pv 1) (pa_cons (pv 2) pa_nil)))))
        (blkOk_by (own := [("one", 4)]) (N := ["x", "y", "d", "divisor", "one"]) (sc := defScope (topS 17)) (by decide +kernel))
        (fun _ _ _ _ _ => pg_name (i := 4) sc_place.nd rfl (Or.inl rfl)) (fun _ _ _ _ _ => pts_nil) (fun _ _ _ _ _ => pe_has G1 hr (by rfl) (pa_cons (pv 4) pa_nil))) pa_nil)))) (pw_or1 (pt_cmpR op_eq (pv 2) pe_int (nomark _)))))
      pss_never pss_nil)
    (pss_cons (ps_set (i := 3) sc_place.nd rfl (Or.inl rfl) (pe_ifExp (pt_cmpR op_gt (pv 2) pe_int (nomark _))
      (pe_callBfun cr_gcd3 (by rfl) T.gcd (pa_cons (pv 0) (pa_cons (pv 1) (pa_cons (pv 2) pa_nil)))) (pe_un un_neg (pe_callBfun cr_gcd3 (by rfl) T.gcd (pa_cons (pv 0) (pa_cons (pv 1) (pa_cons (pv 2) pa_nil)))))))
    (pss_one (ps_ret (pe_tup (pa_cons (pe_op op_fdivZ (pv 0) (pv 3)) (pa_cons (pe_op op_fdivZ (pv 1) (pv 3)) (pa_cons (pe_op op_fdivZ (pv 2) (pv 3)) pa_nil))))))), ?_⟩
  refine ⟨_, rfl, _, rfl, _, rfl, by show 3 ≤ sizeLine; decide, fun t ht => ?_⟩
  refine ⟨t, rfl, ⟨_, SqT.of upd_same⟩, fun D hD => ?_⟩
  have sm : L2.Same H (upd H t (.tup [.int x, .int y, .int d])) := same_new ht
  refine lcT (r := rI) (q := rB) (xs := [x, y, d]) (f := fun _ => some true) mI tB (SqT.of upd_same) (.cons rfl (.cons rfl (.cons rfl .nil))) hD (by show 3 ≤ sizeLine; decide) ?_ ?_
  · intro v z H2 C C0 m s2 e c1 c0
    exact ⟨rfl, _, rfl, v, z, rfl, e, trivial, fun u H3 s3 ru => c1 _ _ true s3 rfl ru⟩
  · intro H2 ys s2 hy py
    have ey : ys = [true, true, true].map V.bl := by
      have : ([x, y, d].filterMap fun _ => some true) = [true, true, true] := rfl
      rw [this] at py
      cases py with
      | cons a p => cases p with
        | cons b p => cases p with
          | cons c p => cases p; rw [a, b, c]; rfl
    subst ey
    have s02 : L2.Same H H2 := sm.trans s2
    refine ⟨D, [true, true, true], rfl, SqL.of hy, true, rfl, _, rfl, rfl, _, rfl, ?_⟩
    refine ite2 (fun e => absurd (of_decide_eq_true e) fun e => d0 (by injection e)) fun _ => ?_
    refine ⟨_, rfl, _, _, rfl, rfl, _, rfl, ?_⟩
    refine ite2 (fun e => ?_) (fun e => ?_)
    · obtain ⟨g1, g2, g3, g4⟩ := place_div (x := x) (y := y) d0 db (if_pos (of_decide_eq_true e)).symm
      refine ⟨_, rfl, _, rfl, _, rfl, x, y, d, rfl, _, rfl, _, rfl, _, _, rfl, rfl, g1, _, rfl, _, rfl, _, _, rfl, rfl, g1, _, rfl, _, rfl, _, _, rfl, rfl, g1, by show 3 ≤ sizeLine; decide, fun p hp => ?_⟩
      exact k _ _ (same_new' s02 hp) ⟨p, rfl, by rw [← g2, ← g3, ← g4]; exact upd_same⟩
    · obtain ⟨g1, g2, g3, g4⟩ := place_div (x := x) (y := y) d0 db (if_neg (of_decide_eq_false (by simpa using e))).symm
      refine ⟨_, rfl, _, rfl, _, rfl, x, y, d, rfl, _, rfl, _, rfl, _, rfl, _, _, rfl, rfl, g1, _, rfl, _, rfl, _, _, rfl, rfl, g1, _, rfl, _, rfl, _, _, rfl, rfl, g1, by show 3 ≤ sizeLine; decide, fun p hp => ?_⟩
      exact k _ _ (same_new' s02 hp) ⟨p, rfl, by rw [← g2, ← g3, ← g4]; exact upd_same⟩
end
end Wk

set_option Elab.async false
set_option linter.all false
set_option maxRecDepth 100000
/-! W3: places: apart, scaled, turn, comes_first. -/
namespace Wk
open PySem L2 PySem.Spec PyProof.Rows
open Pz (Pt Ln)
/-- the size that places keep -/
def LIM : Nat := 2 ^ 2500
def Sm (p : Pt) : Prop := Pz.Sz LIM p ∧ 0 < p.d
theorem lim_mul {a b : Int} (ha : a.natAbs ≤ LIM) (hb : b.natAbs ≤ LIM) : (a * b).natAbs ≤ LIM * LIM := Pz.abs_mul ha hb
theorem lim2_big : LIM * LIM + LIM * LIM < BIG := by decide +kernel
theorem lim_big : LIM < BIG := by decide +kernel
theorem mulS {a b : Int} (ha : a.natAbs ≤ LIM) (hb : b.natAbs ≤ LIM) : CMulW a b := big_mul (Nat.lt_of_le_of_lt ha lim_big) (Nat.lt_of_le_of_lt hb lim_big)
theorem i0 {xs : List V} {v : V} (h : xs[0]? = some v) : atI xs 0 = some v := atI_nat (j := 0) h
theorem i1 {xs : List V} {v : V} (h : xs[1]? = some v) : atI xs 1 = some v := atI_nat (j := 1) h
theorem i2 {xs : List V} {v : V} (h : xs[2]? = some v) : atI xs 2 = some v := atI_nat (j := 2) h
theorem at3_0 {a b c : V} : atI [a, b, c] 0 = some a := i0 rfl
theorem at3_1 {a b c : V} : atI [a, b, c] 1 = some b := i1 rfl
theorem at3_2 {a b c : V} : atI [a, b, c] 2 = some c := i2 rfl
theorem at2_0 {a b : V} : atI [a, b] 0 = some a := i0 rfl
theorem at2_1 {a b : V} : atI [a, b] 1 = some b := i1 rfl
section
variable {X : Cx}
theorem pX (i : Nat) {x : Str} {pos p2 p3 : Pos} {jj} (hN : X.N[i]? = some x := by rfl) (hv : Vis X.env.scope x := by first | exact Or.inl rfl | exact Or.inr (Or.inl rfl) | exact Or.inr (Or.inr rfl)) (hd : (x == ("__debug__" : Str)) = false := by decide)
    (hcd : (x == ("__classdict__" : Str)) = false := by decide) :
    PE X (.Subscript (.Name x p2) (.Constant (.int 0) jj p3) pos) (fun σ H Q => ∃ (v : V) (p : Pt), σ[i]? = some (some v) ∧ rP H v p ∧ Q (.int p.x) H) := by
  refine ⟨fun pins s σ H Q I h => ?_⟩
  obtain ⟨v, p, h1, ⟨a, rfl, h2⟩, h4⟩ := h
  exact (pe_ix ix_tup (pv i hN hv hd hcd) pe_int (fun _ _ => rfl)).run pins s σ H Q I ⟨_, h1, a, _, 0, _, rfl, rfl, SqT.of h2, at3_0, h4⟩
theorem pY (i : Nat) {x : Str} {pos p2 p3 : Pos} {jj} (hN : X.N[i]? = some x := by rfl) (hv : Vis X.env.scope x := by first | exact Or.inl rfl | exact Or.inr (Or.inl rfl) | exact Or.inr (Or.inr rfl)) (hd : (x == ("__debug__" : Str)) = false := by decide)
    (hcd : (x == ("__classdict__" : Str)) = false := by decide) :
    PE X (.Subscript (.Name x p2) (.Constant (.int 1) jj p3) pos) (fun σ H Q => ∃ (v : V) (p : Pt), σ[i]? = some (some v) ∧ rP H v p ∧ Q (.int p.y) H) := by
  refine ⟨fun pins s σ H Q I h => ?_⟩
  obtain ⟨v, p, h1, ⟨a, rfl, h2⟩, h4⟩ := h
  exact (pe_ix ix_tup (pv i hN hv hd hcd) pe_int (fun _ _ => rfl)).run pins s σ H Q I ⟨_, h1, a, _, 1, _, rfl, rfl, SqT.of h2, at3_1, h4⟩
theorem pD (i : Nat) {x : Str} {pos p2 p3 : Pos} {jj} (hN : X.N[i]? = some x := by rfl) (hv : Vis X.env.scope x := by first | exact Or.inl rfl | exact Or.inr (Or.inl rfl) | exact Or.inr (Or.inr rfl)) (hd : (x == ("__debug__" : Str)) = false := by decide)
    (hcd : (x == ("__classdict__" : Str)) = false := by decide) :
    PE X (.Subscript (.Name x p2) (.Constant (.int 2) jj p3) pos) (fun σ H Q => ∃ (v : V) (p : Pt), σ[i]? = some (some v) ∧ rP H v p ∧ Q (.int p.d) H) := by
  refine ⟨fun pins s σ H Q I h => ?_⟩
  obtain ⟨v, p, h1, ⟨a, rfl, h2⟩, h4⟩ := h
  exact (pe_ix ix_tup (pv i hN hv hd hcd) pe_int (fun _ _ => rfl)).run pins s σ H Q I ⟨_, h1, a, _, 2, _, rfl, rfl, SqT.of h2, at3_2, h4⟩
theorem pU0 (i : Nat) {x : Str} {pos p2 p3 : Pos} {jj} (hN : X.N[i]? = some x := by rfl) (hv : Vis X.env.scope x := by first | exact Or.inl rfl | exact Or.inr (Or.inl rfl) | exact Or.inr (Or.inr rfl)) (hd : (x == ("__debug__" : Str)) = false := by decide)
    (hcd : (x == ("__classdict__" : Str)) = false := by decide) :
    PE X (.Subscript (.Name x p2) (.Constant (.int 0) jj p3) pos) (fun σ H Q => ∃ (v : V) (p : (Int × Int)), σ[i]? = some (some v) ∧ rU H v p ∧ Q (.int p.1) H) := by
  refine ⟨fun pins s σ H Q I h => ?_⟩
  obtain ⟨v, p, h1, ⟨a, rfl, h2⟩, h4⟩ := h
  exact (pe_ix ix_tup (pv i hN hv hd hcd) pe_int (fun _ _ => rfl)).run pins s σ H Q I ⟨_, h1, a, _, 0, _, rfl, rfl, SqT.of h2, at2_0, h4⟩
theorem pU1 (i : Nat) {x : Str} {pos p2 p3 : Pos} {jj} (hN : X.N[i]? = some x := by rfl) (hv : Vis X.env.scope x := by first | exact Or.inl rfl | exact Or.inr (Or.inl rfl) | exact Or.inr (Or.inr rfl)) (hd : (x == ("__debug__" : Str)) = false := by decide)
    (hcd : (x == ("__classdict__" : Str)) = false := by decide) :
    PE X (.Subscript (.Name x p2) (.Constant (.int 1) jj p3) pos) (fun σ H Q => ∃ (v : V) (p : (Int × Int)), σ[i]? = some (some v) ∧ rU H v p ∧ Q (.int p.2) H) := by
  refine ⟨fun pins s σ H Q I h => ?_⟩
  obtain ⟨v, p, h1, ⟨a, rfl, h2⟩, h4⟩ := h
  exact (pe_ix ix_tup (pv i hN hv hd hcd) pe_int (fun _ _ => rfl)).run pins s σ H Q I ⟨_, h1, a, _, 1, _, rfl, rfl, SqT.of h2, at2_1, h4⟩
end
section
variable {P : Program} {w : World} {K : PySem.W.Frag} {mg : Str → Option Value} {base : Heap}
theorem sc_apart : FnScope ["p", "q"] ["p", "q"] (defScope (topS 22)) := ⟨rfl, rfl, rfl, by decide +kernel, rfl, by decide +kernel, by decide +kernel⟩
def apM (p q : Pt) : Pt := Pz.canon (p.x * q.d - q.x * p.d) (p.y * q.d - q.y * p.d) (p.d * q.d)
def sp_apart : Sp := sp2 rP rP (fun p q => Sm p ∧ Sm q) rP apM
theorem ok_apart (T : Tx K mg) : Has P w K mg base "apart" 3 sp_apart := by
  have G1 : Has P w K mg base "place" 2 sp_place := ok_place T
  refine has_of T.apart sc_apart (fun _ _ _ _ _ _ us hl => match us, hl with | [_, _], _ => rfl) sp2_len fun f cdv A outer s H vs Q E hr h => ?_
  obtain ⟨v1, v2, p, q, rfl, hp, hq, ⟨⟨⟨px, py, pd⟩, p0⟩, ⟨qx, qy, qd⟩, q0⟩, k⟩ := h
  refine ⟨_, pss_one (ps_ret (pe_has G1 hr (by rfl)
    (pa_cons (pe_op op_sub (pe_op op_mulW (pX 0) (pD 1)) (pe_op op_mulW (pX 1) (pD 0)))
    (pa_cons (pe_op op_sub (pe_op op_mulW (pY 0) (pD 1)) (pe_op op_mulW (pY 1) (pD 0)))
    (pa_cons (pe_op op_mulW (pD 0) (pD 1)) pa_nil))))), ?_⟩
  refine ⟨_, _, rfl, hp, _, _, rfl, hq, _, _, rfl, rfl, mulS px qd, _, _, rfl, hq, _, _, rfl, hp, _, _, rfl, rfl, mulS qx pd, _, _, rfl, rfl, ?_⟩
  refine ⟨_, _, rfl, hp, _, _, rfl, hq, _, _, rfl, rfl, mulS py qd, _, _, rfl, hq, _, _, rfl, hp, _, _, rfl, rfl, mulS qy pd, _, _, rfl, rfl, ?_⟩
  refine ⟨_, _, rfl, hp, _, _, rfl, hq, _, _, rfl, rfl, mulS pd qd, ?_⟩
  have d0 : 0 < p.d * q.d := Int.mul_pos p0 q0
  exact ⟨_, _, _, _, _, _, rfl, rfl, rfl, rfl, ⟨by omega, Nat.lt_of_le_of_lt (lim_mul pd qd) (Nat.lt_of_le_of_lt (Nat.le_add_left ..) lim2_big)⟩, k⟩
theorem sc_scaled : FnScope ["p", "m", "n"] ["p", "m", "n"] (defScope (topS 23)) := ⟨rfl, rfl, rfl, by decide +kernel, rfl, by decide +kernel, by decide +kernel⟩
def scM (p : Pt) (m n : Int) : Pt := Pz.canon (p.x * m) (p.y * m) (p.d * n)
def sp_scaled : Sp := sp3 rP rI rI (fun p m n => Sm p ∧ m.natAbs ≤ LIM ∧ n.natAbs ≤ LIM ∧ 0 < n) rP scM
theorem ok_scaled (T : Tx K mg) : Has P w K mg base "scaled" 3 sp_scaled := by
  have G1 : Has P w K mg base "place" 2 sp_place := ok_place T
  refine has_of T.scaled sc_scaled (fun _ _ _ _ _ _ us hl => match us, hl with | [_, _, _], _ => rfl) sp3_len fun f cdv A outer s H vs Q E hr h => ?_
  obtain ⟨v1, v2, v3, p, m, n, rfl, hp, rfl, rfl, ⟨⟨⟨px, py, pd⟩, p0⟩, hm, hn, n0⟩, k⟩ := h
  refine ⟨_, pss_one (ps_ret (pe_has G1 hr (by rfl)
    (pa_cons (pe_op op_mulW (pX 0) (pv 1)) (pa_cons (pe_op op_mulW (pY 0) (pv 1)) (pa_cons (pe_op op_mulW (pD 0) (pv 2)) pa_nil))))), ?_⟩
  refine ⟨_, _, rfl, hp, _, rfl, _, _, rfl, rfl, mulS px hm, _, _, rfl, hp, _, rfl, _, _, rfl, rfl, mulS py hm, _, _, rfl, hp, _, rfl, _, _, rfl, rfl, mulS pd hn, ?_⟩
  have d0 : 0 < p.d * n := Int.mul_pos p0 n0
  exact ⟨_, _, _, _, _, _, rfl, rfl, rfl, rfl, ⟨by omega, Nat.lt_of_le_of_lt (lim_mul pd hn) (Nat.lt_of_le_of_lt (Nat.le_add_left ..) lim2_big)⟩, k⟩
/-- 1, -1 or 0 -/
def sgn (z : Int) : Int := PyProof.Rows.b2i (decide (0 < z)) - PyProof.Rows.b2i (decide (z < 0))
theorem sgn_nonneg {z : Int} : 0 ≤ sgn z ↔ 0 ≤ z := by
  unfold sgn PyProof.Rows.b2i
  by_cases h1 : 0 < z
  · have h2 : ¬ z < 0 := by omega
    simp [h1, h2]; omega
  · by_cases h2 : z < 0
    · simp [h1, h2]
    · simp [h1, h2]; omega
theorem sgn_nonpos {z : Int} : sgn z ≤ 0 ↔ z ≤ 0 := by
  unfold sgn PyProof.Rows.b2i
  by_cases h1 : 0 < z
  · have h2 : ¬ z < 0 := by omega
    simp [h1, h2]
  · by_cases h2 : z < 0
    · simp [h1, h2]; omega
    · simp [h1, h2]; omega
theorem sgn_scale {g z : Int} (h : 0 < g) : sgn (g * z) = sgn z := by
  unfold sgn
  have h1 : decide (0 < g * z) = decide (0 < z) := by
    by_cases k : 0 < z
    · simp [k, Int.mul_pos h k]
    · have : ¬ 0 < g * z := fun q => k (Pz.pos_of_mul h q)
      simp [k, this]
  have h2 : decide (g * z < 0) = decide (z < 0) := by
    by_cases k : z < 0
    · simp [k, Int.mul_neg_of_pos_of_neg h k]
    · have : ¬ g * z < 0 := fun q => k (by
        rcases Int.lt_or_le z 0 with r | r
        · exact r
        · have := Int.mul_nonneg (Int.le_of_lt h) r; omega)
      simp [k, this]
  rw [h1, h2]
def turnM (p q r : Pt) : Int := sgn (Pz.det p q r)
theorem turn_ap {p q r : Pt} (hp : 0 < p.d) (hq : 0 < q.d) (hr : 0 < r.d) : sgn ((apM q p).x * (apM r p).y - (apM q p).y * (apM r p).x) = turnM p q r := by
  obtain ⟨g, g1, _, ex, ey, _, _⟩ := Pz.canon_spec (x := q.x * p.d - p.x * q.d) (y := q.y * p.d - p.y * q.d) (d := q.d * p.d) (by have := Int.mul_pos hq hp; omega)
  obtain ⟨k, k1, _, fx, fy, _, _⟩ := Pz.canon_spec (x := r.x * p.d - p.x * r.d) (y := r.y * p.d - p.y * r.d) (d := r.d * p.d) (by have := Int.mul_pos hr hp; omega)
  have gp := g1 (Int.mul_pos hq hp)
  have kp := k1 (Int.mul_pos hr hp)
  have e1 : Pz.canon (q.x * p.d - p.x * q.d) (q.y * p.d - p.y * q.d) (q.d * p.d) = apM q p := rfl
  have e2 : Pz.canon (r.x * p.d - p.x * r.d) (r.y * p.d - p.y * r.d) (r.d * p.d) = apM r p := rfl
  rw [e1] at ex ey
  rw [e2] at fx fy
  generalize apM q p = u at *
  generalize apM r p = v at *
  unfold turnM
  have e : (g * k) * (u.x * v.y - u.y * v.x) = p.d * Pz.det p q r := by
    have : (g * k) * (u.x * v.y - u.y * v.x) = (g * u.x) * (k * v.y) - (g * u.y) * (k * v.x) := by grind
    rw [this, ← ex, ← ey, ← fx, ← fy, Pz.detXY]
    try simp only [Pz.dX, Pz.dY]
    try grind
  rw [← sgn_scale (Int.mul_pos gp kp), e, sgn_scale hp]
theorem ap_sz {p q : Pt} (hp : Sm p) (hq : Sm q) : Pz.Sz (LIM * LIM + LIM * LIM) (apM p q) := by
  obtain ⟨⟨px, py, pd⟩, _⟩ := hp
  obtain ⟨⟨qx, qy, qd⟩, _⟩ := hq
  exact Pz.canon_sz (Pz.abs_sub (lim_mul px qd) (lim_mul qx pd)) (Pz.abs_sub (lim_mul py qd) (lim_mul qy pd)) (Nat.le_trans (lim_mul pd qd) (Nat.le_add_left ..))
theorem mulB {a b : Int} (ha : a.natAbs ≤ LIM * LIM + LIM * LIM) (hb : b.natAbs ≤ LIM * LIM + LIM * LIM) : CMulW a b := big_mul (Nat.lt_of_le_of_lt ha lim2_big) (Nat.lt_of_le_of_lt hb lim2_big)
theorem sc_turn : FnScope ["p", "q", "r", "one", "other", "found"] ["p", "q", "r"] (defScope (topS 24)) := ⟨rfl, rfl, rfl, by decide +kernel, rfl, by decide +kernel, by decide +kernel⟩
def sp_turn : Sp := sp3 rP rP rP (fun p q r => Sm p ∧ Sm q ∧ Sm r) rI turnM
theorem ok_turn (T : Tx K mg) : Has P w K mg base "turn" 4 sp_turn := by
  have G1 : Has P w K mg base "apart" 3 sp_apart := ok_apart T
  refine has_of T.turn sc_turn (fun _ _ _ _ _ _ us hl => match us, hl with | [_, _, _], _ => rfl) sp3_len fun f cdv A outer s H vs Q E hr h => ?_
  obtain ⟨v1, v2, v3, p, q, r, rfl, hp, hq, hr', ⟨sp, sq, sr⟩, k⟩ := h
  refine ⟨_, pss_cons (ps_par (i := 3) (j := 4) (by rfl) sc_turn.nd rfl rfl (by decide) rfl rfl (pa_cons (pe_has G1 hr (by rfl) (pa_cons (pv 1) (pa_cons (pv 0) pa_nil))) (pa_cons (pe_has G1 hr (by rfl) (pa_cons (pv 2) (pa_cons (pv 0) pa_nil))) pa_nil)) (by rfl))
    (pss_cons (ps_set (i := 5) sc_turn.nd rfl (Or.inl rfl) (pe_op op_sub (pe_op op_mulW (pX 3) (pY 4)) (pe_op op_mulW (pY 3) (pX 4))))
    (pss_one (ps_ret (pe_op op_sub_bb (pe_cmpR op_gt (pv 5) pe_int (nomark _)) (pe_cmpR op_lt (pv 5) pe_int (nomark _)))))), ?_⟩
  refine ⟨_, rfl, _, rfl, _, _, _, _, rfl, hq, hp, ⟨sq, sp⟩, fun u1 H1 s1 r1 => ?_⟩
  refine ⟨_, rfl, _, rfl, _, _, _, _, rfl, mP _ _ _ _ s1 hr', mP _ _ _ _ s1 hp, ⟨sr, sp⟩, fun u2 H2 s2 r2 => ⟨_, _, rfl, ?_⟩⟩
  have r1 := mP _ _ _ _ s2 r1
  obtain ⟨ax, ay, ad⟩ := ap_sz sq sp
  obtain ⟨bx, by', bd⟩ := ap_sz sr sp
  refine ⟨_, _, rfl, r1, _, _, rfl, r2, _, _, rfl, rfl, mulB ax by', _, _, rfl, r1, _, _, rfl, r2, _, _, rfl, rfl, mulB ay bx, _, _, rfl, rfl, ?_⟩
  refine ⟨_, rfl, _, _, rfl, rfl, _, rfl, _, _, rfl, rfl, _, _, rfl, rfl, ?_⟩
  refine k _ _ (s1.trans s2) ?_
  show V.int _ = V.int _
  rw [← turn_ap sp.2 sq.2 sr.2]
  rfl
theorem sc_first : FnScope ["p", "q"] ["p", "q"] (defScope (topS 21)) := ⟨rfl, rfl, rfl, by decide +kernel, rfl, by decide +kernel, by decide +kernel⟩
theorem lex_lt (p q : Pt) : HT.lexLt [p.x * q.d, p.y * q.d] [q.x * p.d, q.y * p.d] = decide (Pz.Lt p q) := by
  simp only [HT.lexLt]
  by_cases h1 : p.x * q.d = q.x * p.d
  · rw [if_pos h1]
    by_cases h2 : p.y * q.d = q.y * p.d
    · rw [if_pos h2]
      refine (decide_eq_false fun k => ?_).symm
      unfold Pz.Lt Pz.dX Pz.dY at k; omega
    · rw [if_neg h2]
      refine decide_eq_decide.mpr ?_
      unfold Pz.Lt Pz.dX Pz.dY; omega
  · rw [if_neg h1]
    refine decide_eq_decide.mpr ?_
    unfold Pz.Lt Pz.dX Pz.dY; omega
def sp_first : Sp := sp2 rP rP (fun p q => Sm p ∧ Sm q) rB fun p q => decide (Pz.Lt p q)
theorem ok_first (T : Tx K mg) : Has P w K mg base "comes_first" 1 sp_first := by
  refine has_of T.comes_first sc_first (fun _ _ _ _ _ _ us hl => match us, hl with | [_, _], _ => rfl) sp2_len fun f cdv A outer s H vs Q E hr h => ?_
  obtain ⟨v1, v2, p, q, rfl, hp, hq, ⟨⟨⟨px, py, pd⟩, p0⟩, ⟨qx, qy, qd⟩, q0⟩, k⟩ := h
  refine ⟨_, pss_one (ps_ret (pe_cmpR (op_ltT hr.units0) (pe_tup (pa_cons (pe_op op_mulW (pX 0) (pD 1)) (pa_cons (pe_op op_mulW (pY 0) (pD 1)) pa_nil)))
    (pe_tup (pa_cons (pe_op op_mulW (pX 1) (pD 0)) (pa_cons (pe_op op_mulW (pY 1) (pD 0)) pa_nil))) (nomark _))), ?_⟩
  refine ⟨_, _, rfl, hp, _, _, rfl, hq, _, _, rfl, rfl, mulS px qd, _, _, rfl, hp, _, _, rfl, hq, _, _, rfl, rfl, mulS py qd, by show 2 ≤ sizeLine; decide, fun a ha => ?_⟩
  have s1 : L2.Same H _ := same_new (o := .tup [.int (p.x * q.d), .int (p.y * q.d)]) ha
  have hp := mP _ _ _ _ s1 hp
  have hq := mP _ _ _ _ s1 hq
  refine ⟨_, _, rfl, hq, _, _, rfl, hp, _, _, rfl, rfl, mulS qx pd, _, _, rfl, hq, _, _, rfl, hp, _, _, rfl, rfl, mulS qy pd, by show 2 ≤ sizeLine; decide, fun b hb => ?_⟩
  refine ⟨a, b, [p.x * q.d, p.y * q.d], [q.x * p.d, q.y * p.d], rfl, rfl, SqT.of ((same_new hb) _ _ upd_same), SqT.of upd_same, ?_⟩
  rw [lex_lt]
  exact k _ _ (same_new' s1 hb) rfl
end
end Wk

set_option Elab.async false
set_option linter.all false
set_option maxRecDepth 100000
/-! W4: directions, half planes. -/
namespace Wk
open PySem L2 PySem.Spec PyProof.Rows
open Pz (Pt Ln)
section
variable {P : Program} {w : World} {K : PySem.W.Frag} {mg : Str → Option Value} {base : Heap}
theorem neg_ab {a : Int} {n : Nat} (h : a.natAbs ≤ n) : (-a).natAbs ≤ n := by rw [Int.natAbs_neg]; exact h
theorem sc_back : FnScope ["u"] ["u"] (defScope (topS 27)) := ⟨rfl, rfl, rfl, by decide +kernel, rfl, by decide +kernel, by decide +kernel⟩
def sp_back : Sp := sp1 rU (fun _ => True) rU Pz.backM
theorem ok_back (T : Tx K mg) : Has P w K mg base "back" 1 sp_back := by
  refine has_of T.back sc_back (fun _ _ _ _ _ _ us hl => match us, hl with | [_], _ => rfl) sp1_len fun f cdv A outer s H vs Q E hr h => ?_
  obtain ⟨v, u, rfl, hu, _, k⟩ := h
  refine ⟨_, pss_one (ps_ret (pe_tup (pa_cons (pe_un un_neg (pU0 0)) (pa_cons (pe_un un_neg (pU1 0)) pa_nil)))), ?_⟩
  refine ⟨_, _, rfl, hu, _, rfl, _, _, rfl, hu, _, rfl, by show 2 ≤ sizeLine; decide, fun p hp => ?_⟩
  exact k _ _ (same_new hp) ⟨p, rfl, upd_same⟩
theorem sc_quarter : FnScope ["u"] ["u"] (defScope (topS 28)) := ⟨rfl, rfl, rfl, by decide +kernel, rfl, by decide +kernel, by decide +kernel⟩
def sp_quarter : Sp := sp1 rU (fun _ => True) rU Pz.quartM
theorem ok_quarter (T : Tx K mg) : Has P w K mg base "quarter" 1 sp_quarter := by
  refine has_of T.quarter sc_quarter (fun _ _ _ _ _ _ us hl => match us, hl with | [_], _ => rfl) sp1_len fun f cdv A outer s H vs Q E hr h => ?_
  obtain ⟨v, u, rfl, hu, _, k⟩ := h
  refine ⟨_, pss_one (ps_ret (pe_tup (pa_cons (pe_un un_neg (pU1 0)) (pa_cons (pU0 0) pa_nil)))), ?_⟩
  refine ⟨_, _, rfl, hu, _, rfl, _, _, rfl, hu, by show 2 ≤ sizeLine; decide, fun p hp => ?_⟩
  exact k _ _ (same_new hp) ⟨p, rfl, upd_same⟩
theorem sc_fraction : FnScope ["p", "q", "divisor"] ["p", "q"] (defScope (topS 14)) := ⟨rfl, rfl, rfl, by decide +kernel, rfl, by decide +kernel, by decide +kernel⟩
def sp_fraction : Sp := sp2 rI rI (fun _ q => 0 < q ∧ q.natAbs < BIG) rU Pz.frM
theorem ok_fraction (T : Tx K mg) : Has P w K mg base "fraction" 1 sp_fraction := by
  refine has_of T.fraction sc_fraction (fun _ _ _ _ _ _ us hl => match us, hl with | [_, _], _ => rfl) sp2_len fun f cdv A outer s H vs Q E hr h => ?_
  obtain ⟨v1, v2, p, q, rfl, rfl, rfl, ⟨q0, qb⟩, k⟩ := h
  refine ⟨_, pss_cons (ps_set (i := 2) sc_fraction.nd rfl (Or.inl rfl) (pe_ifExp (pt_cmpR op_gt (pv 1) pe_int (nomark _))
      (pe_callBfun cr_gcd (by rfl) T.gcd (pa_cons (pv 0) (pa_cons (pv 1) pa_nil))) (pe_un un_neg (pe_callBfun cr_gcd (by rfl) T.gcd (pa_cons (pv 0) (pa_cons (pv 1) pa_nil))))))
    (pss_one (ps_ret (pe_tup (pa_cons (pe_op op_fdivZ (pv 0) (pv 2)) (pa_cons (pe_op op_fdivZ (pv 1) (pv 2)) pa_nil))))), ?_⟩
  refine ⟨_, rfl, _, _, rfl, rfl, _, rfl, ?_⟩
  refine ite2 (fun e => ?_) (fun e => absurd (decide_eq_true q0) e)
  have g0 : Int.gcd p q ≠ 0 := fun z => by have := (Int.gcd_eq_zero_iff.mp z).2; omega
  have gl : Int.gcd p q ≤ q.natAbs := gcd_le (by omega)
  have g1 : ((Int.gcd p q : Nat) : Int) ≠ 0 ∧ ((Int.gcd p q : Nat) : Int).natAbs.log2 < 9000 := ⟨by omega, big_log (by rw [Int.natAbs_natCast]; omega)⟩
  refine ⟨_, rfl, _, rfl, p, q, rfl, _, rfl, _, rfl, _, _, rfl, rfl, g1, _, rfl, _, rfl, _, _, rfl, rfl, g1, by show 2 ≤ sizeLine; decide, fun a ha => ?_⟩
  refine k _ _ (same_new ha) ⟨a, rfl, ?_⟩
  have e1 : p.fdiv (Int.gcd p q : Int) = (Pz.frM p q).1 := by rw [fdiv_of (Int.gcd_dvd_left ..)]; simp only [Pz.frM, if_pos q0]
  have e2 : q.fdiv (Int.gcd p q : Int) = (Pz.frM p q).2 := by rw [fdiv_of (Int.gcd_dvd_right ..)]; simp only [Pz.frM, if_pos q0]
  rw [← e1, ← e2]
  exact upd_same
theorem sc_direction : FnScope ["a", "b", "divisor"] ["a", "b"] (defScope (topS 26)) := ⟨rfl, rfl, rfl, by decide +kernel, rfl, by decide +kernel, by decide +kernel⟩
def sp_direction : Sp := sp2 rI rI (fun a b => (a ≠ 0 ∨ b ≠ 0) ∧ a.natAbs < BIG ∧ b.natAbs < BIG) rU Pz.dirM
theorem gcd_big {a b : Int} (h : a ≠ 0 ∨ b ≠ 0) (ha : a.natAbs < BIG) (hb : b.natAbs < BIG) : ((Int.gcd a b : Nat) : Int) ≠ 0 ∧ ((Int.gcd a b : Nat) : Int).natAbs.log2 < 9000 := by
  have g0 : Int.gcd a b ≠ 0 := fun z => by have := Int.gcd_eq_zero_iff.mp z; omega
  refine ⟨by omega, big_log ?_⟩
  rw [Int.natAbs_natCast]
  rcases h with h | h
  · have := gcd_le' (d := b) h; omega
  · have := gcd_le (a := a) h; omega
theorem ok_direction (T : Tx K mg) : Has P w K mg base "direction" 2 sp_direction := by
  have G1 : Has P w K mg base "is_number" 1 sp_is_number := ok_is_number T
  refine has_of T.direction sc_direction (fun _ _ _ _ _ _ us hl => match us, hl with | [_, _], _ => rfl) sp2_len fun f cdv A outer s H vs Q E hr h => ?_
  obtain ⟨v1, v2, a, b, rfl, rfl, rfl, ⟨nz, ab, bb⟩, k⟩ := h
  refine ⟨_, pss_cons (ps_if (PW.pt (pw_or (pt_not (pt_val (pe_has G1 hr (by rfl) (pa_cons (pv 0) pa_nil)))) (pw_or (pt_not (pt_val (pe_has G1 hr (by rfl) (pa_cons (pv 1) pa_nil))))
      (pw_or1 (pt_chain op_eq op_eq (pv 0) (pv 1) pe_int))))) pss_never pss_nil)
    (pss_cons (ps_set (i := 2) sc_direction.nd rfl (Or.inl rfl) (pe_callBfun cr_gcd (by rfl) T.gcd (pa_cons (pv 0) (pa_cons (pv 1) pa_nil))))
    (pss_one (ps_ret (pe_tup (pa_cons (pe_op op_fdivZ (pv 0) (pv 2)) (pa_cons (pe_op op_fdivZ (pv 1) (pv 2)) pa_nil)))))), ?_⟩
  have g1 := gcd_big nz ab bb
  have fin : ∀ H', L2.Same H H' → Q = Q → (tSeq (tAsg (tCB L2.rGcd (tCons (tVar 0) (tCons (tVar 1) tNil))) (gName 2)) (tRet (tTup (tCons (tOp (L2.rI (fun _ j => j ≠ 0 ∧ j.natAbs.log2 < 9000) fun i j => .int (i.fdiv j)) (tVar 0) (tVar 2)) (tCons (tOp (L2.rI (fun _ j => j ≠ 0 ∧ j.natAbs.log2 < 9000) fun i j => .int (i.fdiv j)) (tVar 1) (tVar 2)) tNil))))
      { nx := fun _ H' => Q .non H', rt := Q } (start ["a", "b", "divisor"] [.int a, .int b]) H') := fun H' s1 _ => by
    refine ⟨_, rfl, _, rfl, a, b, rfl, _, rfl, _, rfl, _, _, rfl, rfl, g1, _, rfl, _, rfl, _, _, rfl, rfl, g1, by show 2 ≤ sizeLine; decide, fun p hp => ?_⟩
    refine k _ _ (same_new' s1 hp) ⟨p, rfl, ?_⟩
    have e1 : a.fdiv (Int.gcd a b : Int) = (Pz.dirM a b).1 := fdiv_of (Int.gcd_dvd_left ..)
    have e2 : b.fdiv (Int.gcd a b : Int) = (Pz.dirM a b).2 := fdiv_of (Int.gcd_dvd_right ..)
    rw [← e1, ← e2]
    exact upd_same
  refine ⟨_, rfl, _, _, rfl, rfl, trivial, fun u1 H1 s1 r1 => ⟨true, r1, ?_⟩⟩
  refine ⟨_, rfl, _, _, rfl, rfl, trivial, fun u2 H2 s2 r2 => ⟨true, r2, ?_⟩⟩
  refine ⟨_, rfl, _, rfl, rfl, _, rfl, ?_⟩
  refine ite2 (fun e => ?_) (fun e => ⟨false, rfl, fin _ (s1.trans s2) rfl⟩)
  refine ⟨rfl, _, rfl, ?_⟩
  refine ite2 (fun e' => ?_) (fun e' => fin _ (s1.trans s2) rfl)
  exfalso
  have e := of_decide_eq_true e
  have e' := of_decide_eq_true e'
  injection e with e
  injection e' with e'
  omega
end
end Wk

set_option Elab.async false
set_option linter.all false
set_option maxRecDepth 100000
/-! W5: towards, half planes, met_at, led_place. -/
namespace Wk
open PySem L2 PySem.Spec PyProof.Rows
open Pz (Pt Ln)
section
variable {P : Program} {w : World} {K : PySem.W.Frag} {mg : Str → Option Value} {base : Heap}
theorem sc_towards : FnScope ["p", "q", "way"] ["p", "q"] (defScope (topS 29)) := ⟨rfl, rfl, rfl, by decide +kernel, rfl, by decide +kernel, by decide +kernel⟩
def sp_towards : Sp := sp2 rP rP (fun p q => Sm p ∧ Sm q ∧ (Pz.dX p q ≠ 0 ∨ Pz.dY p q ≠ 0)) rU Pz.towM
theorem ok_towards (T : Tx K mg) : Has P w K mg base "towards" 4 sp_towards := by
  have G1 : Has P w K mg base "apart" 3 sp_apart := ok_apart T
  have G2 : Has P w K mg base "direction" 2 sp_direction := ok_direction T
  refine has_of T.towards sc_towards (fun _ _ _ _ _ _ us hl => match us, hl with | [_, _], _ => rfl) sp2_len fun f cdv A outer s H vs Q E hr h => ?_
  obtain ⟨v1, v2, p, q, rfl, hp, hq, ⟨sp, sq, nz⟩, k⟩ := h
  refine ⟨_, pss_cons (ps_set (i := 2) sc_towards.nd rfl (Or.inl rfl) (pe_has G1 hr (by rfl) (pa_cons (pv 1) (pa_cons (pv 0) pa_nil))))
    (pss_one (ps_ret (pe_has G2 (hr.mono (by decide)) (by rfl) (pa_cons (pX 2) (pa_cons (pY 2) pa_nil))))), ?_⟩
  refine ⟨_, rfl, _, rfl, _, _, _, _, rfl, hq, hp, ⟨sq, sp⟩, fun u1 H1 s1 r1 => ?_⟩
  obtain ⟨ax, ay, ad⟩ := ap_sz sq sp
  have wn : (apM q p).x ≠ 0 ∨ (apM q p).y ≠ 0 := by
    obtain ⟨g, _, _, ex, ey, _, _⟩ := Pz.canon_spec (x := q.x * p.d - p.x * q.d) (y := q.y * p.d - p.y * q.d) (d := q.d * p.d) (by have := Int.mul_pos sq.2 sp.2; omega)
    have e1 : Pz.canon (q.x * p.d - p.x * q.d) (q.y * p.d - p.y * q.d) (q.d * p.d) = apM q p := rfl
    rw [e1] at ex ey
    rcases nz with n | n
    · left; intro z; rw [z] at ex; exact n (by simp only [Pz.dX]; omega)
    · right; intro z; rw [z] at ey; exact n (by simp only [Pz.dY]; omega)
  refine ⟨_, _, rfl, r1, _, _, rfl, r1, _, _, _, _, rfl, rfl, rfl, ⟨wn, Nat.lt_of_le_of_lt ax lim2_big, Nat.lt_of_le_of_lt ay lim2_big⟩, fun u2 H2 s2 r2 => ?_⟩
  exact k _ _ (s1.trans s2) r2
theorem sc_half : FnScope ["a", "b", "c", "divisor", "one"] ["a", "b", "c"] (defScope (topS 31)) := ⟨rfl, rfl, rfl, by decide +kernel, rfl, by decide +kernel, by decide +kernel⟩
def sp_half : Sp := sp3 rI rI rI (fun a b _ => (a ≠ 0 ∨ b ≠ 0) ∧ a.natAbs < BIG ∧ b.natAbs < BIG) rH Pz.halfM
theorem half_div {a b c : Int} (h : a ≠ 0 ∨ b ≠ 0) (ha : a.natAbs < BIG) (hb : b.natAbs < BIG) :
    (((Int.gcd (Int.gcd a b) c : Nat) : Int) ≠ 0 ∧ ((Int.gcd (Int.gcd a b) c : Nat) : Int).natAbs.log2 < 9000) ∧ a.fdiv (Int.gcd (Int.gcd a b) c : Int) = (Pz.halfM a b c).a ∧ b.fdiv (Int.gcd (Int.gcd a b) c : Int) = (Pz.halfM a b c).b ∧ c.fdiv (Int.gcd (Int.gcd a b) c : Int) = (Pz.halfM a b c).c := by
  have g0 : Int.gcd a b ≠ 0 := fun z => by have := Int.gcd_eq_zero_iff.mp z; omega
  have g1 : Int.gcd (Int.gcd a b) c ≠ 0 := fun z => by have := (Int.gcd_eq_zero_iff.mp z).1; omega
  have gl : Int.gcd (Int.gcd a b) c ≤ Int.gcd a b := by
    have := gcd_le' (a := (Int.gcd a b : Int)) (d := c) (by omega)
    rwa [Int.natAbs_natCast] at this
  have d1 : (Int.gcd (Int.gcd a b) c : Int) ∣ (Int.gcd a b : Int) := Int.gcd_dvd_left ..
  refine ⟨⟨by omega, big_log ?_⟩, fdiv_of (Int.dvd_trans d1 (Int.gcd_dvd_left ..)), fdiv_of (Int.dvd_trans d1 (Int.gcd_dvd_right ..)), fdiv_of (Int.gcd_dvd_right ..)⟩
  rw [Int.natAbs_natCast]
  rcases h with h | h
  · have := gcd_le' (d := b) h; omega
  · have := gcd_le (a := a) h; omega
theorem ok_half (T : Tx K mg) : Has P w K mg base "half" 2 sp_half := by
  have G1 : Has P w K mg base "is_number" 1 sp_is_number := ok_is_number T
  refine has_of T.half sc_half (fun _ _ _ _ _ _ us hl => match us, hl with | [_, _, _], _ => rfl) sp3_len fun f cdv A outer s H vs Q E hr h => ?_
  obtain ⟨v1, v2, v3, x, y, d, rfl, rfl, rfl, rfl, ⟨nz, ab, bb⟩, k⟩ := h
  obtain ⟨g1, g2, g3, g4⟩ := half_div (c := d) nz ab bb
  have fin : ∀ H', L2.Same H H' → (tSeq (tAsg (tCB rGcd3 (tCons (tVar 0) (tCons (tVar 1) (tCons (tVar 2) tNil)))) (gName 3)) (tRet (tTup (tCons (tOp (L2.rI (fun _ j => j ≠ 0 ∧ j.natAbs.log2 < 9000) fun i j => .int (i.fdiv j)) (tVar 0) (tVar 3)) (tCons (tOp (L2.rI (fun _ j => j ≠ 0 ∧ j.natAbs.log2 < 9000) fun i j => .int (i.fdiv j)) (tVar 1) (tVar 3)) (tCons (tOp (L2.rI (fun _ j => j ≠ 0 ∧ j.natAbs.log2 < 9000) fun i j => .int (i.fdiv j)) (tVar 2) (tVar 3)) tNil)))))
      { nx := fun _ H' => Q .non H', rt := Q } (start ["a", "b", "c", "divisor", "one"] [.int x, .int y, .int d]) H') := fun H' s1 => by
    refine ⟨_, rfl, _, rfl, _, rfl, x, y, d, rfl, _, rfl, _, rfl, _, _, rfl, rfl, g1, _, rfl, _, rfl, _, _, rfl, rfl, g1, _, rfl, _, rfl, _, _, rfl, rfl, g1, by show 3 ≤ sizeLine; decide, fun p hp => ?_⟩
    exact k _ _ (same_new' s1 hp) ⟨p, rfl, by rw [← g2, ← g3, ← g4]; exact upd_same⟩
  refine ⟨_, pss_cons (ps_if (PW.pt (pw_or (pt_not (pt_val (pe_callB (cr_all rfl) (by rfl) T.n_all (by decide +kernel) (pa_cons
      (pe_lc (own := [("one", 4)]) (g := gName 4) (by rfl) sc_half.nd (pi_tup (pe_tup (pa_cons (pv 0) (pa_cons (pv 1) (pa_cons (pv 2) pa_nil)))))
        (blkOk_by (own := [("one", 4)]) (N := ["a", "b", "c", "divisor", "one"]) (sc := defScope (topS 31)) (by decide +kernel))
        (fun _ _ _ _ _ => pg_name (i := 4) sc_half.nd rfl (Or.inl rfl)) (fun _ _ _ _ _ => pts_nil) (fun _ _ _ _ _ => pe_has G1 hr (by rfl) (pa_cons (pv 4) pa_nil))) pa_nil)))) (pw_or1 (pt_chain op_eq op_eq (pv 0) (pv 1) pe_int))))
      pss_never pss_nil)
    (pss_cons (ps_set (i := 3) sc_half.nd rfl (Or.inl rfl) (pe_callBfun cr_gcd3 (by rfl) T.gcd (pa_cons (pv 0) (pa_cons (pv 1) (pa_cons (pv 2) pa_nil)))))
    (pss_one (ps_ret (pe_tup (pa_cons (pe_op op_fdivZ (pv 0) (pv 3)) (pa_cons (pe_op op_fdivZ (pv 1) (pv 3)) (pa_cons (pe_op op_fdivZ (pv 2) (pv 3)) pa_nil))))))), ?_⟩
  refine ⟨_, rfl, _, rfl, _, rfl, by show 3 ≤ sizeLine; decide, fun t ht => ?_⟩
  refine ⟨t, rfl, ⟨_, SqT.of upd_same⟩, fun D hD => ?_⟩
  have sm : L2.Same H (upd H t (.tup [.int x, .int y, .int d])) := same_new ht
  refine lcT (r := rI) (q := rB) (xs := [x, y, d]) (f := fun _ => some true) mI tB (SqT.of upd_same) (.cons rfl (.cons rfl (.cons rfl .nil))) hD (by show 3 ≤ sizeLine; decide) ?_ ?_
  · intro v z H2 C C0 m s2 e c1 c0
    exact ⟨rfl, _, rfl, v, z, rfl, e, trivial, fun u H3 s3 ru => c1 _ _ true s3 rfl ru⟩
  · intro H2 ys s2 hy py
    have ey : ys = [true, true, true].map V.bl := by
      have : ([x, y, d].filterMap fun _ => some true) = [true, true, true] := rfl
      rw [this] at py
      cases py with
      | cons a p => cases p with
        | cons b p => cases p with
          | cons c p => cases p; rw [a, b, c]; rfl
    subst ey
    have s02 : L2.Same H H2 := sm.trans s2
    refine ⟨D, [true, true, true], rfl, SqL.of hy, true, rfl, _, rfl, _, rfl, rfl, _, rfl, ?_⟩
    refine ite2 (fun e => ?_) (fun e => ⟨false, rfl, fin _ s02⟩)
    refine ⟨rfl, _, rfl, ?_⟩
    refine ite2 (fun e' => ?_) (fun e' => fin _ s02)
    exfalso
    have e := of_decide_eq_true e
    have e' := of_decide_eq_true e'
    injection e with e
    injection e' with e'
    omega
theorem sc_depth : FnScope ["half_plane", "p", "a", "b", "c"] ["half_plane", "p"] (defScope (topS 32)) := ⟨rfl, rfl, rfl, by decide +kernel, rfl, by decide +kernel, by decide +kernel⟩
def sp_depth : Sp := sp2 rH rP (fun h p => Pz.SzL LIM h ∧ Sm p) rI fun h p => Pz.ev (Pz.dep h) p
theorem ok_depth (T : Tx K mg) : Has P w K mg base "depth" 1 sp_depth := by
  refine has_of T.depth sc_depth (fun _ _ _ _ _ _ us hl => match us, hl with | [_, _], _ => rfl) sp2_len fun f cdv A outer s H vs Q E hr h => ?_
  obtain ⟨v1, v2, h, p, rfl, ⟨a, rfl, ha⟩, hp, ⟨⟨sa, sb, sc⟩, ⟨px, py, pd⟩, p0⟩, k⟩ := h
  refine ⟨_, pss_cons (ps_asg (pv 0) (pg_tup (by rfl) (pgs_cons (pg_name (i := 2) sc_depth.nd rfl (Or.inl rfl)) (pgs_cons (pg_name (i := 3) sc_depth.nd rfl (Or.inl rfl)) (pgs_cons (pg_name (i := 4) sc_depth.nd rfl (Or.inl rfl)) pgs_nil)))))
    (pss_one (ps_ret (pe_op op_sub (pe_op op_add (pe_op op_mulW (pv 2) (pX 1)) (pe_op op_mulW (pv 3) (pY 1))) (pe_op op_mulW (pv 4) (pD 1))))), ?_⟩
  refine ⟨_, rfl, a, _, rfl, SqT.of ha, rfl, _, _, rfl, _, _, rfl, _, _, rfl, rfl, ?_⟩
  refine ⟨_, rfl, _, _, rfl, hp, _, _, rfl, rfl, mulS sa px, _, rfl, _, _, rfl, hp, _, _, rfl, rfl, mulS sb py, _, _, rfl, rfl, _, rfl, _, _, rfl, hp, _, _, rfl, rfl, mulS sc pd, _, _, rfl, rfl, ?_⟩
  refine k _ _ (.refl _) ?_
  show V.int _ = V.int _
  congr 1
  simp only [Pz.ev, Pz.dep]
  rw [Int.neg_mul]
  omega
theorem sc_facing : FnScope ["half_plane", "a", "b", "c"] ["half_plane"] (defScope (topS 33)) := ⟨rfl, rfl, rfl, by decide +kernel, rfl, by decide +kernel, by decide +kernel⟩
def sp_facing : Sp := sp1 rH (fun _ => True) rH Pz.faceM
theorem ok_facing (T : Tx K mg) : Has P w K mg base "facing" 1 sp_facing := by
  refine has_of T.facing sc_facing (fun _ _ _ _ _ _ us hl => match us, hl with | [_], _ => rfl) sp1_len fun f cdv A outer s H vs Q E hr h => ?_
  obtain ⟨v1, h, rfl, ⟨a, rfl, ha⟩, _, k⟩ := h
  refine ⟨_, pss_cons (ps_asg (pv 0) (pg_tup (by rfl) (pgs_cons (pg_name (i := 1) sc_facing.nd rfl (Or.inl rfl)) (pgs_cons (pg_name (i := 2) sc_facing.nd rfl (Or.inl rfl)) (pgs_cons (pg_name (i := 3) sc_facing.nd rfl (Or.inl rfl)) pgs_nil)))))
    (pss_one (ps_ret (pe_tup (pa_cons (pe_un un_neg (pv 1)) (pa_cons (pe_un un_neg (pv 2)) (pa_cons (pe_un un_neg (pv 3)) pa_nil)))))), ?_⟩
  refine ⟨_, rfl, a, _, rfl, SqT.of ha, rfl, _, _, rfl, _, _, rfl, _, _, rfl, rfl, ?_⟩
  refine ⟨_, rfl, _, rfl, _, rfl, _, rfl, _, rfl, _, rfl, by show 3 ≤ sizeLine; decide, fun p hp => ?_⟩
  exact k _ _ (same_new hp) ⟨p, rfl, upd_same⟩
theorem sc_height : FnScope ["u", "p"] ["u", "p"] (defScope (topS 34)) := ⟨rfl, rfl, rfl, by decide +kernel, rfl, by decide +kernel, by decide +kernel⟩
def SmU (u : Int × Int) : Prop := u.1.natAbs ≤ LIM ∧ u.2.natAbs ≤ LIM
def sp_height : Sp := sp2 rU rP (fun u p => SmU u ∧ Sm p) rU Pz.hgtM
theorem ok_height (T : Tx K mg) : Has P w K mg base "height" 2 sp_height := by
  have G1 : Has P w K mg base "fraction" 1 sp_fraction := ok_fraction T
  refine has_of T.height sc_height (fun _ _ _ _ _ _ us hl => match us, hl with | [_, _], _ => rfl) sp2_len fun f cdv A outer s H vs Q E hr h => ?_
  obtain ⟨v1, v2, u, p, rfl, hu, hp, ⟨⟨ua, ub⟩, ⟨px, py, pd⟩, p0⟩, k⟩ := h
  refine ⟨_, pss_one (ps_ret (pe_has G1 hr (by rfl) (pa_cons (pe_op op_add (pe_op op_mulW (pU0 0) (pX 1)) (pe_op op_mulW (pU1 0) (pY 1))) (pa_cons (pD 1) pa_nil)))), ?_⟩
  refine ⟨_, _, rfl, hu, _, _, rfl, hp, _, _, rfl, rfl, mulS ua px, _, _, rfl, hu, _, _, rfl, hp, _, _, rfl, rfl, mulS ub py, _, _, rfl, rfl, _, _, rfl, hp, ?_⟩
  exact ⟨_, _, _, _, rfl, rfl, rfl, ⟨p0, Nat.lt_of_le_of_lt pd lim_big⟩, k⟩
theorem sc_half_from : FnScope ["u", "h"] ["u", "h"] (defScope (topS 35)) := ⟨rfl, rfl, rfl, by decide +kernel, rfl, by decide +kernel, by decide +kernel⟩
def hfM (u h : Int × Int) : Ln := Pz.halfM (u.1 * h.2) (u.2 * h.2) h.1
def sp_half_from : Sp := sp2 rU rU (fun u h => SmU u ∧ h.2.natAbs ≤ LIM ∧ h.2 ≠ 0 ∧ (u.1 ≠ 0 ∨ u.2 ≠ 0)) rH hfM
theorem ok_half_from (T : Tx K mg) : Has P w K mg base "half_from" 3 sp_half_from := by
  have G1 : Has P w K mg base "half" 2 sp_half := ok_half T
  refine has_of T.half_from sc_half_from (fun _ _ _ _ _ _ us hl => match us, hl with | [_, _], _ => rfl) sp2_len fun f cdv A outer s H vs Q E hr h => ?_
  obtain ⟨v1, v2, u, g, rfl, hu, hg, ⟨⟨ua, ub⟩, gl, g0, nz⟩, k⟩ := h
  refine ⟨_, pss_one (ps_ret (pe_has G1 hr (by rfl) (pa_cons (pe_op op_mulW (pU0 0) (pU1 1)) (pa_cons (pe_op op_mulW (pU1 0) (pU1 1)) (pa_cons (pU0 1) pa_nil))))), ?_⟩
  refine ⟨_, _, rfl, hu, _, _, rfl, hg, _, _, rfl, rfl, mulS ua gl, _, _, rfl, hu, _, _, rfl, hg, _, _, rfl, rfl, mulS ub gl, _, _, rfl, hg, ?_⟩
  have bb : LIM * LIM < BIG := Nat.lt_of_le_of_lt (Nat.le_add_left ..) lim2_big
  refine ⟨_, _, _, _, _, _, rfl, rfl, rfl, rfl, ⟨?_, Nat.lt_of_le_of_lt (lim_mul ua gl) bb, Nat.lt_of_le_of_lt (lim_mul ub gl) bb⟩, k⟩
  rcases nz with n | n
  · left; exact Int.mul_ne_zero n g0
  · right; exact Int.mul_ne_zero n g0
theorem sc_half_at : FnScope ["u", "p"] ["u", "p"] (defScope (topS 36)) := ⟨rfl, rfl, rfl, by decide +kernel, rfl, by decide +kernel, by decide +kernel⟩
def sp_half_at : Sp := sp2 rU rP (fun u p => SmU u ∧ Sm p ∧ (u.1 ≠ 0 ∨ u.2 ≠ 0)) rH Pz.hatM
theorem ok_half_at (T : Tx K mg) : Has P w K mg base "half_at" 4 sp_half_at := by
  have G1 : Has P w K mg base "height" 2 sp_height := ok_height T
  have G2 : Has P w K mg base "half_from" 3 sp_half_from := ok_half_from T
  refine has_of T.half_at sc_half_at (fun _ _ _ _ _ _ us hl => match us, hl with | [_, _], _ => rfl) sp2_len fun f cdv A outer s H vs Q E hr h => ?_
  obtain ⟨v1, v2, u, p, rfl, hu, hp, ⟨su, sp, nz⟩, k⟩ := h
  refine ⟨_, pss_one (ps_ret (pe_has G2 hr (by rfl) (pa_cons (pv 0) (pa_cons (pe_has G1 (hr.mono (by decide)) (by rfl) (pa_cons (pv 0) (pa_cons (pv 1) pa_nil))) pa_nil)))), ?_⟩
  refine ⟨_, rfl, _, rfl, _, rfl, _, _, _, _, rfl, hu, hp, ⟨su, sp⟩, fun u1 H1 s1 r1 => ?_⟩
  have g2 : (Pz.hgtM u p).2.natAbs ≤ LIM := (Pz.fr_sz (p := u.1 * p.x + u.2 * p.y) (m := (u.1 * p.x + u.2 * p.y).natAbs) (Nat.le_refl _) sp.1.2.2).2
  have g0 : (Pz.hgtM u p).2 ≠ 0 := by
    obtain ⟨g, _, _, _, h0⟩ := Pz.fr_spec (p := u.1 * p.x + u.2 * p.y) sp.2
    have : 0 < (Pz.hgtM u p).2 := h0
    omega
  exact ⟨_, _, _, _, rfl, mU _ _ _ _ s1 hu, r1, ⟨su, g2, g0, nz⟩, fun u2 H2 s2 r2 => k _ _ (s1.trans s2) r2⟩
theorem sc_met_at : FnScope ["p", "q", "one", "other"] ["p", "q", "one", "other"] (defScope (topS 45)) := ⟨rfl, rfl, rfl, by decide +kernel, rfl, by decide +kernel, by decide +kernel⟩
def DEP : Nat := 3 * (LIM * LIM)
theorem dep_big : DEP < BIG := by decide +kernel
theorem dep3_big : DEP * LIM + DEP * LIM < BIG := by decide +kernel
theorem mulD {a b : Int} (ha : a.natAbs ≤ LIM) (hb : b.natAbs ≤ DEP) : CMulW a b := big_mul (Nat.lt_of_le_of_lt ha lim_big) (Nat.lt_of_le_of_lt hb dep_big)
theorem mulD' {a b : Int} (ha : a.natAbs ≤ DEP) (hb : b.natAbs ≤ LIM) : CMulW a b := big_mul (Nat.lt_of_le_of_lt ha dep_big) (Nat.lt_of_le_of_lt hb lim_big)
def sp_met_at : Sp := fun vs H Q _ => ∃ v1 v2 p q s t, vs = [v1, v2, .int s, .int t] ∧ rP H v1 p ∧ rP H v2 q ∧ Sm p ∧ Sm q ∧ s.natAbs ≤ DEP ∧ t.natAbs ≤ DEP ∧ s * t < 0 ∧ ∀ u H', L2.Same H H' → rP H' u (Pz.cross p q s t) → Q u H'
theorem cross_d {p q : Pt} {s t : Int} (hp : 0 < p.d) (hq : 0 < q.d) (h : s * t < 0) : s * q.d - t * p.d ≠ 0 := by
  rcases Int.lt_or_le 0 s with k | k
  · have ht : t < 0 := by
      rcases Int.lt_or_le t 0 with z | z
      · exact z
      · have := Int.mul_nonneg (Int.le_of_lt k) z; omega
    have := Int.mul_pos k hq
    have : 0 < (-t) * p.d := Int.mul_pos (by omega) hp
    rw [Int.neg_mul] at this
    omega
  · have ht : 0 < t := by
      rcases Int.lt_or_le 0 t with z | z
      · exact z
      · have := Int.mul_nonneg_of_nonpos_of_nonpos k z; omega
    have := Int.mul_pos ht hp
    have : s * q.d ≤ 0 := Int.mul_nonpos_of_nonpos_of_nonneg k (Int.le_of_lt hq)
    omega
theorem ok_met_at (T : Tx K mg) : Has P w K mg base "met_at" 3 sp_met_at := by
  have G1 : Has P w K mg base "place" 2 sp_place := ok_place T
  refine has_of T.met_at sc_met_at (fun _ _ _ _ _ _ us hl => match us, hl with | [_, _, _, _], _ => rfl) (fun _ _ _ _ ⟨_, _, _, _, _, _, e, _⟩ => by rw [e]; rfl) fun f cdv A outer s H vs Q E hr h => ?_
  obtain ⟨v1, v2, p, q, s, t, rfl, hp, hq, ⟨⟨px, py, pd⟩, p0⟩, ⟨⟨qx, qy, qd⟩, q0⟩, hs, ht, st, k⟩ := h
  refine ⟨_, pss_one (ps_ret (pe_has G1 hr (by rfl)
    (pa_cons (pe_op op_sub (pe_op op_mulW (pX 1) (pv 2)) (pe_op op_mulW (pX 0) (pv 3)))
    (pa_cons (pe_op op_sub (pe_op op_mulW (pY 1) (pv 2)) (pe_op op_mulW (pY 0) (pv 3)))
    (pa_cons (pe_op op_sub (pe_op op_mulW (pv 2) (pD 1)) (pe_op op_mulW (pv 3) (pD 0))) pa_nil))))), ?_⟩
  refine ⟨_, _, rfl, hq, _, rfl, _, _, rfl, rfl, mulD qx hs, _, _, rfl, hp, _, rfl, _, _, rfl, rfl, mulD px ht, _, _, rfl, rfl, ?_⟩
  refine ⟨_, _, rfl, hq, _, rfl, _, _, rfl, rfl, mulD qy hs, _, _, rfl, hp, _, rfl, _, _, rfl, rfl, mulD py ht, _, _, rfl, rfl, ?_⟩
  refine ⟨_, rfl, _, _, rfl, hq, _, _, rfl, rfl, mulD' hs qd, _, rfl, _, _, rfl, hp, _, _, rfl, rfl, mulD' ht pd, _, _, rfl, rfl, ?_⟩
  exact ⟨_, _, _, _, _, _, rfl, rfl, rfl, rfl, ⟨cross_d p0 q0 st, Nat.lt_of_le_of_lt (Pz.abs_sub (Pz.abs_mul hs qd) (Pz.abs_mul ht pd)) dep3_big⟩, k⟩
/-- a map as a tuple of seven -/
def rM : Rl Pz.Mp := fun H v m => ∃ a, v = .ref a ∧ H a = some (.tup [.int m.a, .int m.b, .int m.c, .int m.d, .int m.e, .int m.f, .int m.n])
theorem tM : MonoT rM := fun _ _ _ _ s ⟨a, e, h⟩ => ⟨a, e, s _ _ h⟩
def SzM (m : Pz.Mp) : Prop := m.a.natAbs ≤ 10 ∧ m.b.natAbs ≤ 10 ∧ m.c.natAbs ≤ 10 ∧ m.d.natAbs ≤ 10 ∧ m.e.natAbs ≤ 10 ∧ m.f.natAbs ≤ 10 ∧ m.n.natAbs ≤ 10
theorem sc_led_place : FnScope ["p", "rule", "a", "b", "c", "d", "e", "f", "n"] ["p", "rule"] (defScope (topS 50)) := ⟨rfl, rfl, rfl, by decide +kernel, rfl, by decide +kernel, by decide +kernel⟩
def sp_led_place : Sp := sp2 rP rM (fun p m => Sm p ∧ SzM m ∧ 0 < m.n) rP fun p m => Pz.ledP m p
theorem mul10 {a b : Int} (ha : a.natAbs ≤ 10) (hb : b.natAbs ≤ LIM) : CMulW a b := big_mul (Nat.lt_of_le_of_lt ha (by decide +kernel)) (Nat.lt_of_le_of_lt hb lim_big)
theorem ok_led_place (T : Tx K mg) : Has P w K mg base "led_place" 3 sp_led_place := by
  have G1 : Has P w K mg base "place" 2 sp_place := ok_place T
  refine has_of T.led_place sc_led_place (fun _ _ _ _ _ _ us hl => match us, hl with | [_, _], _ => rfl) sp2_len fun f cdv A outer s H vs Q E hr h => ?_
  obtain ⟨v1, v2, p, m, rfl, hp, ⟨a, rfl, ha⟩, ⟨⟨⟨px, py, pd⟩, p0⟩, ⟨ma, mb, mc, md, me, mf, mn⟩, n0⟩, k⟩ := h
  refine ⟨_, pss_cons (ps_asg (pv 1) (pg_tup (by rfl) (pgs_cons (pg_name (i := 2) sc_led_place.nd rfl (Or.inl rfl)) (pgs_cons (pg_name (i := 3) sc_led_place.nd rfl (Or.inl rfl)) (pgs_cons (pg_name (i := 4) sc_led_place.nd rfl (Or.inl rfl)) (pgs_cons (pg_name (i := 5) sc_led_place.nd rfl (Or.inl rfl)) (pgs_cons (pg_name (i := 6) sc_led_place.nd rfl (Or.inl rfl)) (pgs_cons (pg_name (i := 7) sc_led_place.nd rfl (Or.inl rfl)) (pgs_cons (pg_name (i := 8) sc_led_place.nd rfl (Or.inl rfl)) pgs_nil)))))))))
    (pss_one (ps_ret (pe_has G1 hr (by rfl)
      (pa_cons (pe_op op_add (pe_op op_add (pe_op op_mulW (pv 2) (pX 0)) (pe_op op_mulW (pv 3) (pY 0))) (pe_op op_mulW (pv 6) (pD 0)))
      (pa_cons (pe_op op_add (pe_op op_add (pe_op op_mulW (pv 4) (pX 0)) (pe_op op_mulW (pv 5) (pY 0))) (pe_op op_mulW (pv 7) (pD 0)))
      (pa_cons (pe_op op_mulW (pv 8) (pD 0)) pa_nil)))))), ?_⟩
  refine ⟨_, rfl, a, _, rfl, SqT.of ha, rfl, _, _, rfl, _, _, rfl, _, _, rfl, _, _, rfl, _, _, rfl, _, _, rfl, _, _, rfl, rfl, ?_⟩
  refine ⟨_, rfl, _, _, rfl, hp, _, _, rfl, rfl, mul10 ma px, _, rfl, _, _, rfl, hp, _, _, rfl, rfl, mul10 mb py, _, _, rfl, rfl, _, rfl, _, _, rfl, hp, _, _, rfl, rfl, mul10 me pd, _, _, rfl, rfl, ?_⟩
  refine ⟨_, rfl, _, _, rfl, hp, _, _, rfl, rfl, mul10 mc px, _, rfl, _, _, rfl, hp, _, _, rfl, rfl, mul10 md py, _, _, rfl, rfl, _, rfl, _, _, rfl, hp, _, _, rfl, rfl, mul10 mf pd, _, _, rfl, rfl, ?_⟩
  refine ⟨_, rfl, _, _, rfl, hp, _, _, rfl, rfl, mul10 mn pd, ?_⟩
  have d0 : 0 < m.n * p.d := Int.mul_pos n0 p0
  exact ⟨_, _, _, _, _, _, rfl, rfl, rfl, rfl, ⟨by omega, Nat.lt_of_le_of_lt (Pz.abs_mul mn pd) (by decide +kernel)⟩, k⟩
end
end Wk

set_option Elab.async false
set_option linter.all false
set_option maxRecDepth 100000
/-! W6: chain. -/
namespace Wk
open PySem L2 PySem.Spec PyProof.Rows
open Pz (Pt Ln)
section
variable {P : Program} {w : World} {K : PySem.W.Frag} {mg : Str → Option Value} {base : Heap}
theorem atI_back {α : Type} (xs : List α) (u v : α) : atI (xs ++ [u, v]) (-2) = some u := by
  have hl : (xs ++ [u, v]).length = xs.length + 2 := by simp
  have e : ixN (xs ++ [u, v]).length (-2) = some xs.length := by
    unfold ixN
    rw [hl, if_neg (by decide), if_pos (by omega)]
    congr 1; omega
  unfold atI
  rw [e]
  simp
theorem atI_last2 {α : Type} (xs : List α) (u v : α) : atI (xs ++ [u, v]) (-1) = some v := by
  have := atI_last (xs ++ [u]) v
  simpa using this
theorem paired_snoc {α β : Type} {F : α → β → Prop} : ∀ {ys : List β} {xs : List α} {b : β}, Paired F xs (ys ++ [b]) → ∃ xs' a, xs = xs' ++ [a] ∧ Paired F xs' ys ∧ F a b
  | [], xs, b, h => by
    cases h with
    | cons r t => cases t; exact ⟨[], _, rfl, .nil, r⟩
  | y :: ys, xs, b, h => by
    cases h with
    | @cons a _ l _ r t =>
      obtain ⟨xs', a', e, p, q⟩ := paired_snoc (ys := ys) t
      exact ⟨a :: xs', a', by rw [e]; rfl, .cons r p, q⟩
/-- what chain hands back -/
def chainM (L : List Pt) : List Pt := (Pz.chainR L).reverse
theorem push_mem {p q : Pt} : ∀ {S : List Pt}, q ∈ Pz.push p S → q = p ∨ q ∈ S
  | [], h => by rw [Pz.push] at h; simpa using h
  | [b], h => by rw [Pz.push] at h; simpa using h
  | b :: a :: r, h => by
    rw [Pz.push] at h
    split at h
    · rcases push_mem (S := a :: r) h with e | e
      · exact .inl e
      · exact .inr (List.mem_cons_of_mem _ e)
    · simpa using h
termination_by S => S.length
theorem push_len {p : Pt} : ∀ {S : List Pt}, (Pz.push p S).length ≤ S.length + 1
  | [] => by rw [Pz.push]; simp
  | [b] => by rw [Pz.push]; simp
  | b :: a :: r => by
    rw [Pz.push]
    split
    · have := push_len (p := p) (S := a :: r); simp only [List.length_cons] at this ⊢; omega
    · simp
termination_by S => S.length
theorem chainR_snoc (L : List Pt) (p : Pt) : Pz.chainR (L ++ [p]) = Pz.push p (Pz.chainR L) := by unfold Pz.chainR; rw [List.foldl_append]; rfl
theorem chainR_mem {L : List Pt} {q : Pt} (h : q ∈ Pz.chainR L) : q ∈ L := by
  suffices k : ∀ (R S : List Pt), q ∈ R.foldl (fun s p => Pz.push p s) S → q ∈ S ∨ q ∈ R by
    rcases k L [] h with e | e
    · exact nomatch e
    · exact e
  intro R
  induction R with
  | nil => intro S h; exact .inl h
  | cons p R ih =>
    intro S h
    rcases ih _ h with e | e
    · rcases push_mem e with e | e
      · right; rw [e]; simp
      · exact .inl e
    · exact .inr (List.mem_cons_of_mem _ e)
theorem chainR_len (L : List Pt) : (Pz.chainR L).length ≤ L.length := by
  suffices k : ∀ (R S : List Pt), (R.foldl (fun s p => Pz.push p s) S).length ≤ S.length + R.length by
    have := k L []; simpa [Pz.chainR] using this
  intro R
  induction R with
  | nil => intro S; simp
  | cons p R ih =>
    intro S
    have := ih (Pz.push p S)
    have := push_len (p := p) (S := S)
    simp only [List.foldl_cons, List.length_cons]
    omega
theorem sc_chain : FnScope ["places", "found", "p"] ["places"] (defScope (topS 38)) := ⟨rfl, rfl, rfl, by decide +kernel, rfl, by decide +kernel, by decide +kernel⟩
def sp_chain : Sp := sp1 (rL rP) (fun L => (∀ p ∈ L, Sm p) ∧ L.length < sizeLine) (rL rP) chainM
theorem ok_chain (T : Tx K mg) : Has P w K mg base "chain" 5 sp_chain := by
  have G1 : Has P w K mg base "turn" 4 sp_turn := ok_turn T
  refine has_of T.chain sc_chain (fun _ _ _ _ _ _ us hl => match us, hl with | [_], _ => rfl) sp1_len fun f cdv A outer s H vs Q E hr h => ?_
  obtain ⟨v, L, rfl, ⟨a, vs, rfl, ha, pl⟩, ⟨sm, ll⟩, k⟩ := h
  refine ⟨_, pss_cons (ps_set (i := 1) sc_chain.nd rfl (Or.inl rfl) (pe_lst pa_nil))
    (pss_cons (ps_for PassesOwn.never rfl (pi_list (pv 0)) (pg_name (i := 2) sc_chain.nd rfl (Or.inl rfl))
      (pss_cons (ps_while PassesOwn.never
          (PW.pt (pw_and (pt_cmpR op_gt (pe_callB call_len_seq (by rfl) T.n_len PySem.boot_len (pa_cons (pv 1) pa_nil)) pe_int (nomark _))
            (pw_and1 (pt_cmpR op_le (pe_has G1 hr (by rfl) (pa_cons (pe_ix ix_list (pv 1) (pe_un un_neg pe_int) (fun _ _ => rfl)) (pa_cons (pe_ix ix_list (pv 1) (pe_un un_neg pe_int) (fun _ _ => rfl)) (pa_cons (pv 2) pa_nil)))) pe_int (nomark _)))))
          (pss_one (ps_expr (pe_bm0 PySem.F.plainAttrs_list PySem.F.slot_list_pop PySem.F.type_list_pop mt_pop (pv 1)))))
      (pss_one (ps_expr (pe_bm PySem.F.plainAttrs_list PySem.F.slot_list_append PySem.F.type_list_append mt_append (pv 1) (pa_cons (pv 2) pa_nil))))))
    (pss_one (ps_ret (pv 1)))), ?_⟩
  refine ⟨by show 0 ≤ sizeLine; decide, fun l hl => ?_⟩
  have sm0 : L2.Same H (upd H l (.lst [])) := same_new hl
  refine ⟨_, rfl, a, rfl, ⟨_, SqL.of (sm0 _ _ ha)⟩, ?_⟩
  have lenL := Paired.len pl
  refine for_list (K := K) (a := a) (xs := vs) (fun i σ H2 => ∃ (x : Option V) (ys : List V), σ = [some (.ref a), some (.ref l), x] ∧ L2.Same H H2 ∧ H2 l = some (.lst ys) ∧ Paired (rP H2) ys (chainM (L.take i)))
    ⟨none, [], rfl, sm0, upd_same, by simpa [chainM, Pz.chainR] using Paired.nil⟩ (fun i σ H2 _ ⟨_, _, _, s2, _⟩ => s2.seq (SqL.of ha)) ?_ ?_
  · rintro i y σ H2 hi ⟨x0, ys, rfl, s2, hl2, py⟩
    obtain ⟨p, hp, rp0⟩ := Paired.get pl hi
    have pL : p ∈ L := List.mem_of_getElem? hp
    have hil : i < L.length := (List.getElem?_eq_some_iff.mp hp).1
    have rp : rP H2 y p := mP _ _ _ _ s2 rp0
    have tk : L.take (i + 1) = L.take i ++ [p] := by rw [List.take_add_one, hp]; rfl
    -- the while loop
    refine ⟨fun m σ' H' => ∃ (S : List Pt) (zs : List V), m = S.length ∧ σ' = [some (.ref a), some (.ref l), some y] ∧ L2.Same H H' ∧ H' l = some (.lst zs) ∧ Paired (rP H') zs S.reverse ∧ Pz.push p S = Pz.push p (Pz.chainR (L.take i)) ∧ (∀ q ∈ S, Sm q) ∧ S.length ≤ L.length, ⟨_, _, ys, rfl, rfl, s2, hl2, py, rfl, fun q hq => sm q (List.mem_of_mem_take (chainR_mem hq)), Nat.le_trans (chainR_len _) (by rw [List.length_take]; omega)⟩, ?_⟩
    rintro m σ' H' ⟨S, zs, rfl, rfl, s3, hz, pz, ep, sS, lS⟩
    have lz := Paired.len pz
    rw [List.length_reverse] at lz
    have rp3 : rP H' y p := mP _ _ _ _ s3 rp0
    refine ⟨_, rfl, l, zs, rfl, .inl (SqL.of hz), _, _, rfl, rfl, _, rfl, ?_⟩
    -- behind the loop: found.append(p)
    have out : ∀ H5, L2.Same H' H5 → Pz.push p S = p :: S → ∃ (x : Option V) (ys : List V), [some (V.ref a), some (V.ref l), some y] = [some (V.ref a), some (V.ref l), x] ∧ L2.Same H (upd H5 l (.lst (zs ++ [y]))) ∧
        upd H5 l (.lst (zs ++ [y])) l = some (.lst ys) ∧ Paired (rP (upd H5 l (.lst (zs ++ [y])))) ys (chainM (L.take (i + 1))) := fun H5 s5 e => by
      refine ⟨some y, zs ++ [y], rfl, same_at (s3.trans s5) hl, upd_same, ?_⟩
      have : chainM (L.take (i + 1)) = S.reverse ++ [p] := by
        unfold chainM
        rw [tk, chainR_snoc, ← ep, e]
        simp
      rw [this]
      have tu : TupSame H5 (upd H5 l (.lst (zs ++ [y]))) := tup_upd (s5 _ _ hz)
      exact PySem.Paired.snoc (Paired.imp pz fun _ _ r => tP _ _ _ _ tu (mP _ _ _ _ s5 r)) (tP _ _ _ _ tu (mP _ _ _ _ s5 rp3))
    refine ite2 (fun e => ?_) (fun e => ?_)
    · have h2 : 1 < (zs.length : Int) := of_decide_eq_true e
      match S, lz, pz, ep, sS, lS, out with
      | [], lz, _, _, _, _, _ => simp at lz; rw [lz] at h2; simp at h2
      | [_], lz, _, _, _, _, _ => simp at lz; rw [lz] at h2; simp at h2
      | b :: a' :: r, lz, pz, ep, sS, lS, out =>
        have e1 : (b :: a' :: r).reverse = r.reverse ++ [a'] ++ [b] := by simp
        have pz' := pz
        rw [e1] at pz'
        obtain ⟨z1, vb, rfl, p1, rb⟩ := paired_snoc pz'
        obtain ⟨z2, va, rfl, p2, ra⟩ := paired_snoc p1
        have ez : z2 ++ [va] ++ [vb] = z2 ++ [va, vb] := by simp
        rw [ez] at hz
        refine ⟨_, rfl, _, rfl, l, _, _, va, rfl, rfl, SqL.of hz, atI_back _ _ _, _, rfl, _, rfl, l, _, _, vb, rfl, rfl, SqL.of hz, atI_last2 _ _ _, _, rfl, ?_⟩
        refine ⟨_, _, _, a', b, p, rfl, ra, rb, rp3, ⟨sS a' (by simp), sS b (by simp), sm p pL⟩, fun u H4 s4 r4 => ?_⟩
        have hz4 := s4 _ _ hz
        refine ⟨_, _, r4, rfl, _, rfl, ?_⟩
        refine ite2 (fun e' => ?_) (fun e' => ?_)
        · have t : Pz.det a' b p ≤ 0 := sgn_nonpos.mp (of_decide_eq_true e')
          refine ⟨_, fun σ5 H5 h5 => h5, ?_⟩
          refine ⟨_, rfl, .inl ⟨rfl, _, SqL.of hz4⟩, l, _, vb, rfl, rfl, hz4, by simp, ?_⟩
          refine ⟨(a' :: r).length, by simp, a' :: r, z2 ++ [va], rfl, rfl, same_at (s3.trans s4) hl, ?_, ?_, ?_, fun q hq => sS q (List.mem_cons_of_mem _ hq), by simp at lS ⊢; omega⟩
          · have : (z2 ++ [va, vb]).dropLast = z2 ++ [va] := by
              rw [show z2 ++ [va, vb] = (z2 ++ [va]) ++ [vb] by simp, List.dropLast_concat]
            rw [this]; exact upd_same
          · have tu : TupSame H4 (upd H4 l (.lst (z2 ++ [va, vb]).dropLast)) := tup_upd hz4
            have : (a' :: r).reverse = r.reverse ++ [a'] := by simp
            rw [this]
            exact Paired.imp p1 fun _ _ q => tP _ _ _ _ tu (mP _ _ _ _ s4 q)
          · rw [← ep, Pz.push.eq_1, if_pos t]
        · have t : ¬ Pz.det a' b p ≤ 0 := fun q => e' (decide_eq_true (sgn_nonpos.mpr q))
          have o := out H4 s4 (by rw [Pz.push.eq_1, if_neg t])
          rw [ez] at o
          refine ⟨_, rfl, .inl ⟨rfl, _, SqL.of hz4⟩, _, rfl, l, _, y, rfl, rfl, hz4, ?_, o⟩
          have : sizeLine = 16777216 := rfl
          simp at lz lS ⊢; omega
    · have h2 : ¬ 1 < (zs.length : Int) := fun q => e (decide_eq_true q)
      have sh : Pz.push p S = p :: S := by
        match S, lz with
        | [], _ => rw [Pz.push]
        | [b], _ => rw [Pz.push]
        | b :: a' :: r, lz => exfalso; simp at lz; omega
      exact ⟨_, rfl, .inl ⟨rfl, _, SqL.of hz⟩, _, rfl, l, _, y, rfl, rfl, hz, by omega, out H' (.refl _) sh⟩
  · rintro σ H2 ⟨x0, ys, rfl, s2, hl2, py⟩
    refine ⟨_, rfl, k _ _ s2 ⟨l, ys, rfl, hl2, ?_⟩⟩
    rw [lenL, List.take_length] at py
    exact py
end
end Wk

set_option Elab.async false
set_option linter.all false
set_option maxRecDepth 100000
/-! W7: dicts whose keys are tuples (of tuples): the exact object is what is tracked. -/
namespace Wk
open PySem L2 PySem.Spec PyProof.Rows
open Pz (Pt Ln)
/-- a thing of data that may be a key -/
structure KK (α : Type) where
  rl : Rl α
  key : α → NestedKey
  inj : ∀ x y, key x = key y → x = y
  mono : MonoT rl
  ref : ∀ H v x, rl H v x → ∃ a, v = .ref a
  snd : ∀ (P : Program) (w : World) (H : Hp) (h : Heap) (a : Addr) (x : α), HOk P w H h → rl H (.ref a) x → (nestedKind P w).is h (key x) a
/-- the very object -/
def exO (d : Addr) (o : Obj) : HO := .ext fun h => h.get? d = some o
theorem exO_ok {P : Program} {w : World} {H : Hp} {h : Heap} {d : Addr} {o : Obj} (e : h.get? d = some o) : ObjOk P w H h d (exO d o) := ⟨e, ⟨o, e⟩, fun _ _ q k => k _ q⟩
theorem exO_get {P : Program} {w : World} {H : Hp} {h : Heap} {d : Addr} {o : Obj} (ok : HOk P w H h) (e : H d = some (exO d o)) : h.get? d = some o := (ok d _ e).1
section
variable {α : Type} [DecidableEq α] (κ : KK α)
/-- the entries of a dict -/
abbrev Ents (H : Hp) : List (α × V) → List (NestedKey × Addr × Value) → Prop := Paired fun p q => q.1 = κ.key p.1 ∧ κ.rl H (.ref q.2.1) p.1 ∧ RelV p.2 q.2.2
/-- at d stands a dict with these keys and values -/
structure NDo (P : Program) (w : World) (H : Hp) (d : Addr) (kvs : List (α × V)) (o : Obj) (xs : List (NestedKey × Addr × Value)) : Prop where
  at_ : H d = some (exO d o)
  ex : o.ExactDict
  dat : ∃ es ep, o.data = .dict es ep ∧ es.toList = xs.map (entryOfKey (nestedKind P w))
  ents : Ents κ H kvs xs
  nd : (kvs.map (·.1)).Nodup
  sys : (d == sysModules) = false
  len : kvs.length ≤ sizeLine
def ND (P : Program) (w : World) (H : Hp) (d : Addr) (kvs : List (α × V)) : Prop := ∃ o xs, NDo κ P w H d kvs o xs
variable {κ} {P : Program} {w : World} {H : Hp} {d : Addr} {kvs : List (α × V)} {o : Obj} {xs : List (NestedKey × Addr × Value)}
theorem Ents.keys (h : Ents κ H kvs xs) : xs.map (·.1) = (kvs.map (·.1)).map κ.key := by
  induction h with
  | nil => rfl
  | cons r _ ih => rw [List.map_cons, List.map_cons, List.map_cons, r.1, ih]
theorem nodup_map {β γ : Type} {f : β → γ} (hi : ∀ x y, f x = f y → x = y) : ∀ {l : List β}, l.Nodup → (l.map f).Nodup
  | [], _ => List.nodup_nil
  | a :: l, h => by
    obtain ⟨h1, h2⟩ := List.nodup_cons.mp h
    rw [List.map_cons]
    refine List.nodup_cons.mpr ⟨fun m => ?_, nodup_map hi h2⟩
    obtain ⟨b, hb, e⟩ := List.mem_map.mp m
    exact h1 (hi _ _ e ▸ hb)
theorem Ents.mono {H' : Hp} (h : Ents κ H kvs xs) (s : TupSame H H') : Ents κ H' kvs xs := Paired.imp h fun _ _ ⟨a, b, c⟩ => ⟨a, κ.mono _ _ _ _ s b, c⟩
theorem NDo.same {H' : Hp} (h : NDo κ P w H d kvs o xs) (s : L2.Same H H') : NDo κ P w H' d kvs o xs :=
  ⟨s _ _ h.at_, h.ex, h.dat, h.ents.mono fun b ys e => s b _ e, h.nd, h.sys, h.len⟩
theorem ND.same {H' : Hp} (h : ND κ P w H d kvs) (s : L2.Same H H') : ND κ P w H' d kvs := let ⟨o, xs, k⟩ := h; ⟨o, xs, k.same s⟩
theorem Ents.val (h : Ents κ H kvs xs) (x : α) : RelO (valV kvs x) ((atKey xs (κ.key x)).map (·.2)) := by
  induction h with
  | nil => exact True.intro
  | @cons p q ps qs r t ih =>
    obtain ⟨e, _, rv⟩ := r
    by_cases c : p.1 = x
    · have c2 : q.1 = κ.key x := by rw [e, c]
      have b : atKey (q :: qs) (κ.key x) = some q.2 := by unfold atKey; rw [List.find?_cons, decide_eq_true c2]; rfl
      rw [valV_pos c, b]
      exact rv
    · have c2 : ¬ q.1 = κ.key x := fun z => c (κ.inj _ _ (e.symm.trans z))
      have b : atKey (q :: qs) (κ.key x) = atKey qs (κ.key x) := by unfold atKey; rw [List.find?_cons, decide_eq_false c2]
      rw [valV_neg c, b]
      exact ih
theorem Ents.put (h : Ents κ H kvs xs) (x : α) {a : Addr} {v : V} {u : Value} (hx : κ.rl H (.ref a) x) (rv : RelV v u) : Ents κ H (putK kvs x v) (storedH xs (κ.key x) a u) := by
  have e : (kvs.any fun kv => decide (kv.1 = x)) = (atKey xs (κ.key x)).isSome := by
    rw [valV_any, (h.val x).isSome_eq, Option.isSome_map]
  unfold putK storedH
  rw [e]
  by_cases c : (atKey xs (κ.key x)).isSome = true
  · rw [if_pos c, if_pos c]
    clear c e
    induction h with
    | nil => exact .nil
    | @cons p q ps qs r t ih =>
      refine .cons ?_ ih
      obtain ⟨e1, e2, e3⟩ := r
      unfold putAt
      dsimp only
      by_cases c : p.1 = x
      · rw [if_pos c, if_pos (by rw [e1, c])]
        exact ⟨e1, e2, rv⟩
      · rw [if_neg c, if_neg fun z => c (κ.inj _ _ (e1.symm.trans z))]
        exact ⟨e1, e2, e3⟩
  · rw [if_neg c, if_neg c]
    exact PySem.Paired.snoc h ⟨rfl, hx, rv⟩
theorem putK_nodup (kvs : List (α × V)) (x : α) (v : V) (h : (kvs.map (·.1)).Nodup) : ((putK kvs x v).map (·.1)).Nodup := by
  cases e : valV kvs x with
  | none => exact nd_putK v h e
  | some y =>
    have : (kvs.any fun kv => decide (kv.1 = x)) = true := by rw [valV_any, e]; rfl
    unfold putK
    rw [if_pos this, List.map_map]
    have : ((fun kv : α × V => kv.1) ∘ fun kv => if kv.1 = x then (kv.1, v) else kv) = fun kv => kv.1 := by
      funext kv
      simp only [Function.comp]
      split <;> rfl
    rw [this]
    exact h
theorem NDo.heap (n : NDo κ P w H d kvs o xs) {h : Heap} (ok : HOk P w H h) : h.DictOfH (nestedKind P w) d xs := by
  obtain ⟨es, ep, e1, e2⟩ := n.dat
  refine ⟨o, es, ep, exO_get ok n.at_, n.ex, e1, e2, fun x hx => ?_, ?_⟩
  · obtain ⟨i, hi⟩ := List.mem_iff_getElem?.mp hx
    obtain ⟨p, _, k1, k2, _⟩ := Paired.get' n.ents hi
    rw [k1]
    exact κ.snd P w H h _ _ ok k2
  · rw [Ents.keys n.ents]
    exact nodup_map κ.inj n.nd
end
section
variable {X : Cx} {pins : List (Addr × Obj)} {σ : L2.St} {H : Hp} {s : Shared} {α : Type} [DecidableEq α] {κ : KK α} {d : Addr} {kvs : List (α × V)} {A : Around} {E : Value → Shared → Prop}
/-- a new empty one -/
theorem nd_new (κ : KK α) {P : Program} {w : World} {H : Hp} {d : Addr} (h : (d == sysModules) = false) : NDo κ P w (upd H d (exO d { cls := .type "dict", data := .dict #[] })) d [] { cls := .type "dict", data := .dict #[] } [] :=
  ⟨upd_same, ⟨rfl, rfl, rfl⟩, ⟨#[], 0, rfl, rfl⟩, .nil, List.nodup_nil, h, Nat.zero_le _⟩
/-- behind a store: what stands there -/
theorem nd_stored {h' : Heap} {t' : Nat} {x : α} {a : Addr} {v : V} {u : Value} {o : Obj} {xs : List (NestedKey × Addr × Value)} (I : Inv X pins σ H s) (n : NDo κ X.prog X.w H d kvs o xs) (hx : κ.rl H (.ref a) x) (rv : RelV v u) (hl : kvs.length < sizeLine)
    (hm : h'.DictOfH (nestedKind X.prog X.w) d (storedH xs (κ.key x) a u)) (hs : Heap.SameBut d s.heap h') :
    ∃ o', Inv X pins σ (upd H d (exO d o')) { s with heap := h', toks := t' } ∧ ND κ X.prog X.w (upd H d (exO d o')) d (putK kvs x v) := by
  obtain ⟨o', es, ep, e1, e2, e3, e4, _, _⟩ := hm
  have tu : TupSame H (upd H d (exO d o')) := fun b ys e => by
    rw [upd_ne (ne_of e n.at_ (by intro z; cases z))]; exact e
  refine ⟨o', d_write I (by rw [n.at_]; exact True.intro) hs ⟨o', e1⟩ (exO_ok e1), o', _, upd_same, e2, ⟨es, ep, e3, e4⟩, (n.ents.put x hx rv).mono tu, putK_nodup _ _ _ n.nd, n.sys, ?_⟩
  have := length_putK kvs x v
  omega
theorem ents_len {xs : List (NestedKey × Addr × Value)} {H : Hp} (h : Ents κ H kvs xs) : xs.length = kvs.length := (Paired.len h).symm
/-- d[k] = v by a comprehension -/
theorem nd_dset {x : α} {y v : V} {u r : Value} {Q : Unit → Shared → Prop} (hu : A.units + 8 < cLine) (I : Inv X pins σ H s) (n : ND κ X.prog X.w H d kvs) (hx : κ.rl H y x) (ry : RelV y u) (rv : RelV v r) (hl : kvs.length < sizeLine)
    (h : ∀ o' s', Inv X pins σ (upd H d (exO d o')) s' → ND κ X.prog X.w (upd H d (exO d o')) d (putK kvs x v) → Q () s') : wpAny (model X.prog X.w) A (dictSet d u r) Q E s := by
  obtain ⟨o, xs, n⟩ := n
  obtain ⟨a, rfl⟩ := κ.ref _ _ _ hx
  obtain rfl : u = Value.ref a := ry
  have lx := ents_len n.ents
  refine wpAny_dictSet_heap (knd := nestedKind X.prog X.w) (hsz := by omega) hu (κ.snd _ _ _ _ _ _ I.hok hx) (n.heap I.hok) fun h' hm hs => ?_
  obtain ⟨o', I', n'⟩ := nd_stored (t' := s.toks + (nestedKind X.prog X.w).draws (κ.key x)) I n hx rv hl hm hs
  exact h o' _ I' n'
/-- d[k] = v -/
theorem nd_setItem {x : α} {y v : V} {u r : Value} {Q : Unit → Shared → Prop} (hu : A.units + 9 < cLine) (I : Inv X pins σ H s) (n : ND κ X.prog X.w H d kvs) (hx : κ.rl H y x) (ry : RelV y u) (rv : RelV v r) (hl : kvs.length < sizeLine)
    (h : ∀ o' s', Inv X pins σ (upd H d (exO d o')) s' → ND κ X.prog X.w (upd H d (exO d o')) d (putK kvs x v) → Q () s') : wpAny (model X.prog X.w) A (setItem (.ref d) u r) Q E s := by
  obtain ⟨o, xs, n⟩ := n
  obtain ⟨a, rfl⟩ := κ.ref _ _ _ hx
  obtain rfl : u = Value.ref a := ry
  have lx := ents_len n.ents
  refine wpAny_setItem_heap (knd := nestedKind X.prog X.w) (hsz := by omega) (show A.units + 1 + 8 < cLine by omega) (κ.snd _ _ _ _ _ _ I.hok hx) (n.heap I.hok) fun h' hm hs => ?_
  obtain ⟨o', I', n'⟩ := nd_stored (t' := s.toks + (nestedKind X.prog X.w).draws (κ.key x)) I n hx rv hl hm hs
  exact h o' _ I' n'
/-- d[k] -/
theorem nd_getItem {x : α} {y v : V} {u : Value} {Q : Value → Shared → Prop} (hu : A.units + 9 < cLine) (I : Inv X pins σ H s) (n : ND κ X.prog X.w H d kvs) (hx : κ.rl H y x) (ry : RelV y u) (e : valV kvs x = some v)
    (h : ∀ r s', Inv X pins σ H s' → RelV v r → Q r s') : wpAny (model X.prog X.w) A (getItem (.ref d) u) Q E s := by
  obtain ⟨o, xs, n⟩ := n
  obtain ⟨a, rfl⟩ := κ.ref _ _ _ hx
  obtain rfl : u = Value.ref a := ry
  obtain ⟨w', hw, rw'⟩ := RelO.some_of (v := v) (o := (atKey xs (κ.key x)).map (·.2)) (by rw [← e]; exact Ents.val n.ents x)
  obtain ⟨p, hp, hp2⟩ := Option.map_eq_some_iff.mp hw
  refine wpAny_getItem_heap (knd := nestedKind X.prog X.w) (show A.units + 1 + 8 < cLine by omega) (κ.snd _ _ _ _ _ _ I.hok hx) (n.heap I.hok) hp ?_
  rw [hp2]
  exact h w' _ (I.tok _) rw'
/-- d.get(k, z) -/
theorem nd_getOr {x : α} {y z : V} {u r : Value} {Q : Value → Shared → Prop} (hu : A.units + 9 < cLine) (I : Inv X pins σ H s) (n : ND κ X.prog X.w H d kvs) (hx : κ.rl H y x) (ry : RelV y u) (rz : RelV z r)
    (h : ∀ r s', Inv X pins σ H s' → RelV ((valV kvs x).getD z) r → Q r s') : wpAny (model X.prog X.w) A (call (.builtin "dict.get") [.ref d, u, r]) Q E s := by
  obtain ⟨o, xs, n⟩ := n
  obtain ⟨a, rfl⟩ := κ.ref _ _ _ hx
  obtain rfl : u = Value.ref a := ry
  refine getOr_keyed (knd := nestedKind X.prog X.w) (kvs := pairsH xs) (show A.units + 1 + 8 < cLine by omega) (κ.snd _ _ _ _ _ _ I.hok hx) n.sys ⟨xs, n.heap I.hok, rfl⟩ ?_
  refine h _ _ (I.tok _) ?_
  rw [valueAt_pairsH]
  exact (Ents.val n.ents x).getD rz
end
/-! ### places and plates as keys -/
def kP (p : Pt) : NestedKey := .tup [.num p.x, .num p.y, .num p.d]
def kV' (V : List Pt) : NestedKey := .tup (V.map kP)
theorem kP_inj (x y : Pt) (h : kP x = kP y) : x = y := by
  unfold kP at h
  injection h with h
  injection h with h1 h
  injection h with h2 h
  injection h with h3 _
  injection h1 with h1
  injection h2 with h2
  injection h3 with h3
  cases x; cases y; simp_all
theorem map_inj {α β : Type} {f : α → β} (hf : ∀ x y, f x = f y → x = y) : ∀ {a b : List α}, a.map f = b.map f → a = b
  | [], [], _ => rfl
  | [], _ :: _, e => by simp at e
  | _ :: _, [], e => by simp at e
  | x :: xs, y :: ys, e => by
    rw [List.map_cons, List.map_cons] at e
    injection e with e1 e2
    rw [hf _ _ e1, map_inj hf e2]
theorem nestP {P : Program} {w : World} {H : Hp} {h : Heap} {a : Addr} {p : Pt} (ok : HOk P w H h) (e : H a = some (.tup [.int p.x, .int p.y, .int p.d])) : NestedIs h (kP p) (.ref a) := by
  obtain ⟨_, its, r, o, h1, h2, n, h3⟩ := (show ObjOk P w H h a (.tup [.int p.x, .int p.y, .int p.d]) from ok a _ e)
  cases r with
  | cons r1 r => cases r with
    | cons r2 r => cases r with
      | cons r3 r =>
        cases r
        obtain ⟨t1, rfl⟩ := r1
        obtain ⟨t2, rfl⟩ := r2
        obtain ⟨t3, rfl⟩ := r3
        exact .tup h1 h2 h3 (.cons (.int _ _) (.cons (.int _ _) (.cons (.int _ _) .nil)))
theorem depP (p : Pt) : (kP p).depth ≤ 2 := by simp [kP, NestedKey.depth, NestedKey.depthAll]
theorem depAll (V : List Pt) : NestedKey.depthAll (V.map kP) ≤ 2 := by
  induction V with
  | nil => simp [NestedKey.depthAll]
  | cons p V ih =>
    rw [List.map_cons, NestedKey.depthAll]
    have := depP p
    omega
def kkP : KK Pt where
  rl := rP
  key := kP
  inj := kP_inj
  mono := tP
  ref := fun _ _ _ ⟨a, e, _⟩ => ⟨a, e⟩
  snd := fun P w H h a x ok r => by
    obtain ⟨b, e, hb⟩ := r
    cases e
    exact ⟨nestP ok hb, Nat.le_trans (depP x) (by decide)⟩
theorem nestAll {P : Program} {w : World} {H : Hp} {h : Heap} (ok : HOk P w H h) : ∀ {L : List Pt} {vs : List V} {us : List Value}, Paired (rP H) vs L → Vals vs us → NestedAll h (L.map kP) us
  | _, _, _, .nil, .nil => .nil
  | _, _, _, .cons ⟨a, e, ha⟩ t, .cons r t' => by
    subst e
    cases r
    exact .cons (nestP ok ha) (nestAll ok t t')
def kkV : KK (List Pt) where
  rl := rT rP
  key := kV'
  inj := fun x y h => by
    unfold kV' at h
    injection h with h
    exact map_inj kP_inj h
  mono := tT tP
  ref := fun _ _ _ ⟨a, _, e, _⟩ => ⟨a, e⟩
  snd := fun P w H h a V ok r => by
    obtain ⟨b, vs, e, hb, p⟩ := r
    cases e
    obtain ⟨_, its, rv, o, h1, h2, n, h3⟩ := (show ObjOk P w H h a (.tup vs) from ok a _ hb)
    refine ⟨.tup h1 h2 h3 ?_, ?_⟩
    · have : its.toArray.toList = its := by simp
      rw [this]
      exact nestAll ok p rv
    · have := depAll V
      simp only [kV', NestedKey.depth]
      omega
end Wk

set_option Elab.async false
set_option linter.all false
set_option maxRecDepth 100000
/-! W8: rules for dicts with keys that are tuples. -/
namespace Wk
open PySem L2 PySem.Spec PyProof.Rows
open Pz (Pt Ln)
section
variable {X : Cx} {α : Type} [DecidableEq α] (κ : KK α)
/-- {} -/
def tNew : TE := fun _ H Q => ∀ p, H p = none → (p == sysModules) = false → Q (.ref p) (upd H p (exO p { cls := .type "dict", data := .dict #[] }))
theorem pe_dnewN {pos : Pos} : PE X (.Dict [] [] pos) tNew := ⟨fun pins s σ H Q I h => by
  have e : (s.heap.push { cls := .type "dict", data := .dict #[] }).get? s.heap.objs.size = some { cls := .type "dict", data := .dict #[] } := Heap.get?_push_size _ rfl
  refine wpAny_Dict_empty ⟨.ref s.heap.objs.size, _, I.laid (a := s.heap.objs.size) (o := exO s.heap.objs.size { cls := .type "dict", data := .dict #[] }) (t' := s.toks) (fun _ _ q => Heap.get?_push_of_some _ q) (Nat.le_refl _) (exO_ok e), rfl, ?_⟩
  exact h _ (I.hok.fresh (Nat.le_refl _)) (beq_eq_false_iff_ne.mpr (Ne.symm (Nat.ne_of_lt I.big)))⟩
variable {o i value : Expr} {td ty tv : TE} {pos pos' : Pos}
/-- o[i] = value -/
def sPut (P : Program) (w : World) (td ty tv : TE) : TS := fun D σ H => tv σ H fun v H1 => td σ H1 fun x H2 => ty σ H2 fun y H3 => ∃ (d : Addr) (kvs : List (α × V)) (k : α), x = .ref d ∧ ND κ P w H3 d kvs ∧ κ.rl H3 y k ∧ kvs.length < sizeLine ∧
  ∀ o', ND κ P w (upd H3 d (exO d o')) d (putK kvs k v) → D.nx σ (upd H3 d (exO d o'))
theorem ps_nput (hu : X.A.units + 9 < cLine) (ho : PE X o td) (hi : PE X i ty) (hv : PE X value tv) (hs : swapsWith value (some (.Subscript o i pos')) pos.line X.env = pure false) :
    PS X (.Assign [.Subscript o i pos'] value pos) (sPut κ X.prog X.w td ty tv) := by
  refine ⟨fun pins s σ H D I h => ?_⟩
  refine wpAny_Assign_Subscript (thn (hv.run pins s σ H _ I h) fun r s1 z1 => ?_) hs
  obtain ⟨v, H1, I1, rv, q1⟩ := z1
  refine thn (ho.run pins s1 σ H1 _ I1 q1) fun u s2 z2 => ?_
  obtain ⟨x, H2, I2, rx, q2⟩ := z2
  refine thn (hi.run pins s2 σ H2 _ I2 q2) fun iv s3 z3 => ?_
  obtain ⟨y, H3, I3, ry, d, kvs, k, e, n, hk, hl, q3⟩ := z3
  subst e
  obtain rfl : u = Value.ref d := rx
  exact nd_setItem hu I3 n hk ry rv hl fun o' s4 I4 n4 => ⟨σ, _, I4, q3 o' n4⟩
/-- o[i], there -/
def tSubN (P : Program) (w : World) (td ty : TE) : TE := fun σ H Q => td σ H fun x H1 => ty σ H1 fun y H2 => ∃ (d : Addr) (kvs : List (α × V)) (k : α) (v : V), x = .ref d ∧ ND κ P w H2 d kvs ∧ κ.rl H2 y k ∧ valV kvs k = some v ∧ Q v H2
theorem nd_typeIs {P : Program} {w : World} {H : Hp} {d : Addr} {kvs : List (α × V)} {s : Shared} (n : ND κ P w H d kvs) (ok : HOk P w H s.heap) : s.TypeIs (.ref d) "dict" ∧ ∃ ob, s.heap.get? d = some ob ∧ ob.dict = none := by
  obtain ⟨ob, xs, n⟩ := n
  exact ⟨⟨ob, exO_get ok n.at_, n.ex.1⟩, ob, exO_get ok n.at_, n.ex.2.1⟩
theorem pe_nsub (hu : X.A.units + 9 < cLine) (ho : PE X o td) (hi : PE X i ty) (hs : NoSl i) : PE X (.Subscript o i pos) (tSubN κ X.prog X.w td ty) := by
  refine ⟨fun pins s σ H Q I h => ?_⟩
  refine subD_of PySem.F.slot_dict_getitem.lookup hs (thn (ho.run pins s σ H _ I h) fun u s1 z1 => ?_)
  obtain ⟨x, H1, I1, rx, q1⟩ := z1
  refine thn (hi.run pins s1 σ H1 _ I1 q1) fun iv s2 z2 => ?_
  obtain ⟨y, H2, I2, ry, d, kvs, k, v, e, n, hk, hv, q2⟩ := z2
  subst e
  obtain rfl : u = Value.ref d := rx
  exact ⟨(nd_typeIs κ n I2.hok).1, nd_getItem hu I2 n hk ry hv fun r s3 I3 rr => ⟨v, H2, I3, rr, q2⟩⟩
/-- o.get(i, value) -/
def tGetN (P : Program) (w : World) (td : TE) (ta : TA) : TE := fun σ H Q => td σ H fun x H1 => ∃ (d : Addr) (kvs : List (α × V)), x = .ref d ∧ ND κ P w H1 d kvs ∧ ta σ H1 fun ys H2 => ∃ y z k, ys = [y, z] ∧ ND κ P w H2 d kvs ∧ κ.rl H2 y k ∧ Q ((valV kvs k).getD z) H2
theorem pe_nget {e1 e2 : Expr} {ta : TA} {apos cpos : Pos} (hu : X.A.units + 9 < cLine) (ho : PE X o td) (ha : PA X [e1, e2] ta)
    (hbase : attributeBase o "get" X.env (eval o X.env) = eval o X.env := by rfl)
    (hfew : ((backTo cpos (starEach [e1, e2] X.env)).all (fun x => !x.1) && (backToKw cpos (keywordEach [] X.env)).all (fun x => x.1.isSome)
      && decide ([e1, e2].length + ([] : List Keyword).length + (if ([] : List Keyword).isEmpty then 0 else 1) < 30)) = true := by rfl)
    (hline : (apos.endLine == cpos.line) = true := by rfl) (hs : starEach [e1, e2] X.env = (false, eval e1 X.env) :: starEach [e2] X.env := by rfl) (hplain : (backTo cpos (starEach [e2] X.env)).any (·.1) = false := by rfl) :
    PE X (.Call (.Attribute o "get" apos) [e1, e2] [] cpos) (tGetN κ X.prog X.w td ta) := by
  refine ⟨fun pins s σ H Q I h => ?_⟩
  refine wpAny_Call_method_late hbase hfew hline rfl (thn (ho.run pins s σ H _ I h) fun u s1 z1 => ?_)
  obtain ⟨x, H1, I1, rx, d, kvs, e, n, q1⟩ := z1
  subst e
  obtain rfl : u = Value.ref d := rx
  obtain ⟨t1, t2⟩ := nd_typeIs κ n I1.hok
  refine ⟨"dict", "dict.get", PySem.F.plainAttrs_dict, PySem.F.slot_dict_get, PySem.F.type_dict_get, t1, fun a ea => by cases ea; exact t2, ?_⟩
  have hA := ha.run cpos pins s1 σ H1 _ I1 q1
  rw [hs] at hA ⊢
  refine Calls.callWith_builtin ?_ (Calls.evalArgs_plain ?_)
  · show (false || (backTo cpos (starEach [e2] X.env)).any (·.1)) = false
    rw [hplain]
    rfl
  · refine thn hA fun us s2 z2 => ?_
    obtain ⟨vs, H2, I2, r2, y, z, k, e, n2, hk, q2⟩ := z2
    subst e
    obtain ⟨u1, u2, rfl, ry, rz⟩ := vals2 r2
    exact nd_getOr hu I2 n2 hk ry rz fun r s3 I3 rr => ⟨_, H2, I3, rr, q2⟩
end
end Wk

set_option Elab.async false
set_option linter.all false
set_option maxRecDepth 100000
/-! W9: walks over dicts with keys that are tuples: by keys, by items(). -/
namespace Wk
open PySem L2 PySem.Spec PyProof.Rows
open Pz (Pt Ln)
/-- the entries as addresses of keys, with values -/
structure Rw (H : Hp) (d : Addr) (o : Obj) (L : List (Addr × V)) (es : Array DictEntry) (ep : Nat) : Prop where
  ex : o.ExactDict
  dat : o.data = .dict es ep
  len : es.size = L.length
  ent : ∀ (i : Nat) (l : Addr × V), L[i]? = some l → ∃ en, es[i]? = some en ∧ en.key = .ref l.1 ∧ RelV l.2 en.val
theorem ents_L {α : Type} {κ : KK α} {H : Hp} {kvs : List (α × V)} {xs : List (NestedKey × Addr × Value)} (h : Ents κ H kvs xs) :
    ∃ L : List (Addr × V), Paired (fun l (q : NestedKey × Addr × Value) => l.1 = q.2.1 ∧ RelV l.2 q.2.2) L xs ∧ Paired (fun l (p : α × V) => κ.rl H (.ref l.1) p.1 ∧ l.2 = p.2) L kvs := by
  induction h with
  | nil => exact ⟨[], .nil, .nil⟩
  | @cons p q _ _ r _ ih =>
    obtain ⟨L, h1, h2⟩ := ih
    exact ⟨(q.2.1, p.2) :: L, .cons ⟨rfl, r.2.2⟩ h1, .cons ⟨r.2.1, rfl⟩ h2⟩
section
variable {α : Type} [DecidableEq α] {κ : KK α} {P : Program} {w : World} {H : Hp} {d : Addr} {kvs : List (α × V)}
theorem ND.raw (n : ND κ P w H d kvs) : ∃ o L es ep, H d = some (exO d o) ∧ Rw H d o L es ep ∧ Paired (fun l (p : α × V) => κ.rl H (.ref l.1) p.1 ∧ l.2 = p.2) L kvs ∧ (d == sysModules) = false ∧ kvs.length ≤ sizeLine ∧ (kvs.map (·.1)).Nodup := by
  obtain ⟨o, xs, n⟩ := n
  obtain ⟨es, ep, e1, e2⟩ := n.dat
  obtain ⟨L, l1, l2⟩ := ents_L n.ents
  refine ⟨o, L, es, ep, n.at_, ⟨n.ex, e1, ?_, fun i l hl => ?_⟩, l2, n.sys, n.len, n.nd⟩
  · rw [← Array.length_toList, e2, List.length_map, Paired.len l1]
  · obtain ⟨q, hq, k1, k2⟩ := Paired.get l1 hl
    refine ⟨entryOfKey (nestedKind P w) q, ?_, ?_, k2⟩
    · rw [← Array.getElem?_toList, e2, List.getElem?_map, hq]; rfl
    · show Value.ref q.2.1 = _
      rw [k1]
end
/-- the keys -/
def ItK (d : Addr) (o : Obj) (L : List (Addr × V)) : It :=
  ⟨fun i H => H d = some (exO d o) ∧ i < L.length, fun i H x H' => H' = H ∧ ∃ l, L[i]? = some l ∧ x = .ref l.1, fun i H => H d = some (exO d o) ∧ L.length ≤ i⟩
/-- the pairs, each a new tuple -/
def ItI (d : Addr) (o : Obj) (L : List (Addr × V)) : It :=
  ⟨fun i H => H d = some (exO d o) ∧ i < L.length, fun i H x H' => ∃ T l, L[i]? = some l ∧ x = .ref T ∧ H T = none ∧ H' = upd H T (.tup [.ref l.1, l.2]), fun i H => H d = some (exO d o) ∧ L.length ≤ i⟩
theorem rw_raw {P : Program} {w : World} {H H0 : Hp} {h : Heap} {d : Addr} {o : Obj} {L : List (Addr × V)} {es : Array DictEntry} {ep : Nat} (r : Rw H0 d o L es ep) (ok : HOk P w H h) (e : H d = some (exO d o)) : h.DictRaw d es ep := ⟨o, exO_get ok e, r.ex, r.dat⟩
section
variable {P : Program} {w : World} {K : PySem.W.Frag} {tg : Expr} {d : Addr} {o : Obj} {es : Array DictEntry} {ep : Nat} {L : List (Addr × V)} {H0 : Hp}
theorem turn_nkeys (it : Addr) (r : Rw H0 d o L es ep) : Turn P w K tg (ItK d o L) [it] it (fun i h => h.IsKeyIter it d i es.size ep) where
  mem := List.mem_singleton.mpr rfl
  obj := fun i h st b hb => by
    rw [List.mem_singleton.mp hb]
    obtain ⟨oi, e1, _, e2⟩ := st
    exact ⟨oi, e1, fun v z => by rw [e2] at z; cases z⟩
  keep := fun i h h' st k => st.at fun oi e => k it (List.mem_singleton.mpr rfl) oi e
  item := by
    intro X e1 e2 e3 hc i pins s σ H E I hf st hg
    subst e1 e2 e3
    obtain ⟨hd, hi⟩ := hg
    have hf' := hf it (List.mem_singleton.mpr rfl)
    obtain ⟨l, hl⟩ : ∃ l, L[i]? = some l := ⟨L[i], List.getElem?_eq_getElem hi⟩
    obtain ⟨en, hen, hk, _⟩ := r.ent i l hl
    have hlt : i < es.size := by rw [r.len]; exact hi
    have een : es[i] = en := by rw [Array.getElem?_eq_getElem hlt] at hen; exact Option.some.inj hen
    refine wpAny_pyNext_keys_item_raw st (rw_raw r I.hok hd) hlt fun h' st' sb => ?_
    have I1 : Inv X pins σ H { s with heap := h' } := I.turned (t' := s.toks) (fun b ob hb e => (sb.2 b hb).trans e) hf'.1 hf'.2.1 hf'.2.2.2.1 hf'.2.2.2.2.1 hf'.2.2.2.2.2
    obtain ⟨oi, f1, f2, f3⟩ := id st'
    refine ⟨_, rfl, go_of (s := { s with heap := h' }) f1 f2 f3 (by decide) ⟨.ref l.1, H, I1, ?_, ⟨rfl, l, hl, rfl⟩, st', fun b hb => (hf b hb).1⟩⟩
    show es[i].key = _
    rw [een, hk]
  done := by
    intro X e1 e2 e3 hc i pins s σ H E I hf st hg
    subst e1 e2 e3
    obtain ⟨hd, hi⟩ := hg
    have hf' := hf it (List.mem_singleton.mpr rfl)
    exact wpAny_pyNext_keys_end_raw (I.ok.hd hc) st (rw_raw r I.hok hd) (by rw [r.len]; exact hi) fun h' eb => ⟨rfl, I.turned (t' := s.toks) (fun b ob hb e => eb b ob hb e) hf'.1 hf'.2.1 hf'.2.2.2.1 hf'.2.2.2.2.1 hf'.2.2.2.2.2⟩
  self := fun A i s Q E st h => wpAny_pyIter_keyiter st h
theorem turn_nitems {elts : List Expr} {kk : Nat} {tpos : Pos} (it : Addr) (r : Rw H0 d o L es ep) : Turn P w K (.Tuple elts kk tpos) (ItI d o L) [it] it (fun i h => ∃ ok ov, IsItemIter h it d i es.size ep ok ov) where
  mem := List.mem_singleton.mpr rfl
  obj := fun i h st b hb => by
    rw [List.mem_singleton.mp hb]
    obtain ⟨_, _, e⟩ := st
    exact ⟨_, e, fun v z => nomatch z⟩
  keep := fun i h h' st k => let ⟨x, y, e⟩ := st; ⟨x, y, k it (List.mem_singleton.mpr rfl) _ e⟩
  item := by
    intro X e1 e2 e3 hc i pins s σ H E I hf st hg
    subst e1 e2 e3
    obtain ⟨hd, hi⟩ := hg
    obtain ⟨l, hl⟩ : ∃ l, L[i]? = some l := ⟨L[i], List.getElem?_eq_getElem hi⟩
    obtain ⟨en, hen, hk, hv⟩ := r.ent i l hl
    have hlt : i < es.size := by rw [r.len]; exact hi
    have een : es[i] = en := by rw [Array.getElem?_eq_getElem hlt] at hen; exact Option.some.inj hen
    obtain ⟨ok, ov, he⟩ := st
    have hit : it < s.heap.objs.size := Heap.lt_size he
    refine wpAny_pyNext_items_item_raw he (rw_raw r I.hok hd) hlt fun h' out ht hz hk' => ?_
    refine ⟨_, rfl, wpAny_letOwnedTupleGo_items (s := { s with heap := h' }) out fun h'' he' sb => ?_⟩
    have ht2 := (sb.2 _ (Nat.ne_of_gt hit)).trans ht
    rw [een, hk] at ht2
    have new : ObjOk X.prog X.w (upd H s.heap.objs.size (.tup [.ref l.1, l.2])) h'' s.heap.objs.size (.tup [.ref l.1, l.2]) :=
      ⟨by show 2 ≤ sizeLine; decide, [.ref l.1, en.val], .cons rfl (.cons hv .nil), ⟨_, ht2, rfl, _, rfl⟩⟩
    have I1 := I.turnedNew (t' := s.toks) (ch := [it]) (fun b ob hb e => (sb.2 b fun z => hb (List.mem_singleton.mpr z)).trans (hk' b ob (fun z => hb (List.mem_singleton.mpr z)) e)) hf (Nat.le_refl _) new
    refine ⟨.ref s.heap.objs.size, _, I1, rfl, ⟨_, l, hl, rfl, I.hok.fresh (Nat.le_refl _), rfl⟩, ⟨_, _, he'⟩, fun b hb => ?_⟩
    rw [List.mem_singleton.mp hb, upd_ne (Nat.ne_of_lt hit)]
    exact (hf it (List.mem_singleton.mpr rfl)).1
  done := by
    intro X e1 e2 e3 hc i pins s σ H E I hf st hg
    subst e1 e2 e3
    obtain ⟨hd, hi⟩ := hg
    have hf' := hf it (List.mem_singleton.mpr rfl)
    obtain ⟨ok, ov, he⟩ := st
    exact wpAny_pyNext_items_end_raw (I.ok.hd hc) he (rw_raw r I.hok hd) (by rw [r.len]; exact hi) fun h' eb => ⟨rfl, I.turned (t' := s.toks) (fun b ob hb e => eb b ob hb e) hf'.1 hf'.2.1 hf'.2.2.2.1 hf'.2.2.2.2.1 hf'.2.2.2.2.2⟩
  self := fun A i s Q E st h => let ⟨_, _, e⟩ := st; PySem.W.kcp_self e h
end
section
variable {X : Cx} {α : Type} [DecidableEq α] (κ : KK α) {tg e : Expr} {td : TE} {apos cpos : Pos}
def iNkeys (P : Program) (w : World) (td : TE) : TI := fun σ H R => td σ H fun x H1 => ∃ d kvs, x = .ref d ∧ ND κ P w H1 d kvs ∧ ∀ o L, H1 d = some (exO d o) → Paired (fun l (p : α × V) => κ.rl H1 (.ref l.1) p.1 ∧ l.2 = p.2) L kvs → R (ItK d o L) H1
def iNitems (P : Program) (w : World) (td : TE) : TI := fun σ H R => td σ H fun x H1 => ∃ d kvs, x = .ref d ∧ ND κ P w H1 d kvs ∧ ∀ o L, H1 d = some (exO d o) → Paired (fun l (p : α × V) => κ.rl H1 (.ref l.1) p.1 ∧ l.2 = p.2) L kvs → R (ItI d o L) H1
theorem pi_nkeys (he : PE X e td) : PI X tg e (iNkeys κ X.prog X.w td) := by
  refine ⟨fun pins s σ H R I h => ?_⟩
  refine thn (he.run pins s σ H _ I h) fun u s1 z1 => ?_
  obtain ⟨x, H1, I1, rx, d, kvs, ex, n, q⟩ := z1
  subst ex
  obtain rfl : u = Value.ref d := rx
  obtain ⟨o, L, es, ep, ed, r, pl, sys, _, _⟩ := n.raw
  exact wpAny_pyIter_dict_raw sys (rw_raw r I1.hok ed) (pi_one (tk := s1.toks) I1 _ (turn_nkeys _ r) ⟨_, Heap.get?_push_size _ rfl, rfl, rfl⟩ (q o L ed pl))
theorem pi_nitems {elts : List Expr} {kk : Nat} {tpos : Pos} (he : PE X e td) (hbase : attributeBase e "items" X.env (eval e X.env) = eval e X.env := by rfl) (hline : (apos.endLine == cpos.line) = true := by rfl) :
    PI X (.Tuple elts kk tpos) (.Call (.Attribute e "items" apos) [] [] cpos) (iNitems κ X.prog X.w td) := by
  refine ⟨fun pins s σ H R I h => ?_⟩
  refine wpAny_Call_method (T := "dict") (id := "dict.items") hbase rfl hline F.plainAttrs_dict F.slot_dict_items F.type_dict_items (thn (he.run pins s σ H _ I h) fun u s1 z1 => ?_)
  obtain ⟨x, H1, I1, rx, d, kvs, ex, n, q⟩ := z1
  subst ex
  obtain rfl : u = Value.ref d := rx
  obtain ⟨o, L, es, ep, ed, r, pl, sys, _, _⟩ := n.raw
  have dr := rw_raw r I1.hok ed
  obtain ⟨t1, ob, t2, t3⟩ := nd_typeIs κ n I1.hok
  refine ⟨t1, fun a ea => by cases ea; exact ⟨ob, t2, t3⟩, ?_⟩
  have I2 : Inv X pins σ H1 { s1 with heap := s1.heap.push { cls := .type "dict_items", data := .fields #[.ref d] } } := I1.kept (t' := s1.toks) fun b ob q => Heap.get?_push_of_some _ q
  show wpAny _ _ (callWith cpos (.builtin "dict.items") [.ref d] [] []) _ X.xe s1
  refine method_meetsIn F.slot_dict_items F.entry_dict_items rfl (PySem.evalArgs_none ⟨rfl, t1, F.args_dict_items_1 _, _, meets_dict_items_raw d sys, ⟨es, ep, dr⟩, ?_⟩)
  exact wpAny_pyIter_items_raw (d := d) ⟨_, Heap.get?_push_size _ rfl, rfl, rfl⟩ (rw_raw r I2.hok ed) (pi_one (tk := s1.toks) I2 _ (turn_nitems _ r) ⟨.none, .none, Heap.get?_push_size _ rfl⟩ (q o L ed pl))
end
/-! ### comprehensions over these: as over a list -/
section
variable {α β : Type} {d : Addr} {o : Obj} {L : List (Addr × V)} {xs : List α} {q : Rl β} {f : α → Option β} {g : TG} {tt : TT} {te : TE} {own : List Nat} {σ : L2.St} {H1 : Hp} {D : Addr} {Qd : Hp → Prop}
theorem lcK {r : Rl α} (mr : Mono r) (mq : MonoT q) (hd : H1 d = some (exO d o)) (hp : Paired (r H1) (L.map fun l => V.ref l.1) xs) (hD : H1 D = none) (hl : L.length ≤ sizeLine) (step : LcStep r q f xs g tt te own σ H1)
    (done : ∀ H ys, L2.Same H1 H → H D = some (.lst ys) → Paired (q H) ys (xs.filterMap f) → Qd H) :
    ∃ W : Nat → Nat → Hp → Prop, (∃ m, W 0 m (upd H1 D (.lst []))) ∧ ∀ i m H, W i m H →
      ((ItK d o L).stop i H ∧ Qd H) ∨ ((ItK d o L).go i H ∧ ∃ Nx : Hp → Prop, (∀ H', Nx H' → ∃ m', m' < m ∧ W (i + 1) m' H') ∧ ∀ x H', (ItK d o L).yld i H x H' → g x (wipe σ own) H' fun σ2 H2 => wipe σ2 own = wipe σ own ∧ tt σ2 H2 fun b H3 =>
        if b = true then te σ2 H3 fun y H4 => ∃ acc, H4 D = some (.lst acc) ∧ acc.length < sizeLine ∧ Nx (upd H4 D (.lst (acc ++ [y]))) else Nx H3) := by
  obtain ⟨Pv, h0, hk, ht, hdn⟩ := lc_pure_gen mr mq hp hD (by rw [List.length_map]; exact hl) step done
  refine ⟨fun i m H => m = L.length - i ∧ i ≤ L.length ∧ Pv i H, ⟨_, rfl, Nat.zero_le _, h0⟩, ?_⟩
  rintro i m H ⟨rfl, hi, p⟩
  have sm := hk i H (by rw [List.length_map]; exact hi) p
  by_cases c : i < L.length
  · refine .inr ⟨⟨sm _ _ hd, c⟩, Pv (i + 1), fun H' p' => ⟨_, by omega, rfl, c, p'⟩, fun x H' y => ?_⟩
    obtain ⟨rfl, l, hl', rfl⟩ := y
    exact ht i _ _ (by rw [List.getElem?_map, hl']; rfl) p
  · have e : i = L.length := by omega
    subst e
    exact .inl ⟨⟨sm _ _ hd, Nat.le_refl _⟩, hdn H (by rw [List.length_map]; exact p)⟩
end
end Wk

set_option Elab.async false
set_option linter.all false
set_option maxRecDepth 100000
/-! W10: dict comprehensions whose keys are tuples. -/
namespace Wk
open PySem L2 PySem.Spec PyProof.Rows
open Pz (Pt Ln)
/-- the object that {} lays -/
abbrev dict0 : Obj := { cls := .type "dict", data := .dict #[] }
section
variable {X : Cx} {α : Type} [DecidableEq α] (κ : KK α)
/-- what one turn of such a comprehension asks -/
abbrev DcTurn (P : Program) (w : World) (g : TG) (tt : TT) (tk tv : TE) (vs : List Nat) (σ : L2.St) (D : Addr) (x : V) (H' : Hp) (Nx : Hp → Prop) : Prop :=
  g x (wipe σ vs) H' fun σ2 H2 => wipe σ2 vs = wipe σ vs ∧ tt σ2 H2 fun b H3 =>
    if b = true then tk σ2 H3 fun y H4 => tv σ2 H4 fun z H5 => ∃ kvs k, ND κ P w H5 D kvs ∧ κ.rl H5 y k ∧ kvs.length < sizeLine ∧ ∀ o', ND κ P w (upd H5 D (exO D o')) D (putK kvs k z) → Nx (upd H5 D (exO D o')) else Nx H3
/-- {k: v for target in iter if ..} -/
def tDcN (P : Program) (w : World) (wi : TI) (g : TG) (tt : TT) (tk tv : TE) (vs : List Nat) : TE := fun σ H Q =>
  wi σ H fun J H1 => ∀ D, H1 D = none → (D == sysModules) = false →
    ∃ W : Nat → Nat → Hp → Prop, (∃ m, W 0 m (upd H1 D (exO D dict0))) ∧ ∀ i m H, W i m H →
      (J.stop i H ∧ Q (.ref D) H) ∨ (J.go i H ∧ ∃ Nx : Hp → Prop, (∀ H', Nx H' → ∃ m', m' < m ∧ W (i + 1) m' H') ∧ ∀ x H', J.yld i H x H' → DcTurn κ P w g tt tk tv vs σ D x H' Nx)
theorem dcN_core {pins : List (Addr × Obj)} {s : Shared} {σ : L2.St} {H : Hp} {Q : VK} {kx vx tg iter : Expr} {ifs : List Expr} {scope : Scope} {own : List (Str × Nat)} {pos pos' : Pos} {wi : TI} {g : TG} {tt : TT} {tk tv : TE}
    {use : Option (Value → Sem Unit)} {Qf : Value → Shared → Prop} (hu : X.A.units + 8 < cLine)
    (hc : X.calm = true) (hN : X.N.Nodup) (I : Inv X pins σ H s) (hi : PI X tg iter wi) (ok : BlkOk X.N X.env.scope scope own)
    (hg : ∀ (s : Shared) (H : Hp) (C : Addr) (cl : List (Str × Addr)) (fp : List Addr), PG (X.blk s H scope (compEnvC scope cl C X.env) fp) tg g)
    (ht : ∀ (s : Shared) (H : Hp) (C : Addr) (cl : List (Str × Addr)) (fp : List Addr), PTs (X.blk s H scope (compEnvC scope cl C X.env) fp) ifs tt)
    (hk : ∀ (s : Shared) (H : Hp) (C : Addr) (cl : List (Str × Addr)) (fp : List Addr), PE (X.blk s H scope (compEnvC scope cl C X.env) fp) kx tk)
    (hv : ∀ (s : Shared) (H : Hp) (C : Addr) (cl : List (Str × Addr)) (fp : List Addr), PE (X.blk s H scope (compEnvC scope cl C X.env) fp) vx tv)
    (hfold : ∀ x, foldedSetIterable iter X.env x = pure x) (h : tDcN κ X.prog X.w wi g tt tk tv (own.map (·.2)) σ H Q)
    (fin : ∀ D C s' m H', Inv X pins σ H' s' → Q (.ref D) H' → s'.heap.Ns C m → FpOk X pins H' C → compPost (model X.prog X.w) X.A X.xe use Qf (.ref D) C (.ok .next) s') :
    wpAny (model X.prog X.w) X.A (comprehension (.DictComp kx vx [⟨tg, iter, ifs, 0⟩] scope pos) scope X.env pos' newDict false (eval iter X.env) use) Qf X.xe s := by
  have closed : ∀ y ∈ scope.names, y.2 = .free → ∃ c, X.env.cells.lookup y.1 = some c := fun y hy e =>
    (ok.free y hy e).elim (fun k => I.ok.has _ (.inl k)) fun k => I.ok.has _ (.inr k)
  refine wpAny_comprehension_free (use := use) rfl hfold (closure_ok closed) ok.kind (fun y hy e => by rw [ok.uniq y hy, e]) (thn (hi.run pins s σ H _ I h) fun xv s1 hx => thn hx fun itv s2 h2 => ?_)
  obtain ⟨it, fp, tn, J, H2, rfl, I2, T, st2, f2, q⟩ := h2
  refine wpAny_newObj_type (newEnv_comp ?_)
  generalize eD : s2.heap.objs.size = D
  have freeD : H2 D = none := I2.hok.fresh (Nat.le_of_eq eD)
  have sysD : (D == sysModules) = false := beq_eq_false_iff_ne.mpr (Ne.symm (Nat.ne_of_lt (by rw [← eD]; exact I2.big)))
  obtain ⟨W, ⟨m0, w0⟩, turn⟩ := q D freeD sysD
  generalize e3 : ({ s2 with heap := s2.heap.push dict0 } : Shared) = s3
  have h3 : s3.heap = s2.heap.push dict0 := by rw [← e3]
  have atD : s3.heap.get? D = some dict0 := by rw [h3, ← eD]; exact Heap.get?_push_size _ rfl
  have I3 : Inv X pins σ (upd H2 D (exO D dict0)) s3 := by
    have := I2.laid (a := D) (o := exO D dict0) (h' := s2.heap.push dict0) (t' := s2.toks) (fun b o e => Heap.get?_push_of_some _ e) (Nat.le_of_eq eD) (exO_ok (by rw [← h3]; exact atD))
    rw [← e3]
    exact this
  have low : ∀ b ∈ fp, b < s2.heap.objs.size := fun b hb => let ⟨_, e, _⟩ := T.obj _ _ st2 b hb; Heap.lt_size e
  have f3 : ∀ b ∈ fp, FpOk X pins (upd H2 D (exO D dict0)) b ∧ b < s3.heap.objs.size := fun b hb => by
    have lt := low b hb
    have ne : b ≠ D := by rw [← eD]; exact Nat.ne_of_lt lt
    refine ⟨⟨by rw [upd_ne ne]; exact (f2 b hb).1, (f2 b hb).2⟩, ?_⟩
    rw [h3, Heap.size_push]
    exact Nat.lt_succ_of_lt lt
  have st3 : tn 0 s3.heap := T.keep _ _ _ st2 fun b _ o e => by rw [h3]; exact Heap.get?_push_of_some _ e
  have I4 := block_start I3 ok hN f3
  generalize ecl : cellsFrom (s3.heap.objs.size + 1) scope.names (cloFrom X.env.cells scope.names []) = cl at I4
  have pg := hg s3 (upd H2 D (exO D dict0)) s3.heap.objs.size cl fp
  have pt := ht s3 (upd H2 D (exO D dict0)) s3.heap.objs.size cl fp
  have pk := hk s3 (upd H2 D (exO D dict0)) s3.heap.objs.size cl fp
  have pv := hv s3 (upd H2 D (exO D dict0)) s3.heap.objs.size cl fp
  show codeAny _ _ (.compStart (.DictComp kx vx [⟨tg, iter, ifs, 0⟩] scope pos) 0 (.ref it) (.ref D) (compEnvC scope cl s3.heap.objs.size X.env))
    (compPost (model X.prog X.w) X.A X.xe use Qf (.ref D) s3.heap.objs.size) { s3 with heap := pushCells (s3.heap.push dict0) scope.names }
  have nfp : ∀ b ∈ fp, (upd H2 D (exO D dict0)) b = none := fun b hb => (f3 b hb).1.1
  generalize ece : compEnvC scope cl s3.heap.objs.size X.env = ce at I4 pg pt pk pv ⊢
  have cL : ce.locals = s3.heap.objs.size := by rw [← ece]; rfl
  generalize eH : upd H2 D (exO D dict0) = H3 at I3 I4 pg pt pk pv w0 nfp f3
  generalize e4 : ({ s3 with heap := pushCells (s3.heap.push dict0) scope.names } : Shared) = s4 at I4 ⊢
  have st4 : tn 0 s4.heap := T.keep _ _ _ st3 fun b _ o e => by rw [← e4]; exact pushCells_keeps _ _ _ _ (Heap.get?_push_of_some _ e)
  have stat : ∀ {σ' : L2.St} {H' : Hp} {s' : Shared}, Inv (X.blk s3 H3 scope ce fp) [] σ' H' s' → (∀ b ∈ fp, H' b = none) → ∀ b ∈ fp, FpOk (X.blk s3 H3 scope ce fp) [] H' b := fun {σ' H' s'} I' hn b hb =>
    ⟨hn b hb, (I'.ok.exf b hb).1, I'.ok.exfs b hb, .inl hb, fun x c e => (I'.ok.exf b hb).2 x c e, fun p hp => nomatch (show p ∈ ([] : List (Addr × Obj)) from hp)⟩
  have loop : codeAny (model X.prog X.w) X.A (.compLoop (.DictComp kx vx [⟨tg, iter, ifs, 0⟩] scope pos) 0 (.ref it) (.ref D) ce) (compPost (model X.prog X.w) X.A X.xe use Qf (.ref D) s3.heap.objs.size) s4 := by
    refine compLoop_anyD (fun n s' => ∃ i H', Inv (X.blk s3 H3 scope ce fp) [] (wipe σ (own.map (·.2))) H' s' ∧ tn i s'.heap ∧ (∀ b ∈ fp, H' b = none) ∧ W i n H') ?_ m0 ⟨0, H3, I4, st4, nfp, w0⟩
    rintro n s5 ⟨i, H5, I5, st5, n5, w5⟩
    rcases turn i n H5 w5 with ⟨stop, qq⟩ | ⟨go, Nx, hNx, step⟩
    · refine thnF (T.done (X.blk s3 H3 scope ce fp) rfl rfl rfl hc i [] s5 _ H5 (fun _ _ => False) I5 (stat I5 n5) st5 stop) fun r s6 z6 => ?_
      obtain ⟨rfl, I6⟩ := z6
      have I7 : Inv X pins σ H5 s6 := I3.call' (ch := fp) I6.os I6.base I6.hok I6.bare fun b hb => by
        have z := (f3 b hb).1
        exact ⟨z.2.2.2.1, z.2.1, z.2.2.2.2.1, z.2.2.2.2.2⟩
      have nC : H5 s3.heap.objs.size = none := by rw [← cL]; exact I6.free
      obtain ⟨m, hn, _⟩ := I6.loc
      have hn : s6.heap.Ns ce.locals m := hn
      rw [cL] at hn
      exact fin D s3.heap.objs.size s6 m H5 I7 qq hn (I3.fpOk (Nat.le_refl _) nC)
    · refine thnF (T.item (X.blk s3 H3 scope ce fp) rfl rfl rfl hc i [] s5 _ H5 (fun _ _ => False) I5 (stat I5 n5) st5 go) fun r s6 z6 => ?_
      obtain ⟨u, rfl, h6⟩ := z6
      refine thnF h6 fun _ s7 z7 => ?_
      obtain ⟨x, H7, I7, r7, y7, st7, n7⟩ := z7
      refine thnF (pg.run _ s7 _ H7 x u _ (I7.pinned (stat I7 n7) (T.obj _ _ st7)) r7 (step x H7 y7)) fun _ s8 z8 => ?_
      obtain ⟨σ8, H8, I8, hw8, q8⟩ := z8
      refine thnF (pt.run _ s8 σ8 H8 _ I8 q8) fun b s9 z9 => ?_
      obtain ⟨H9, I9, q9⟩ := z9
      have back : ∀ {s' : Shared} {H' : Hp}, Inv (X.blk s3 H3 scope ce fp) ([] ++ pinsAt fp s7.heap) σ8 H' s' → Nx H' →
          ∃ m, m < n ∧ ∃ i H', Inv (X.blk s3 H3 scope ce fp) [] (wipe σ (own.map (·.2))) H' s' ∧ tn i s'.heap ∧ (∀ b ∈ fp, H' b = none) ∧ W i m H' := fun {s' H'} I' nx => by
        obtain ⟨m', hm, w'⟩ := hNx H' nx
        have pin' : ∀ b ∈ fp, ∀ o, s7.heap.get? b = some o → s'.heap.get? b = some o ∧ H' b = none := fun b hb o e => by
          have z := I'.pin (b, o) (List.mem_append_right _ (List.mem_append_right _ (mem_pinsAt hb e)))
          exact ⟨z.1, z.2.1⟩
        refine ⟨m', hm, i + 1, H', (I'.unpinned (pins := [])).weak (by rw [← hw8, wipe_length]) (fun j v e => ?_), T.keep _ _ _ st7 fun b hb o e => (pin' b hb o e).1, fun b hb => ?_, w'⟩
        · rw [← hw8] at e
          exact (wipe_some e).1
        · obtain ⟨o, e, _⟩ := T.obj _ _ st7 b hb
          exact (pin' b hb o e).2
      cases b with
      | false =>
        rw [if_neg (by decide)] at q9 ⊢
        exact back I9 q9
      | true =>
        rw [if_pos rfl] at q9 ⊢
        refine thnF (pk.run _ s9 σ8 H9 _ I9 q9) fun z s10 z10 => ?_
        obtain ⟨yk, H10, I10, r10, q10⟩ := z10
        refine thnF (pv.run _ s10 σ8 H10 _ I10 q10) fun z' s11 z11 => ?_
        obtain ⟨yv, H11, I11, r11, kvs, k, nD, hk', hz', nx⟩ := z11
        exact nd_dset (X := X.blk s3 H3 scope ce fp) hu I11 nD hk' r10 r11 hz' fun o' s12 I12 n12 => back I12 (nx o' n12)
  exact codeAny_compStart_dict loop (T.self X.A 0 _ _ _ st4 loop)
variable {kx vx tg iter : Expr} {ifs : List Expr} {scope : Scope} {own : List (Str × Nat)} {pos spos py : Pos} {wi : TI} {g : TG} {tt : TT} {tk tv : TE} {i : Nat} {y : Str}
/-- as a value -/
theorem pe_dcN (hu : X.A.units + 8 < cLine) (hc : X.calm = true) (hN : X.N.Nodup) (hi : PI X tg iter wi) (ok : BlkOk X.N X.env.scope scope own)
    (hg : ∀ (s : Shared) (H : Hp) (C : Addr) (cl : List (Str × Addr)) (fp : List Addr), PG (X.blk s H scope (compEnvC scope cl C X.env) fp) tg g)
    (ht : ∀ (s : Shared) (H : Hp) (C : Addr) (cl : List (Str × Addr)) (fp : List Addr), PTs (X.blk s H scope (compEnvC scope cl C X.env) fp) ifs tt)
    (hk : ∀ (s : Shared) (H : Hp) (C : Addr) (cl : List (Str × Addr)) (fp : List Addr), PE (X.blk s H scope (compEnvC scope cl C X.env) fp) kx tk)
    (hv : ∀ (s : Shared) (H : Hp) (C : Addr) (cl : List (Str × Addr)) (fp : List Addr), PE (X.blk s H scope (compEnvC scope cl C X.env) fp) vx tv) (hs : ∀ x, foldedSetIterable iter X.env x = pure x := by intro _; rfl) :
    PE X (.DictComp kx vx [⟨tg, iter, ifs, 0⟩] scope pos) (tDcN κ X.prog X.w wi g tt tk tv (own.map (·.2))) := by
  refine ⟨fun pins s σ H Q I h => ?_⟩
  rw [arm_eval_DictComp]
  refine dcN_core κ hu hc hN I hi ok hg ht hk hv hs h fun D C s' m H' I' q hn f => ⟨m, hn, fun h'' sb => ?_⟩
  exact ⟨.ref D, H', I'.turned (t' := s'.toks) (fun b o hb e => (sb.2 b hb).trans e) f.1 f.2.1 f.2.2.2.1 f.2.2.2.2.1 f.2.2.2.2.2, rfl, q⟩
/-- name = {..}, the name a local -/
theorem ps_setDcN (hu : X.A.units + 8 < cLine) (hc : X.calm = true) (hN : X.N.Nodup) (hy : X.N[i]? = some y) (hyl : X.env.scope.names.lookup y = some .local)
    (hsw : swapsWith (.DictComp kx vx [⟨tg, iter, ifs, 0⟩] scope pos) (some (.Name y py)) spos.line X.env = pure true) (hi : PI X tg iter wi) (ok : BlkOk X.N X.env.scope scope own)
    (hg : ∀ (s : Shared) (H : Hp) (C : Addr) (cl : List (Str × Addr)) (fp : List Addr), PG (X.blk s H scope (compEnvC scope cl C X.env) fp) tg g)
    (ht : ∀ (s : Shared) (H : Hp) (C : Addr) (cl : List (Str × Addr)) (fp : List Addr), PTs (X.blk s H scope (compEnvC scope cl C X.env) fp) ifs tt)
    (hk : ∀ (s : Shared) (H : Hp) (C : Addr) (cl : List (Str × Addr)) (fp : List Addr), PE (X.blk s H scope (compEnvC scope cl C X.env) fp) kx tk)
    (hv : ∀ (s : Shared) (H : Hp) (C : Addr) (cl : List (Str × Addr)) (fp : List Addr), PE (X.blk s H scope (compEnvC scope cl C X.env) fp) vx tv) (hs : ∀ x, foldedSetIterable iter X.env x = pure x := by intro _; rfl) :
    PS X (.Assign [.Name y py] (.DictComp kx vx [⟨tg, iter, ifs, 0⟩] scope pos) spos) (tAsg (tDcN κ X.prog X.w wi g tt tk tv (own.map (·.2))) (gName i)) := by
  refine ⟨fun pins s σ H D I h => ?_⟩
  rw [exec_Assign_Name_used _ _ _ _ hsw]
  refine wpAny_bind (wpAny_standAt (wpAny_bind ?_))
  show wpAny _ X.A (do let _ ← comprehension (.DictComp kx vx [⟨tg, iter, ifs, 0⟩] scope pos) scope X.env (firstIterPos [⟨tg, iter, ifs, 0⟩] pos) newDict false (eval iter X.env) (some (assign (.Name y py) X.env))) _ _ s
  have h' : tDcN κ X.prog X.w wi g tt tk tv (own.map (·.2)) σ H (fun x H1 => gName i x σ H1 D.nx) := h
  refine wpAny_bind (thn (dcN_core (Qf := fun _ s' => SP X pins D .next s') κ hu hc hN I hi ok hg ht hk hv hs h' fun L C s' m H' I' q hn f => ?_) fun _ s' hq => wpAny_pure (wpAny_pure hq))
  show wpAny _ _ (assign (.Name y py) X.env (.ref L)) _ _ _
  refine wpAny_assign_Name (store_ok2 (v := V.ref L) I' hN hy (.inl hyl) rfl (fun s2 I2 z => ?_) (.inr hyl))
  obtain ⟨a, sb, ha⟩ := z
  have ne : C ≠ a := ha.elim (fun z => by rw [z]; exact f.2.1) fun z e => f.2.2.2.2.1 y a z e.symm
  exact ⟨m, hn.sameBut sb ne, fun h3 sb3 => ⟨_, H', I2.turned (t' := s2.toks) (fun b o hb e => (sb3.2 b hb).trans e) f.1 f.2.1 f.2.2.2.1 f.2.2.2.2.1 f.2.2.2.2.2, q⟩⟩
theorem swD {gs : List Comprehension} {l : Nat} {env : Env} (hk : env.scope.kind = .function) (hy : env.scope.names.lookup y = some .local) (hl : (py.line == pos.line) = true)
    (ha : (scope.names.any fun (n, k) => n == y && (k == .local || k == .cell)) = false) : swapsWith (.DictComp kx vx gs scope pos) (some (.Name y py)) l env = pure true := by
  have k1 : env.kindOf y = some .local := hy
  have k2 : env.blockKind = .function := by unfold Env.blockKind; rw [hk]; rfl
  unfold swapsWith
  simp only [k2, k1, ha, Expr.pos, hl]
  rfl
end
/-! ### a comprehension over a list whose keys and values are pure -/
section
variable {α β : Type} [DecidableEq β] {κ : KK β} {P : Program} {w : World} {K : PySem.W.Frag} {a : Addr} {vs : List V} {xs : List α} {r : Rl α} {f : α → β} {g : TG} {tk tv : TE} {own : List Nat} {σ : L2.St} {H1 : Hp} {D : Addr} {Qd : Hp → Prop}
/-- one turn: the key f x, a value of which q holds -/
abbrev DcStep (κ : KK β) (r : Rl α) (q : Hp → V → α → Prop) (f : α → β) (xs : List α) (g : TG) (tk tv : TE) (own : List Nat) (σ : L2.St) (H1 : Hp) : Prop :=
  ∀ v x H (C : V → V → Hp → Prop), x ∈ xs → L2.Same H1 H → r H v x → (∀ y z H4, L2.Same H H4 → κ.rl H4 y (f x) → q H4 z x → C y z H4) →
    g v (wipe σ own) H fun σ2 H2 => wipe σ2 own = wipe σ own ∧ tk σ2 H2 fun y H3 => tv σ2 H3 fun z H4 => C y z H4
theorem tup_exO {H : Hp} {d : Addr} {o o' : Obj} (h : H d = some (exO d o)) : TupSame H (upd H d (exO d o')) := fun b ys e => by
  rw [upd_ne (ne_of e h (by intro z; cases z))]; exact e
theorem valV_put' {kvs : List (β × V)} {k j : β} {y : V} : valV (putK kvs k y) j = if j = k then some y else valV kvs j := valV_put kvs k j y
theorem dc_pure_gen {q : Hp → V → α → Prop} (mq : ∀ H H' v x, TupSame H H' → q H v x → q H' v x) (mr : Mono r) (hp : Paired (r H1) vs xs) (hD : H1 D = none) (sys : (D == sysModules) = false) (hl : vs.length ≤ sizeLine)
    (step : DcStep κ r q f xs g tk tv own σ H1)
    (done : ∀ H kvs, L2.Same H1 H → ND κ P w H D kvs → (∀ p ∈ kvs, ∃ x ∈ xs, p.1 = f x ∧ q H p.2 x) → (∀ x ∈ xs, f x ∈ kvs.map (·.1)) → Qd H) :
    ∃ Pv : Nat → Hp → Prop, Pv 0 (upd H1 D (exO D dict0)) ∧ (∀ i H, i ≤ vs.length → Pv i H → L2.Same H1 H) ∧
      (∀ i x H (Nx : Hp → Prop), vs[i]? = some x → Pv i H → (∀ H', Pv (i + 1) H' → Nx H') → DcTurn κ P w g tYes tk tv own σ D x H Nx) ∧ ∀ H, Pv vs.length H → Qd H := by
  have hlen := Paired.len hp
  refine ⟨fun i H => L2.Same H1 H ∧ ∃ kvs, ND κ P w H D kvs ∧ kvs.length ≤ i ∧ (∀ p ∈ kvs, ∃ x ∈ xs.take i, p.1 = f x ∧ q H p.2 x) ∧ ∀ x ∈ xs.take i, f x ∈ kvs.map (·.1),
    ⟨same_new hD, [], ⟨_, _, nd_new κ sys⟩, Nat.le_refl _, fun _ z => (nomatch z), fun x m => by simp at m⟩, fun i H _ h => h.1, fun i v H Nx hv hP hn => ?_, fun H hP => ?_⟩
  · obtain ⟨sm, kvs, nd, ln, ka, kb⟩ := hP
    obtain ⟨x, hx, rx⟩ := Paired.get hp hv
    have hi : i < vs.length := (List.getElem?_eq_some_iff.mp hv).1
    have tk1 : xs.take (i + 1) = xs.take i ++ [x] := by rw [List.take_add_one, hx]; rfl
    refine step v x H (fun y z H5 => ∃ kvs k, ND κ P w H5 D kvs ∧ κ.rl H5 y k ∧ kvs.length < sizeLine ∧ ∀ o', ND κ P w (upd H5 D (exO D o')) D (putK kvs k z) → Nx (upd H5 D (exO D o'))) (List.mem_of_getElem? hx) sm (mr _ _ _ _ sm rx) fun y z H4 s4 ky qz => ?_
    have nd4 := nd.same s4
    refine ⟨kvs, f x, nd4, ky, by omega, fun o' n' => hn _ ⟨same_at (sm.trans s4) hD, _, n', ?_, fun p hp' => ?_, fun x' hx' => ?_⟩⟩
    · have := length_putK kvs (f x) z
      omega
    · have ts4 : TupSame H H4 := fun b ys e => s4 b _ e
      obtain ⟨ob, xs0, n0⟩ := nd4
      have ts : TupSame H4 (upd H4 D (exO D o')) := tup_exO n0.at_
      rw [tk1]
      unfold putK at hp'
      split at hp'
      · obtain ⟨p0, m0, e0⟩ := List.mem_map.mp hp'
        split at e0
        · rename_i ek
          refine ⟨x, by simp, by rw [← e0]; exact ek, by rw [← e0]; exact mq _ _ _ _ ts qz⟩
        · obtain ⟨x0, m1, e1, e2⟩ := ka p0 m0
          exact ⟨x0, List.mem_append_left _ m1, by rw [← e0]; exact e1, by rw [← e0]; exact mq _ _ _ _ ts (mq _ _ _ _ ts4 e2)⟩
      · rcases List.mem_append.mp hp' with m0 | m0
        · obtain ⟨x0, m1, e1, e2⟩ := ka p m0
          exact ⟨x0, List.mem_append_left _ m1, e1, mq _ _ _ _ ts (mq _ _ _ _ ts4 e2)⟩
        · rw [List.mem_singleton.mp m0]
          exact ⟨x, by simp, rfl, mq _ _ _ _ ts qz⟩
    · rw [tk1] at hx'
      have key : ∀ k : β, k ∈ kvs.map (·.1) ∨ k = f x → k ∈ (putK kvs (f x) z).map (·.1) := fun k hk => by
        have e : (valV (putK kvs (f x) z) k).isSome = true := by
          rw [valV_put']
          split
          · rfl
          · rename_i n
            have m := hk.resolve_right n
            obtain ⟨p, mp, ep⟩ := List.mem_map.mp m
            rw [← valV_any]
            exact List.any_eq_true.mpr ⟨p, mp, decide_eq_true ep⟩
        obtain ⟨u, hu⟩ := Option.isSome_iff_exists.mp e
        exact valV_in hu
      rcases List.mem_append.mp hx' with m | m
      · exact key _ (.inl (kb x' m))
      · exact key _ (.inr (by rw [List.mem_singleton.mp m]))
  · obtain ⟨sm, kvs, nd, _, ka, kb⟩ := hP
    rw [hlen, List.take_length] at ka kb
    exact done H kvs sm nd ka kb
end
end Wk

set_option Elab.async false
set_option linter.all false
set_option maxRecDepth 100000
/-! W11: sorted of pairs (a pair of ints, a place). -/
namespace Wk
open PySem L2 PySem.Spec PyProof.Rows
open Pz (Pt Ln)
/-- a tuple of ints, in a heap of the model -/
def TI (h : Heap) (a : Addr) (ns : List Int) : Prop := ∃ items, IsTup h a items ∧ IntsAre items.toList ns
/-- an item: ((kx, ky), (x, y, d)) -/
def It2 (h : Heap) (v : Value) (k : Int × Int) (p : Pt) : Prop := ∃ a o n b c, v = .ref a ∧ h.get? a = some o ∧ o.cls = .type "tuple" ∧ o.data = .seq #[.ref b, .ref c] n ∧ TI h b [k.1, k.2] ∧ TI h c [p.x, p.y, p.d]
theorem TI.keeps {h h' : Heap} {a : Addr} {ns : List Int} (x : TI h a ns) (k : ∀ b o, h.get? b = some o → o.cls = .type "tuple" → h'.get? b = some o) : TI h' a ns := by
  obtain ⟨its, ⟨o, e, c, r⟩, i⟩ := x
  exact ⟨its, ⟨o, k _ _ e c, c, r⟩, i⟩
theorem It2.keeps {h h' : Heap} {v : Value} {k : Int × Int} {p : Pt} (x : It2 h v k p) (kk : ∀ b o, h.get? b = some o → o.cls = .type "tuple" → h'.get? b = some o) : It2 h' v k p := by
  obtain ⟨a, o, n, b, c, e, e1, e2, e3, t1, t2⟩ := x
  exact ⟨a, o, n, b, c, e, kk _ _ e1 e2, e2, e3, t1.keeps kk, t2.keeps kk⟩
theorem intsKey {prog : Program} {w : World} : ∀ {ns : List Int} {us : List Value}, IntsAre us ns → ItemsAre (intKind prog w) ns us
  | [], _, .nil => .nil
  | _ :: _, _, .cons _ _ t => .cons (intKind_is _ _ _ _) (intsKey t)
theorem TI.key {prog : Program} {w : World} {h : Heap} {a : Addr} {ns : List Int} (x : TI h a ns) : IsTupleKey (intKind prog w) h ns a := by
  obtain ⟨its, ⟨o, e, c, n, d⟩, i⟩ := x
  exact ⟨o, its, n, e, c, d, intsKey i⟩
section
variable {prog : Program} {w : World} {A : Around} {s : Shared}
theorem it2_cmp {vs : List Value} {k : Value → Int × Int} {pt : Value → Pt} (hu : A.units < cLine) (hp : ∀ v ∈ vs, It2 s.heap v (k v) (pt v)) (hd : ∀ v ∈ vs, ∀ u ∈ vs, k v = k u → pt v = pt u) :
    SrtO.Cmp prog w A s (tuples' false) (fun p => p.1 ∈ vs) (SrtO.lt2 fun v u => SrtO.lexB (k v) (k u)) := by
  intro p q hm hm'
  obtain ⟨a, o, n, b, c, e, e1, e2, e3, t1, t2⟩ := hp _ hm
  obtain ⟨a', o', n', b', c', e', e1', e2', e3', t1', t2'⟩ := hp _ hm'
  have hd := hd _ hm _ hm'
  show wpAny (model prog w) A (keyLt' (tuples' false) p.1 q.1) (fun r s' => s' = s ∧ r = SrtO.lexB (k p.1) (k q.1)) (fun _ _ => False) s
  generalize k p.1 = kp at *
  generalize k q.1 = kq at *
  generalize pt p.1 = pp at *
  generalize pt q.1 = pq at *
  rw [e, e']
  refine PySem.W.kat_lt e1 e3 e1' e3' ?_
  show PySem.W.KatLex prog w A false (decide (2 < 2)) _ [(.ref b, .ref b'), (.ref c, .ref c')] 0 s
  refine PySem.W.kat_cons (wpAny_eqBool_tuple (knd := intKind prog w) hu t1.key t1'.key ?_)
  by_cases h1 : ([kp.1, kp.2] : List Int) = [kq.1, kq.2]
  · have ek : kp = kq := by
      injection h1 with x1 x2
      injection x2 with x2 _
      exact Prod.ext x1 x2
    have ep := hd ek
    rw [decide_eq_true h1]
    refine PySem.W.kat_yes (PySem.W.kat_cons (wpAny_eqBool_tuple (knd := intKind prog w) hu t2.key t2'.key ?_))
    rw [decide_eq_true (show ([pp.x, pp.y, pp.d] : List Int) = [pq.x, pq.y, pq.d] by rw [ep])]
    refine PySem.W.kat_yes (PySem.W.kat_nil ⟨rfl, ?_⟩)
    rw [ek]
    refine (SrtO.lexB_no.mpr ?_).symm
    omega
  · rw [decide_eq_false h1]
    refine PySem.W.kat_no (PySem.W.kat_one _ _ ?_)
    obtain ⟨its, tp, ia⟩ := t1
    obtain ⟨its', tp', ia'⟩ := t1'
    refine HT.lt_tupInts tp tp' ia ia' hu ?_
    show s = s ∧ HT.lexLt [kp.1, kp.2] [kq.1, kq.2] = SrtO.lexB kp kq
    refine ⟨rfl, ?_⟩
    simp only [HT.lexLt, SrtO.lexB]
    by_cases x1 : kp.1 = kq.1
    · rw [if_pos x1, if_pos x1]
      by_cases x2 : kp.2 = kq.2
      · exact absurd (by rw [x1, x2]) h1
      · rw [if_neg x2]
    · rw [if_neg x1, if_neg x1]
theorem it2_firsts {h : Heap} {k : Value → Int × Int} {pt : Value → Pt} : ∀ {vs : List Value}, (∀ v ∈ vs, It2 h v (k v) (pt v)) → ∃ fs : List Value, PySem.W.KatTups h vs fs ∧ fs.length = vs.length ∧ ∀ f ∈ fs, ∃ b o, f = Value.ref b ∧ h.get? b = some o ∧ o.cls = .type "tuple"
  | [], _ => ⟨[], PySem.W.KatTups.nil, rfl, fun _ hm => (nomatch hm)⟩
  | v :: vs, hp => by
    obtain ⟨fs, h1, h2, h3⟩ := it2_firsts (vs := vs) fun v' hm => hp v' (List.mem_cons_of_mem _ hm)
    obtain ⟨a, o, n, b, c, e, e1, e2, e3, ⟨its, ⟨ob, f1, f2, _⟩, _⟩, _⟩ := hp v (List.mem_cons_self ..)
    subst e
    refine ⟨.ref b :: fs, PySem.W.KatTups.cons e1 e2 e3 rfl h1, by rw [List.length_cons, List.length_cons, h2], fun f hm => ?_⟩
    rcases List.mem_cons.mp hm with rfl | hm
    · exact ⟨b, ob, rfl, f1, f2⟩
    · exact h3 f hm
theorem it2_sortable {a : Addr} {vs : List Value} {k : Value → Int × Int} {pt : Value → Pt} (hu : A.units < cLine) (h0 : 0 < vs.length) (hp : ∀ v ∈ vs, It2 s.heap v (k v) (pt v)) (hd : ∀ v ∈ vs, ∀ u ∈ vs, k v = k u → pt v = pt u)
    (ha : ∀ o, s.heap.get? a = some o → o.cls ≠ .type "tuple") : SrtO.SortableO prog w A s a vs fun v u => SrtO.lexB (k v) (k u) := by
  intro h' keep
  have hp' : ∀ v ∈ vs, It2 h' v (k v) (pt v) := fun v hm => (hp v hm).keeps fun b o e c => keep b o (fun z => by subst z; exact ha o e c) e
  obtain ⟨fs, h1, h2, h3⟩ := it2_firsts hp'
  refine ⟨tuples' false, fun Q E hq => ?_, it2_cmp hu hp' hd⟩
  refine PySem.W.kat_kind (T := .type "tuple") h1 (by omega) (fun f hm => ?_) (by rfl) ?_
  · obtain ⟨b, o, rfl, f1, f2⟩ := h3 f hm
    rw [← f2]
    exact (PySem.W.Looks.ld f1).andThen .now
  · have e : (Value.type "tuple" != Value.type "tuple") = false := by first | decide +kernel | rfl | decide
    rw [e]
    exact hq
/-- sorted(l) of such items -/
theorem sorted_it2 {E : Value → Shared → Prop} {l : Addr} {vs : List Value} {k : Value → Int × Int} {pt : Value → Pt} {Q : Value → Shared → Prop} (hu : A.units + 2 < cLine) (hl : s.heap.IsList l vs.toArray) (hz : vs.length ≤ sizeLine) (hp : ∀ v ∈ vs, It2 s.heap v (k v) (pt v))
    (hd : ∀ v ∈ vs, ∀ u ∈ vs, k v = k u → pt v = pt u)
    (h : ∀ (h' : Heap) (d : Addr) (out : List Value), SrtO.Srtd (fun v u => SrtO.lexB (k v) (k u)) out → out.Perm vs → (∀ b o, s.heap.get? b = some o → h'.get? b = some o) → s.heap.objs.size ≤ d →
      (∃ n, h'.get? d = some (seqObj "list" out.toArray n)) → Q (.ref d) { s with heap := h' }) :
    wpAny (model prog w) A (call (.builtin "sorted") [.ref l]) Q E s := by
  refine SrtO.sorted_ord (SrtO.swo_lex k) hl hz (fun h2 h₁ a ha kk => ?_) fun out hs hb => ?_
  · refine it2_sortable (s := { s with heap := h₁ }) (pt := pt) (show A.units + 1 + 1 < cLine by omega) (by omega) (fun v hm => (hp v hm).keeps fun b o e _ => (kk b o e).2) hd fun o e => ?_
    have e' : some o = some (seqObj "list" vs.toArray 0) := e.symm.trans ha
    cases e'
    intro c
    exact absurd (Value.type.inj c) (by decide)
  · exact h _ _ out hs hb.perm (fun b o e => sortedAll_old e) (Nat.le_succ _) (sortedAll_at s.heap vs out.toArray)
end
/-- an item as it is tracked -/
def rIt : Rl ((Int × Int) × Pt) := rPr rU rP
section
variable {X : Cx}
theorem ti_of {P : Program} {w : World} {H : Hp} {h : Heap} {a : Addr} {ns : List Int} (ok : HOk P w H h) (e : H a = some (.tup (ns.map V.int))) : TI h a ns := by
  obtain ⟨_, its, rv, p⟩ := (show ObjOk P w H h a (.tup (ns.map V.int)) from ok a _ e)
  exact ⟨_, p, by simpa using intsAre_of rv⟩
/-- sorted(xs): a new list, its items those of xs, sorted by their first parts -/
def rSort (K : PySem.W.Frag) : List V → Hp → VK → Prop := fun vs H Q => ∃ (a : Addr) (xs : List V) (ks : List ((Int × Int) × Pt)), vs = [V.ref a] ∧ SqL K H a xs ∧ Paired (rIt H) xs ks ∧ (∀ x ∈ ks, ∀ y ∈ ks, x.1 = y.1 → x = y) ∧
  ∀ (ys : List V) (ls : List ((Int × Int) × Pt)) p, ls.Perm ks → ls.Pairwise (fun x y => SrtO.lexB y.1 x.1 = false) → Paired (rIt H) ys ls → H p = none → Q (.ref p) (upd H p (.lst ys))
end
theorem paired_mem {α β : Type} {F : α → β → Prop} {xs : List α} {ys : List β} (h : Paired F xs ys) : ∀ x ∈ xs, ∃ y ∈ ys, F x y := by
  induction h with
  | nil => exact fun _ z => nomatch z
  | cons r _ ih =>
    intro x m
    rcases List.mem_cons.mp m with e | m
    · rw [e]; exact ⟨_, List.mem_cons_self, r⟩
    · obtain ⟨y, my, q⟩ := ih x m
      exact ⟨y, List.mem_cons_of_mem _ my, q⟩
theorem rIt_inj {H : Hp} {v : V} {x y : (Int × Int) × Pt} (h1 : rIt H v x) (h2 : rIt H v y) : x = y := by
  obtain ⟨a, u, w, rfl, e, ⟨b, rfl, eb⟩, ⟨c, rfl, ec⟩⟩ := h1
  obtain ⟨a', u', w', e1, e', ⟨b', e2, eb'⟩, ⟨c', e3, ec'⟩⟩ := h2
  cases e1
  rw [e] at e'
  have e' := Option.some.inj e'
  injection e' with e'
  injection e' with f1 f2
  injection f2 with f2 _
  subst f1; subst f2
  cases e2; cases e3
  rw [eb] at eb'
  rw [ec] at ec'
  have eb' := Option.some.inj eb'
  have ec' := Option.some.inj ec'
  injection eb' with g
  injection ec' with g'
  injection g with g1 g2
  injection g2 with g2 _
  injection g' with g3 g4
  injection g4 with g4 g5
  injection g5 with g5 _
  injection g1 with g1; injection g2 with g2; injection g3 with g3; injection g4 with g4; injection g5 with g5
  obtain ⟨⟨x1, x2⟩, ⟨x3, x4, x5⟩⟩ := x
  obtain ⟨⟨y1, y2⟩, ⟨y3, y4, y5⟩⟩ := y
  simp_all
open Classical in
/-- what an item stands for -/
noncomputable def itOf (H : Hp) (v : V) : (Int × Int) × Pt := if h : ∃ x, rIt H v x then Classical.choose h else ((0, 0), ⟨0, 0, 0⟩)
theorem itOf_eq {H : Hp} {v : V} {x : (Int × Int) × Pt} (h : rIt H v x) : itOf H v = x := by
  have ex : ∃ x, rIt H v x := ⟨x, h⟩
  unfold itOf
  rw [dif_pos ex]
  exact rIt_inj (Classical.choose_spec ex) h
theorem paired_map {α β : Type} {F : α → β → Prop} {f : α → β} : ∀ {xs : List α} {ys : List β}, Paired F xs ys → (∀ x y, F x y → f x = y) → ys = xs.map f
  | _, _, .nil, _ => rfl
  | _, _, .cons r t, h => by rw [List.map_cons, h _ _ r, paired_map t h]
theorem paired_of_map {α β : Type} {F : α → β → Prop} {f : α → β} : ∀ {xs : List α}, (∀ x ∈ xs, F x (f x)) → Paired F xs (xs.map f)
  | [], _ => .nil
  | x :: xs, h => .cons (h x List.mem_cons_self) (paired_of_map fun y m => h y (List.mem_cons_of_mem _ m))
theorem cr_sort {X : Cx} (hu : X.A.units + 2 < cLine) : CallR X (.builtin "sorted") (rSort X.K) := by
  intro pins s σ H vs us Q I r h
  obtain ⟨a, xs, ks, rfl, hs, pk, dk, q⟩ := h
  obtain ⟨its, rv, hl, hz⟩ := I.list hs
  obtain ⟨u, rfl, ru⟩ := vals1 r
  obtain rfl : u = Value.ref a := ru
  have ek : ks = xs.map (itOf H) := paired_map pk fun _ _ => itOf_eq
  have isr : ∀ x ∈ xs, rIt H x (itOf H x) := fun x m => by
    obtain ⟨y, _, q⟩ := paired_mem pk x m
    rw [itOf_eq q]; exact q
  obtain ⟨e1, e2⟩ := refs_back rv fun x m => by
    obtain ⟨t, _, _, e, _⟩ := isr x m
    exact ⟨t, e⟩
  have bk : ∀ v ∈ its, backV v ∈ xs := fun v m => by rw [e1]; exact List.mem_map.mpr ⟨v, m, rfl⟩
  refine sorted_it2 (k := fun u => (itOf H (backV u)).1) (pt := fun u => (itOf H (backV u)).2) hu hl.isList (by rw [← rv.length]; exact hz) (fun v hv => ?_) (fun v hv u hu' e => ?_) fun h' d out h1 h2 kp hd hn => ?_
  · obtain ⟨t, rfl⟩ := e2 v hv
    obtain ⟨t', b', c', e, ht, ⟨b, rfl, eb⟩, ⟨c, rfl, ec⟩⟩ := isr _ (bk _ hv)
    cases e
    obtain ⟨_, its2, r2, o, ho, hc, n, hd⟩ := I.hok _ _ ht
    obtain ⟨u1, u2, rfl, ri, rj⟩ := vals2 r2
    cases ri; cases rj
    exact ⟨t, o, n, b, c, rfl, ho, hc, hd, ti_of (ns := [_, _]) I.hok eb, ti_of (ns := [_, _, _]) I.hok ec⟩
  · have m1 : itOf H (backV v) ∈ ks := by rw [ek]; exact List.mem_map.mpr ⟨_, bk v hv, rfl⟩
    have m2 : itOf H (backV u) ∈ ks := by rw [ek]; exact List.mem_map.mpr ⟨_, bk u hu', rfl⟩
    exact congrArg Prod.snd (dk _ m1 _ m2 e)
  · have h3 : ∀ u ∈ out, ∃ a, u = Value.ref a := fun u hu => e2 u (h2.mem_iff.mp hu)
    obtain ⟨n, hn⟩ := hn
    have pm : (out.map backV).Perm xs := by rw [e1]; exact h2.map backV
    have fin := q (out.map backV) ((out.map backV).map (itOf H)) d (by rw [ek]; exact pm.map _) ?_ (paired_of_map fun x m => isr x (pm.mem_iff.mp m)) (I.hok.fresh hd)
    · refine ⟨.ref d, upd H d (.lst (out.map backV)), I.laid (t' := s.toks) kp hd ⟨?_, out, n, vals_back h3, hn⟩, rfl, fin⟩
      rw [pm.length_eq]
      exact hz
    · rw [List.map_map]
      exact List.pairwise_map.mpr h1
end Wk

set_option Elab.async false
set_option linter.all false
set_option maxRecDepth 100000
/-! W12: common_of, grid, in_order, hull. -/
namespace Wk
open PySem L2 PySem.Spec PyProof.Rows
open Pz (Pt Ln)
/-! ### comprehensions in the form their readings ask -/
section
variable {α β : Type} {d : Addr} {o : Obj} {L : List (Addr × V)} {xs : List α} {r : Rl α} {q : Rl β} {f : α → Option β} {g : TG} {tt : TT} {te : TE} {own : List Nat} {σ : L2.St} {H1 : Hp} {D : Addr} {Qd : Hp → Prop}
theorem lcI (mq : MonoT q) (hd : H1 d = some (exO d o)) (lx : L.length = xs.length) (hr : ∀ (i : Nat) l x H T, L[i]? = some l → xs[i]? = some x → L2.Same H1 H → H T = some (.tup [.ref l.1, l.2]) → r H (.ref T) x)
    (hD : H1 D = none) (hl : L.length ≤ sizeLine) (step : LcStep r q f xs g tt te own σ H1) (done : ∀ H ys, L2.Same H1 H → H D = some (.lst ys) → Paired (q H) ys (xs.filterMap f) → Qd H) :
    ∃ W : Nat → Nat → Hp → Prop, (∃ m, W 0 m (upd H1 D (.lst []))) ∧ ∀ i m H, W i m H →
      ((ItI d o L).stop i H ∧ Qd H) ∨ ((ItI d o L).go i H ∧ ∃ Nx : Hp → Prop, (∀ H', Nx H' → ∃ m', m' < m ∧ W (i + 1) m' H') ∧ ∀ x H', (ItI d o L).yld i H x H' → g x (wipe σ own) H' fun σ2 H2 => wipe σ2 own = wipe σ own ∧ tt σ2 H2 fun b H3 =>
        if b = true then te σ2 H3 fun y H4 => ∃ acc, H4 D = some (.lst acc) ∧ acc.length < sizeLine ∧ Nx (upd H4 D (.lst (acc ++ [y]))) else Nx H3) := by
  refine ⟨fun i m H => m = L.length - i ∧ i ≤ L.length ∧ L2.Same H1 H ∧ ∃ ys, H D = some (.lst ys) ∧ Paired (q H) ys ((xs.take i).filterMap f) ∧ ys.length ≤ i, ⟨_, rfl, Nat.zero_le _, same_new hD, [], upd_same, by simpa using Paired.nil, Nat.le_refl _⟩, ?_⟩
  rintro i m H ⟨rfl, hi, sm, ys, hd1, py, ly⟩
  by_cases c : i < L.length
  · refine .inr ⟨⟨sm _ _ hd, c⟩, fun H' => L2.Same H1 H' ∧ ∃ ys, H' D = some (.lst ys) ∧ Paired (q H') ys ((xs.take (i + 1)).filterMap f) ∧ ys.length ≤ i + 1, fun H' z => ⟨_, by omega, rfl, c, z⟩, fun v H' y => ?_⟩
    obtain ⟨T, l, hl', rfl, hT, rfl⟩ := y
    obtain ⟨x, hx⟩ : ∃ x, xs[i]? = some x := ⟨xs[i], List.getElem?_eq_getElem (by omega)⟩
    have sn : L2.Same H (upd H T (.tup [.ref l.1, l.2])) := same_new hT
    have sm' := sm.trans sn
    refine step _ x _ _ _ (List.mem_of_getElem? hx) sm' (hr i l x _ T hl' hx sm' upd_same) (fun y H4 z s4 fz qz => ?_) fun H3 s3 fn => ?_
    · have n4 := sm'.trans s4
      have d4 := s4 _ _ (sn _ _ hd1)
      refine ⟨ys, d4, by omega, same_at n4 hD, ys ++ [y], upd_same, ?_, by simp; omega⟩
      rw [take_filterMap hx, fz]
      exact PySem.Paired.snoc (Paired.imp py fun _ _ k => mq _ _ _ _ (tup_upd d4) (mq.mono _ _ _ _ (sn.trans s4) k)) (mq _ _ _ _ (tup_upd d4) qz)
    · refine ⟨sm'.trans s3, ys, s3 _ _ (sn _ _ hd1), ?_, by omega⟩
      rw [take_filterMap hx, fn, List.append_nil]
      exact Paired.imp py fun _ _ z => mq.mono _ _ _ _ (sn.trans s3) z
  · have e : i = L.length := by omega
    subst e
    refine .inl ⟨⟨sm _ _ hd, Nat.le_refl _⟩, done H ys sm hd1 ?_⟩
    rw [lx, List.take_length] at py
    exact py
end
section
variable {α β : Type} [DecidableEq β] {κ : KK β} {P : Program} {w : World} {K : PySem.W.Frag} {a : Addr} {vs : List V} {xs : List α} {r : Rl α} {f : α → β} {g : TG} {tk tv : TE} {own : List Nat} {σ : L2.St} {H1 : Hp} {D : Addr} {Qd : Hp → Prop} {q : Hp → V → α → Prop}
/-- over a list -/
theorem dcL (mq : ∀ H H' v x, TupSame H H' → q H v x → q H' v x) (mr : Mono r) (hs : SqL K H1 a vs) (hp : Paired (r H1) vs xs) (hD : H1 D = none) (sys : (D == sysModules) = false) (hl : vs.length ≤ sizeLine) (step : DcStep κ r q f xs g tk tv own σ H1)
    (done : ∀ H kvs, L2.Same H1 H → ND κ P w H D kvs → (∀ p ∈ kvs, ∃ x ∈ xs, p.1 = f x ∧ q H p.2 x) → (∀ x ∈ xs, f x ∈ kvs.map (·.1)) → Qd H) :
    ∃ W : Nat → Nat → Hp → Prop, (∃ m, W 0 m (upd H1 D (exO D dict0))) ∧ ∀ i m H, W i m H →
      ((Itl K a).stop i H ∧ Qd H) ∨ ((Itl K a).go i H ∧ ∃ Nx : Hp → Prop, (∀ H', Nx H' → ∃ m', m' < m ∧ W (i + 1) m' H') ∧ ∀ x H', (Itl K a).yld i H x H' → DcTurn κ P w g tYes tk tv own σ D x H' Nx) := by
  obtain ⟨Pv, h0, hk, ht, hd⟩ := dc_pure_gen (P := P) (w := w) mq mr hp hD sys hl step done
  refine ⟨fun i m H => m = vs.length - i ∧ i ≤ vs.length ∧ Pv i H, ⟨_, rfl, Nat.zero_le _, h0⟩, ?_⟩
  rintro i m H ⟨rfl, hi, p⟩
  have sq := (hk i H hi p).seq hs
  by_cases c : i < vs.length
  · refine .inr ⟨⟨vs, vs[i], sq, by simp [c]⟩, Pv (i + 1), fun H' p' => ⟨_, by omega, rfl, c, p'⟩, fun x H' y => ?_⟩
    obtain ⟨rfl, y⟩ := y
    exact ht i x _ _ (y vs sq) p fun _ z => z
  · have e : i = vs.length := by omega
    subst e
    exact .inl ⟨⟨vs, sq, Nat.le_refl _⟩, hd H p⟩
/-- a list or a tuple -/
def itS (K : PySem.W.Frag) (a : Addr) (J : It) (H : Hp) (vs : List V) : Prop := (J = Itl K a ∧ SqL K H a vs) ∨ (J = Itt K a ∧ SqT K H a vs)
theorem dcS {J : It} (mq : ∀ H H' v x, TupSame H H' → q H v x → q H' v x) (mr : Mono r) (hs : itS K a J H1 vs) (hp : Paired (r H1) vs xs) (hD : H1 D = none) (sys : (D == sysModules) = false) (hl : vs.length ≤ sizeLine) (step : DcStep κ r q f xs g tk tv own σ H1)
    (done : ∀ H kvs, L2.Same H1 H → ND κ P w H D kvs → (∀ p ∈ kvs, ∃ x ∈ xs, p.1 = f x ∧ q H p.2 x) → (∀ x ∈ xs, f x ∈ kvs.map (·.1)) → Qd H) :
    ∃ W : Nat → Nat → Hp → Prop, (∃ m, W 0 m (upd H1 D (exO D dict0))) ∧ ∀ i m H, W i m H →
      (J.stop i H ∧ Qd H) ∨ (J.go i H ∧ ∃ Nx : Hp → Prop, (∀ H', Nx H' → ∃ m', m' < m ∧ W (i + 1) m' H') ∧ ∀ x H', J.yld i H x H' → DcTurn κ P w g tYes tk tv own σ D x H' Nx) := by
  rcases hs with ⟨rfl, hs⟩ | ⟨rfl, hs⟩
  · exact dcL mq mr hs hp hD sys hl step done
  obtain ⟨Pv, h0, hk, ht, hd⟩ := dc_pure_gen (P := P) (w := w) mq mr hp hD sys hl step done
  refine ⟨fun i m H => m = vs.length - i ∧ i ≤ vs.length ∧ Pv i H, ⟨_, rfl, Nat.zero_le _, h0⟩, ?_⟩
  rintro i m H ⟨rfl, hi, p⟩
  have sq := sqT_same (hk i H hi p) hs
  by_cases c : i < vs.length
  · refine .inr ⟨⟨vs, vs[i], sq, by simp [c]⟩, Pv (i + 1), fun H' p' => ⟨_, by omega, rfl, c, p'⟩, fun x H' y => ?_⟩
    obtain ⟨rfl, y⟩ := y
    exact ht i x _ _ (y vs sq) p fun _ z => z
  · have e : i = vs.length := by omega
    subst e
    exact .inl ⟨⟨vs, sq, Nat.le_refl _⟩, hd H p⟩
/-- over the keys of such a dict -/
theorem dcK {d : Addr} {o : Obj} {L : List (Addr × V)} (mq : ∀ H H' v x, TupSame H H' → q H v x → q H' v x) (mr : Mono r) (hd0 : H1 d = some (exO d o)) (hp : Paired (r H1) (L.map fun l => V.ref l.1) xs) (hD : H1 D = none) (sys : (D == sysModules) = false) (hl : L.length ≤ sizeLine)
    (step : DcStep κ r q f xs g tk tv own σ H1)
    (done : ∀ H kvs, L2.Same H1 H → ND κ P w H D kvs → (∀ p ∈ kvs, ∃ x ∈ xs, p.1 = f x ∧ q H p.2 x) → (∀ x ∈ xs, f x ∈ kvs.map (·.1)) → Qd H) :
    ∃ W : Nat → Nat → Hp → Prop, (∃ m, W 0 m (upd H1 D (exO D dict0))) ∧ ∀ i m H, W i m H →
      ((ItK d o L).stop i H ∧ Qd H) ∨ ((ItK d o L).go i H ∧ ∃ Nx : Hp → Prop, (∀ H', Nx H' → ∃ m', m' < m ∧ W (i + 1) m' H') ∧ ∀ x H', (ItK d o L).yld i H x H' → DcTurn κ P w g tYes tk tv own σ D x H' Nx) := by
  obtain ⟨Pv, h0, hk, ht, hd⟩ := dc_pure_gen (P := P) (w := w) mq mr hp hD sys (by rw [List.length_map]; exact hl) step done
  refine ⟨fun i m H => m = L.length - i ∧ i ≤ L.length ∧ Pv i H, ⟨_, rfl, Nat.zero_le _, h0⟩, ?_⟩
  rintro i m H ⟨rfl, hi, p⟩
  have sm := hk i H (by rw [List.length_map]; exact hi) p
  by_cases c : i < L.length
  · refine .inr ⟨⟨sm _ _ hd0, c⟩, Pv (i + 1), fun H' p' => ⟨_, by omega, rfl, c, p'⟩, fun x H' y => ?_⟩
    obtain ⟨rfl, l, hl', rfl⟩ := y
    exact ht i _ _ _ (by rw [List.getElem?_map, hl']; rfl) p fun _ z => z
  · have e : i = L.length := by omega
    subst e
    exact .inl ⟨⟨sm _ _ hd0, Nat.le_refl _⟩, hd H (by rw [List.length_map]; exact p)⟩
end
section
variable {P : Program} {w : World} {K : PySem.W.Frag} {mg : Str → Option Value} {base : Heap}
/-- how many places at most -/
def MANY : Nat := 300
theorem sc_common : FnScope ["numbers", "found", "n"] ["numbers"] (defScope (topS 15)) := ⟨rfl, rfl, rfl, by decide +kernel, rfl, by decide +kernel, by decide +kernel⟩
def sp_common : Sp := fun vs H Q _ => ∃ v ns, vs = [v] ∧ rL rI H v ns ∧ (∀ n ∈ ns, 0 < n ∧ n.natAbs ≤ LIM) ∧ ns.length ≤ MANY ∧
  ∀ (c : Int) H', L2.Same H H' → 0 < c → (∀ n ∈ ns, n ∣ c) → c.natAbs < 2 ^ 750001 → Q (.int c) H'
theorem lim_pow (i : Nat) : LIM ^ i = 2 ^ (2500 * i) := by unfold LIM; rw [← Nat.pow_mul]
theorem ok_common (T : Tx K mg) : Has P w K mg base "common_of" 1 sp_common := by
  refine has_of T.common_of sc_common (fun _ _ _ _ _ _ us hl => match us, hl with | [_], _ => rfl) (fun _ _ _ _ ⟨_, _, e, _⟩ => by rw [e]; rfl) fun f cdv A outer s H vs Q E hr h => ?_
  obtain ⟨v, ns, rfl, ⟨a, vs, rfl, ha, pl⟩, hn, hm, k⟩ := h
  refine ⟨_, pss_cons (ps_set (i := 1) sc_common.nd rfl (Or.inl rfl) pe_int)
    (pss_cons (ps_for PassesOwn.never rfl (pi_list (pv 0)) (pg_name (i := 2) sc_common.nd rfl (Or.inl rfl))
      (pss_one (ps_set (i := 1) sc_common.nd rfl (Or.inl rfl) (pe_op op_mulW (pv 1) (pe_op op_fdivZ (pv 2) (pe_callBfun cr_gcd (by rfl) T.gcd (pa_cons (pv 1) (pa_cons (pv 2) pa_nil))))))))
    (pss_one (ps_ret (pv 1)))), ?_⟩
  refine ⟨_, rfl, a, rfl, ⟨_, SqL.of ha⟩, ?_⟩
  have lenL := Paired.len pl
  refine for_list (K := K) (a := a) (xs := vs) (fun i σ H2 => H2 = H ∧ ∃ (x : Option V) (c : Int), σ = [some (.ref a), some (.int c), x] ∧ 0 < c ∧ c.natAbs ≤ LIM ^ i ∧ ∀ n ∈ ns.take i, n ∣ c)
    ⟨rfl, none, 1, rfl, by omega, by simp, fun n m => by simp at m⟩ (fun i σ H2 _ ⟨e, _⟩ => by rw [e]; exact SqL.of ha) ?_ ?_
  · rintro i y σ H2 hi ⟨rfl, x0, c, rfl, c0, cb, cd⟩
    obtain ⟨n, hn', rn⟩ := Paired.get pl hi
    have hil : i < ns.length := (List.getElem?_eq_some_iff.mp hn').1
    obtain rfl : y = .int n := rn
    obtain ⟨n0, nb⟩ := hn n (List.mem_of_getElem? hn')
    have g0 : Int.gcd c n ≠ 0 := fun z => by have := (Int.gcd_eq_zero_iff.mp z).1; omega
    have gl : Int.gcd c n ≤ n.natAbs := gcd_le (by omega)
    have g1 : ((Int.gcd c n : Nat) : Int) ≠ 0 ∧ ((Int.gcd c n : Nat) : Int).natAbs.log2 < 9000 := ⟨by omega, big_log (by rw [Int.natAbs_natCast]; exact Nat.lt_of_le_of_lt (Nat.le_trans gl nb) lim_big)⟩
    have dv : (Int.gcd c n : Int) ∣ n := Int.gcd_dvd_right ..
    have dc : (Int.gcd c n : Int) ∣ c := Int.gcd_dvd_left ..
    have eq : n.fdiv (Int.gcd c n : Int) = n / (Int.gcd c n : Int) := fdiv_of dv
    have qb : (n / (Int.gcd c n : Int)).natAbs ≤ LIM := Pz.ediv_sz nb dv
    have en := Int.mul_ediv_cancel' dv
    have q0 : 0 < n / (Int.gcd c n : Int) := Pz.pos_of_mul (a := (Int.gcd c n : Int)) (by omega) (by rw [en]; exact n0)
    refine ⟨_, rfl, _, rfl, _, rfl, _, rfl, c, n, rfl, _, _, rfl, rfl, g1, _, _, rfl, rfl, ?_, ?_⟩
    · show CMulW c (n.fdiv (Int.gcd c n : Int))
      rw [eq]
      refine wide_mul (a := 2500 * i + 1) (b := 2501) ?_ ?_ (by omega) (by decide) (by have : ns.length ≤ 300 := hm; omega)
      · rw [lim_pow] at cb
        exact Nat.lt_of_le_of_lt cb (Nat.pow_lt_pow_right (by decide) (by omega))
      · exact Nat.lt_of_le_of_lt qb (Nat.pow_lt_pow_right (by decide) (by decide))
    · refine ⟨rfl, some (.int n), c * n.fdiv (Int.gcd c n : Int), rfl, ?_, ?_, fun m hm' => ?_⟩
      · rw [eq]; exact Int.mul_pos c0 q0
      · rw [eq, Nat.pow_succ]; exact Pz.abs_mul cb qb
      · rw [eq]
        rw [List.take_add_one, hn'] at hm'
        rcases List.mem_append.mp hm' with m' | m'
        · exact Int.dvd_trans (cd m m') (Int.dvd_mul_right ..)
        · have : m = n := by simpa using m'
          subst this
          obtain ⟨t, ht⟩ := dc
          refine ⟨t, ?_⟩
          have : c * (m / (Int.gcd c m : Int)) = (Int.gcd c m : Int) * t * (m / (Int.gcd c m : Int)) := by rw [← ht]
          rw [this, Int.mul_assoc, Int.mul_left_comm, en, Int.mul_comm, Int.mul_comm m t, Int.mul_comm]
  · rintro σ H2 ⟨rfl, x0, c, rfl, c0, cb, cd⟩
    rw [lenL, List.take_length] at cd
    refine ⟨_, rfl, k c _ (.refl _) c0 cd ?_⟩
    rw [lim_pow, lenL] at cb
    exact Nat.lt_of_le_of_lt cb (Nat.pow_lt_pow_right (by decide) (by have : ns.length ≤ 300 := hm; omega))
end
end Wk

set_option Elab.async false
set_option linter.all false
set_option maxRecDepth 100000
/-! W13: grid, in_order. -/
namespace Wk
open PySem L2 PySem.Spec PyProof.Rows
open Pz (Pt Ln)
/-- the coordinates times c -/
def gk (c : Int) (p : Pt) : Int × Int := (p.x * (c / p.d), p.y * (c / p.d))
theorem gk_key {c : Int} {p q : Pt} (c0 : 0 < c) (hp : 0 < p.d) (hq : 0 < q.d) (dp : p.d ∣ c) (dq : q.d ∣ c) :
    c * Pz.dX p q = p.d * q.d * ((gk c q).1 - (gk c p).1) ∧ c * Pz.dY p q = p.d * q.d * ((gk c q).2 - (gk c p).2) := by
  have e1 := Int.mul_ediv_cancel' dp
  have e2 := Int.mul_ediv_cancel' dq
  simp only [gk, Pz.dX, Pz.dY]
  generalize c / p.d = a at *
  generalize c / q.d = b at *
  constructor
  · have : p.d * q.d * (q.x * b - p.x * a) = (q.d * b) * (q.x * p.d) - (p.d * a) * (p.x * q.d) := by grind
    rw [this, e1, e2]; grind
  · have : p.d * q.d * (q.y * b - p.y * a) = (q.d * b) * (q.y * p.d) - (p.d * a) * (p.y * q.d) := by grind
    rw [this, e1, e2]; grind
theorem sgn_eq {a b x y : Int} (ha : 0 < a) (hb : 0 < b) (h : a * x = b * y) : (0 < x ↔ 0 < y) ∧ (x = 0 ↔ y = 0) := by
  constructor
  · constructor
    · intro k; exact Pz.pos_of_mul hb (by rw [← h]; exact Int.mul_pos ha k)
    · intro k; exact Pz.pos_of_mul ha (by rw [h]; exact Int.mul_pos hb k)
  · constructor
    · intro k; exact Pz.zero_of_mul hb (by rw [← h, k]; omega)
    · intro k; exact Pz.zero_of_mul ha (by rw [h, k]; omega)
theorem gk_lt {c : Int} {p q : Pt} (c0 : 0 < c) (hp : 0 < p.d) (hq : 0 < q.d) (dp : p.d ∣ c) (dq : q.d ∣ c) : SrtO.lexB (gk c p) (gk c q) = true ↔ Pz.Lt p q := by
  obtain ⟨e1, e2⟩ := gk_key c0 hp hq dp dq
  have d0 := Int.mul_pos hp hq
  have s1 := sgn_eq c0 d0 e1
  have s2 := sgn_eq c0 d0 e2
  rw [SrtO.lexB_iff]
  unfold Pz.Lt
  rw [s1.1, s1.2, s2.1]
  omega
theorem gk_inj {c : Int} {p q : Pt} (c0 : 0 < c) (hp : Pz.Can p) (hq : Pz.Can q) (dp : p.d ∣ c) (dq : q.d ∣ c) (h : gk c p = gk c q) : p = q := by
  obtain ⟨e1, e2⟩ := gk_key c0 hp.pos hq.pos dp dq
  have d0 := Int.mul_pos hp.pos hq.pos
  refine Pz.eq_of_can hp hq ⟨(sgn_eq c0 d0 e1).2.mpr ?_, (sgn_eq c0 d0 e2).2.mpr ?_⟩
  · rw [h]; omega
  · rw [h]; omega
section
variable {P : Program} {w : World} {K : PySem.W.Frag} {mg : Str → Option Value} {base : Heap}
theorem sc_grid : FnScope ["places", "once", "common", "p", "x", "y", "d"] ["places"] (defScope (topS 19)) := ⟨rfl, rfl, rfl, by decide +kernel, rfl, by decide +kernel, by decide +kernel⟩
/-- places that are let: in their form, not too large, not too many -/
def Let (L : List Pt) : Prop := (∀ p ∈ L, Pz.Can p ∧ Sm p) ∧ L.length ≤ MANY
def rS {α : Type} (r : Rl α) : Rl (List α) := fun H v xs => ∃ a vs, v = .ref a ∧ (H a = some (.lst vs) ∨ H a = some (.tup vs)) ∧ Paired (r H) vs xs
theorem rL.s {α : Type} {r : Rl α} {H : Hp} {v : V} {xs : List α} (h : rL r H v xs) : rS r H v xs := let ⟨a, vs, e, h, p⟩ := h; ⟨a, vs, e, .inl h, p⟩
theorem rT.s {α : Type} {r : Rl α} {H : Hp} {v : V} {xs : List α} (h : rT r H v xs) : rS r H v xs := let ⟨a, vs, e, h, p⟩ := h; ⟨a, vs, e, .inr h, p⟩
theorem its_of {K : PySem.W.Frag} {a : Addr} {H : Hp} {vs : List V} (h : H a = some (.lst vs) ∨ H a = some (.tup vs)) : ∃ J, itS K a J H vs := by
  rcases h with h | h
  · exact ⟨_, .inl ⟨rfl, SqL.of h⟩⟩
  · exact ⟨_, .inr ⟨rfl, SqT.of h⟩⟩
def iSeq (K : PySem.W.Frag) (tl : TE) : L2.TI := fun σ H R => tl σ H fun x H1 => ∃ a J vs, x = .ref a ∧ itS K a J H1 vs ∧ R J H1
theorem pi_seq {X : Cx} {tg l : Expr} {tl : TE} (hl : PE X l tl) : PI X tg l (iSeq X.K tl) := by
  refine ⟨fun pins s σ H R I h => ?_⟩
  refine thn (hl.run pins s σ H _ I h) fun v s1 ⟨x, H1, I1, r1, q1⟩ => ?_
  obtain ⟨a, J, vs, e, hj, q⟩ := q1
  subst e
  cases r1
  have fp : ∀ b, b ∈ [s1.heap.objs.size] → FpOk X pins H1 b := fun b hb => by
    have e : b = s1.heap.objs.size := by simpa using hb
    subst e
    exact I1.fpOk (Nat.le_refl _) (I1.hok.fresh (Nat.le_refl _))
  rcases hj with ⟨rfl, hq⟩ | ⟨rfl, hq⟩
  · obtain ⟨its, rv, p, hz⟩ := I1.list hq
    refine wpAny_pyIter_list p.isList ?_
    exact ⟨_, _, _, _, H1, rfl, I1.kept (t' := s1.toks) fun b o e => Heap.get?_push_of_some _ e, turn_list a _, ⟨_, Heap.get?_push_size _ rfl, rfl, rfl⟩, fp, q⟩
  · obtain ⟨its, rv, p, hz⟩ := I1.tuple hq
    refine wpAny_pyIter_tuple (show s1.heap.IsTuple a its.toArray from p) ?_
    exact ⟨_, _, _, _, H1, rfl, I1.kept (t' := s1.toks) fun b o e => Heap.get?_push_of_some _ e, turn_tuple a _, ⟨_, Heap.get?_push_size _ rfl, rfl, rfl⟩, fp, q⟩
def sp_grid (P : Program) (w : World) : Sp := fun vs H Q _ => ∃ v L, vs = [v] ∧ rS rP H v L ∧ Let L ∧
  ∀ (d : Addr) (kvs : List (Pt × V)) (c : Int) H', L2.Same H H' → ND kkP P w H' d kvs → 0 < c → (∀ p ∈ L, p.d ∣ c) → (∀ e ∈ kvs, e.1 ∈ L ∧ rU H' e.2 (gk c e.1)) → (∀ p ∈ L, p ∈ kvs.map (·.1)) → Q (.ref d) H'
theorem nd_refs {α : Type} {κ : KK α} {H : Hp} {L : List (Addr × V)} {kvs : List (α × V)} (h : Paired (fun l (p : α × V) => κ.rl H (.ref l.1) p.1 ∧ l.2 = p.2) L kvs) : Paired (κ.rl H) (L.map fun l => V.ref l.1) (kvs.map (·.1)) := by
  induction h with
  | nil => exact .nil
  | cons r _ ih => exact .cons r.1 ih
theorem ok_grid (T : Tx K mg) : Has P w K mg base "grid" 2 (sp_grid P w) := by
  have G1 : Has P w K mg base "common_of" 1 sp_common := ok_common T
  refine has_of T.grid sc_grid (fun _ _ _ _ _ _ us hl => match us, hl with | [_], _ => rfl) (fun _ _ _ _ ⟨_, _, e, _⟩ => by rw [e]; rfl) fun f cdv A outer s H vs Q E hr h => ?_
  obtain ⟨v, L, rfl, ⟨a, vs, rfl, ha, pl⟩, ⟨hL, hm⟩, k⟩ := h
  have hu9 : (A.deeper (envOfC "grid" (defScope (topS 19)) s.heap.objs.size f cdv)).units + 8 < cLine := by have := hr.units; omega
  refine ⟨_, pss_cons (ps_setDcN kkP (i := 1) (own := [("p", 3)]) (g := gName 3) (tt := tYes) hu9 (by rfl) sc_grid.nd rfl rfl (swD rfl rfl rfl (by decide +kernel)) (pi_seq (pv 0))
        (blkOk_by (own := [("p", 3)]) (N := ["places", "once", "common", "p", "x", "y", "d"]) (sc := defScope (topS 19)) (by decide +kernel))
        (fun _ _ _ _ _ => pg_name (i := 3) sc_grid.nd rfl (Or.inl rfl)) (fun _ _ _ _ _ => pts_nil) (fun _ _ _ _ _ => pv 3) (fun _ _ _ _ _ => pe_bl))
    (pss_cons (ps_set (i := 2) sc_grid.nd rfl (Or.inr rfl) (pe_has G1 hr (by rfl) (pa_cons
        (pe_lc (own := [("x", 4), ("y", 5), ("d", 6)]) (g := gTup K 3 (gCons (gName 4) (gCons (gName 5) (gCons (gName 6) gNil)))) (tt := tYes) (by rfl) sc_grid.nd (pi_nkeys kkP (pv 1))
          (blkOk_by (own := [("x", 4), ("y", 5), ("d", 6)]) (N := ["places", "once", "common", "p", "x", "y", "d"]) (sc := defScope (topS 19)) (by decide +kernel))
          (fun _ _ _ _ _ => pg_tup (by rfl) (pgs_cons (pg_name (i := 4) sc_grid.nd rfl (Or.inl rfl)) (pgs_cons (pg_name (i := 5) sc_grid.nd rfl (Or.inl rfl)) (pgs_cons (pg_name (i := 6) sc_grid.nd rfl (Or.inl rfl)) pgs_nil))))
          (fun _ _ _ _ _ => pts_nil) (fun _ _ _ _ _ => pv 6)) pa_nil)))
    (pss_one (ps_ret (pe_dcN kkP (own := [("x", 4), ("y", 5), ("d", 6)]) (g := gTup K 3 (gCons (gName 4) (gCons (gName 5) (gCons (gName 6) gNil)))) (tt := tYes) hu9 (by rfl) sc_grid.nd (pi_nkeys kkP (pv 1))
        (blkOk_by (own := [("x", 4), ("y", 5), ("d", 6)]) (N := ["places", "once", "common", "p", "x", "y", "d"]) (sc := defScope (topS 19)) (by decide +kernel))
        (fun _ _ _ _ _ => pg_tup (by rfl) (pgs_cons (pg_name (i := 4) sc_grid.nd rfl (Or.inl rfl)) (pgs_cons (pg_name (i := 5) sc_grid.nd rfl (Or.inl rfl)) (pgs_cons (pg_name (i := 6) sc_grid.nd rfl (Or.inl rfl)) pgs_nil))))
        (fun _ _ _ _ _ => pts_nil)
        (fun _ _ _ _ _ => pe_tup (pa_cons (pv 4) (pa_cons (pv 5) (pa_cons (pv 6) pa_nil))))
        (fun _ _ _ _ _ => pe_tup (pa_cons (pe_op op_mulW (pv 4) (pe_op op_fdivZ (pv 2) (pv 6))) (pa_cons (pe_op op_mulW (pv 5) (pe_op op_fdivZ (pv 2) (pv 6))) pa_nil))))))), ?_⟩
  have lenL := Paired.len pl
  have many : MANY = 300 := rfl
  have sz : sizeLine = 16777216 := rfl
  -- once
  obtain ⟨J, hJ⟩ := its_of (K := K) ha
  refine ⟨_, rfl, a, J, vs, rfl, hJ, fun D1 hD1 sys1 => ?_⟩
  refine dcS (κ := kkP) (q := fun _ _ _ => True) (r := rP) (f := fun p => p) (xs := L) (fun _ _ _ _ _ h => h) mP hJ pl hD1 sys1 (by omega) ?_ ?_
  · intro v p H2 C m s2 rv c
    exact ⟨rfl, _, rfl, c _ _ H2 (.refl _) rv trivial⟩
  intro H1 kv1 s1 n1 ka1 kb1
  have kin1 : ∀ p ∈ kv1.map (·.1), p ∈ L := fun p m => by
    obtain ⟨e, me, rfl⟩ := List.mem_map.mp m
    obtain ⟨x, mx, ex, _⟩ := ka1 e me
    rw [ex]; exact mx
  have len1 : (kv1.map (·.1)).length ≤ L.length := Pz.len_sub (let ⟨_, _, n⟩ := n1; n.nd) kin1
  -- common
  refine ⟨_, rfl, D1, kv1, rfl, n1, fun o1 L1 ho1 p1 => fun D2 hD2 => ?_⟩
  have pr1 := nd_refs p1
  have ll1 : L1.length = kv1.length := Paired.len p1
  rw [List.length_map] at len1
  refine lcK (r := rP) (q := rI) (xs := kv1.map fun e : Pt × V => e.1) (f := fun p : Pt => some p.d) mP tI ho1 pr1 hD2 (by omega) ?_ ?_
  · intro v p H2 C C0 m s2 rv c1 c0
    obtain ⟨b, rfl, hb⟩ := rv
    exact ⟨b, _, rfl, SqT.of hb, rfl, _, _, rfl, _, _, rfl, _, _, rfl, rfl, rfl, _, rfl, c1 _ _ _ (.refl _) rfl rfl⟩
  intro H2 ys2 s2 hy2 py2
  have eds : (kv1.map (·.1)).filterMap (fun p : Pt => some p.d) = (kv1.map (·.1)).map fun p => p.d := by rw [List.filterMap_eq_map']
  rw [eds] at py2
  refine ⟨_, _, rfl, ⟨D2, ys2, rfl, hy2, py2⟩, fun n m => ?_, by rw [List.length_map, List.length_map]; omega, fun c H3 s3 c0 cd cb => ?_⟩
  · obtain ⟨p, mp, rfl⟩ := List.mem_map.mp m
    have := hL p (kin1 p mp)
    exact ⟨this.2.2, this.2.1.2.2⟩
  have s13 := s2.trans s3
  have dvd : ∀ p ∈ L, p.d ∣ c := fun p m => cd _ (List.mem_map.mpr ⟨p, kb1 p m, rfl⟩)
  -- the dict
  refine ⟨_, rfl, D1, kv1, rfl, n1.same s13, fun o3 L3 ho3 p3 => fun D3 hD3 sys3 => ?_⟩
  have pr3 := nd_refs p3
  have ll3 : L3.length = kv1.length := Paired.len p3
  refine dcK (κ := kkP) (q := fun H v p => rU H v (gk c p)) (r := rP) (f := fun p => p) (xs := kv1.map fun e : Pt × V => e.1) (fun _ _ _ _ s h => tU _ _ _ _ s h) mP ho3 pr3 hD3 sys3 (by omega) ?_ ?_
  · intro v p H4 C m s4 rv cc
    obtain ⟨b, rfl, hb⟩ := rv
    have pL := kin1 p m
    obtain ⟨cp, ⟨px, py, pd⟩, p0⟩ := hL p pL
    refine ⟨b, _, rfl, SqT.of hb, rfl, _, _, rfl, _, _, rfl, _, _, rfl, rfl, rfl, ?_⟩
    refine ⟨_, rfl, _, rfl, _, rfl, by show 3 ≤ sizeLine; decide, fun t ht => ?_⟩
    have g1 : p.d ≠ 0 ∧ p.d.natAbs.log2 < 9000 := ⟨by omega, big_log (Nat.lt_of_le_of_lt pd lim_big)⟩
    have eq : c.fdiv p.d = c / p.d := fdiv_of (dvd p pL)
    have qb : (c / p.d).natAbs < 2 ^ 750001 := by
      have := Pz.ediv_sz (n := c.natAbs) (Nat.le_refl _) (dvd p pL)
      omega
    have lb : LIM < 2 ^ 2501 := by decide +kernel
    refine ⟨_, rfl, _, rfl, _, rfl, _, _, rfl, rfl, g1, _, _, rfl, rfl, ?_, _, rfl, _, rfl, _, rfl, _, _, rfl, rfl, g1, _, _, rfl, rfl, ?_, by show 2 ≤ sizeLine; decide, fun u hu => ?_⟩
    · show CMulW p.x (c.fdiv p.d)
      rw [eq]
      exact wide_mul (Nat.lt_of_le_of_lt px lb) qb (by decide) (by decide) (by decide)
    · show CMulW p.y (c.fdiv p.d)
      rw [eq]
      exact wide_mul (Nat.lt_of_le_of_lt py lb) qb (by decide) (by decide) (by decide)
    · have sa := same_new (o := .tup [.int p.x, .int p.y, .int p.d]) ht
      refine cc _ _ _ (same_new' sa hu) ⟨t, rfl, (same_new hu) _ _ upd_same⟩ ⟨u, rfl, ?_⟩
      have e1 : (gk c p).1 = p.x * c.fdiv p.d := by rw [eq]; rfl
      have e2 : (gk c p).2 = p.y * c.fdiv p.d := by rw [eq]; rfl
      rw [e1, e2]
      exact upd_same
  intro H4 kv4 s4 n4 ka4 kb4
  refine k D3 kv4 c H4 (s1.trans (s13.trans s4)) n4 c0 dvd (fun e me => ?_) fun p m => kb4 p (kb1 p m)
  obtain ⟨x, mx, ex, rx⟩ := ka4 e me
  rw [ex]
  exact ⟨kin1 x mx, rx⟩
end
end Wk

set_option Elab.async false
set_option linter.all false
set_option maxRecDepth 100000
/-! W14: in_order, hull. -/
namespace Wk
open PySem L2 PySem.Spec PyProof.Rows
open Pz (Pt Ln)
/-! ### data compared by == -/
def dP (p : Pt) : PyData := .tuple [.int p.x, .int p.y, .int p.d]
section
variable {K : PySem.W.Frag} {H : Hp}
theorem dp_P {v : V} {p : Pt} (h : rP H v p) : Dp K H v (dP p) := by
  obtain ⟨a, rfl, e⟩ := h
  exact .tup (SqT.of e) (.cons (.int _) (.cons (.int _) (.cons (.int _) .nil)))
theorem dp_Ps {vs : List V} {L : List Pt} (h : Paired (rP H) vs L) : DpAll K H vs (L.map dP) := by
  induction h with
  | nil => exact .nil
  | cons r _ ih => exact .cons (dp_P r) ih
theorem lay_Ps : ∀ L : List Pt, PyData.canLayAll0 (L.map dP) = true
  | [] => rfl
  | p :: L => by
    rw [List.map_cons]
    show (PyData.canLay0 (dP p) && PyData.canLayAll0 (L.map dP)) = true
    rw [lay_Ps L]
    rfl
theorem dep_Ps : ∀ L : List Pt, PyData.depthAll (L.map dP) ≤ 2
  | [] => by simp [PyData.depthAll]
  | p :: L => by
    have := dep_Ps L
    rw [List.map_cons]
    have e : PyData.depth (dP p) ≤ 2 := by simp [dP, PyData.depth, PyData.depthAll]
    simp only [PyData.depthAll]
    omega
theorem shaped_L (L : List Pt) : SeqAt.shaped (.list (L.map dP)) = true := by
  unfold SeqAt.shaped
  rw [Bool.and_eq_true]
  refine ⟨lay_Ps L, decide_eq_true ?_⟩
  have := dep_Ps L
  simp only [PyData.depth]
  omega
theorem shaped_T (L : List Pt) : SeqAt.shaped (.tuple (L.map dP)) = true := by
  unfold SeqAt.shaped
  rw [Bool.and_eq_true]
  refine ⟨lay_Ps L, decide_eq_true ?_⟩
  have := dep_Ps L
  simp only [PyData.depth]
  omega
theorem eqv_P (p q : Pt) : PyData.eqv (dP p) (dP q) = decide (p = q) := by
  have e : PyData.eqv (dP p) (dP q) = ((p.x == q.x) && ((p.y == q.y) && ((p.d == q.d) && true))) := by
    simp only [dP, PyData.eqv, PyData.eqvAll]
  rw [e]
  by_cases h : p = q
  · subst h; simp
  · rw [decide_eq_false h]
    cases p; cases q
    simp only [Pt.mk.injEq] at h
    simp only [Bool.and_true, Bool.and_eq_false_iff, beq_eq_false_iff_ne]
    omega
theorem eqv_Ps : ∀ L M : List Pt, PyData.eqvAll (L.map dP) (M.map dP) = decide (L = M)
  | [], [] => by simp [PyData.eqvAll]
  | [], _ :: _ => by simp [PyData.eqvAll]
  | _ :: _, [] => by simp [PyData.eqvAll]
  | p :: L, q :: M => by
    rw [List.map_cons, List.map_cons, PyData.eqvAll, eqv_P, eqv_Ps L M]
    by_cases h1 : p = q <;> by_cases h2 : L = M <;> simp [h1, h2]
end
end Wk

set_option Elab.async false
set_option linter.all false
set_option maxRecDepth 100000
/-! W15: in_order, hull. -/
namespace Wk
open PySem L2 PySem.Spec PyProof.Rows
open Pz (Pt Ln)
section
variable {P : Program} {w : World} {K : PySem.W.Frag} {mg : Str → Option Value} {base : Heap}
theorem asc_of_sorted {c : Int} (c0 : 0 < c) {ks ls : List ((Int × Int) × Pt)} (hk : ∀ x ∈ ks, x.1 = gk c x.2 ∧ Pz.Can x.2 ∧ x.2.d ∣ c) (nd : ks.Nodup) (pm : ls.Perm ks) (hs : ls.Pairwise fun x y => SrtO.lexB y.1 x.1 = false) :
    Pz.Asc (ls.map (·.2)) := by
  have nl : ls.Nodup := pm.symm.nodup nd
  refine List.pairwise_map.mpr ?_
  refine List.Pairwise.imp_of_mem (fun {x y} mx my h => ?_) (List.Pairwise.and hs nl)
  obtain ⟨e1, c1, d1⟩ := hk x (pm.mem_iff.mp mx)
  obtain ⟨e2, c2, d2⟩ := hk y (pm.mem_iff.mp my)
  obtain ⟨h1, h2⟩ := h
  rw [e1, e2] at h1
  have nl : ¬ Pz.Lt y.2 x.2 := fun z => by
    rw [(gk_lt c0 c2.pos c1.pos d2 d1).mpr z] at h1
    cases h1
  rcases Pz.Lt.total c1 c2 with z | z | z
  · exact z
  · exact absurd (Prod.ext (by rw [e1, e2, z]) z) h2
  · exact absurd z nl
theorem sc_in_order : FnScope ["places", "p", "key"] ["places"] (defScope (topS 20)) := ⟨rfl, rfl, rfl, by decide +kernel, rfl, by decide +kernel, by decide +kernel⟩
def sp_in_order : Sp := sp1 (rS rP) Let (rL rP) Pz.sortP
/-- an item of the grid's dict -/
def rGi (c : Int) : Rl Pt := fun H v p => ∃ a b e, v = .ref a ∧ H a = some (.tup [b, e]) ∧ rP H b p ∧ rU H e (gk c p)
theorem ok_in_order (T : Tx K mg) : Has P w K mg base "in_order" 3 sp_in_order := by
  have G1 : Has P w K mg base "grid" 2 (sp_grid P w) := ok_grid T
  refine has_of T.in_order sc_in_order (fun _ _ _ _ _ _ us hl => match us, hl with | [_], _ => rfl) sp1_len fun f cdv A outer s H vs Q E hr h => ?_
  obtain ⟨v, L, rfl, hv, hL, k⟩ := h
  have hu2 : (A.deeper (envOfC "in_order" (defScope (topS 20)) s.heap.objs.size f cdv)).units + 2 < cLine := by have := hr.units; omega
  refine ⟨_, pss_one (ps_ret (pe_lc (own := [("key", 2), ("p", 1)]) (g := gTup K 2 (gCons (gName 2) (gCons (gName 1) gNil))) (tt := tYes) (by rfl) sc_in_order.nd
      (pi_list (pe_callB (cr_sort hu2) (by rfl) T.n_sorted (by decide +kernel) (pa_cons
        (pe_lc (own := [("p", 1), ("key", 2)]) (g := gTup K 2 (gCons (gName 1) (gCons (gName 2) gNil))) (tt := tYes) (by rfl) sc_in_order.nd
          (pi_nitems kkP (pe_has G1 hr (by rfl) (pa_cons (pv 0) pa_nil)))
          (blkOk_by (own := [("p", 1), ("key", 2)]) (N := ["places", "p", "key"]) (sc := defScope (topS 20)) (by decide +kernel))
          (fun _ _ _ _ _ => pg_tup (by rfl) (pgs_cons (pg_name (i := 1) sc_in_order.nd rfl (Or.inl rfl)) (pgs_cons (pg_name (i := 2) sc_in_order.nd rfl (Or.inl rfl)) pgs_nil)))
          (fun _ _ _ _ _ => pts_nil) (fun _ _ _ _ _ => pe_tup (pa_cons (pv 2) (pa_cons (pv 1) pa_nil)))) pa_nil)))
      (blkOk_by (own := [("key", 2), ("p", 1)]) (N := ["places", "p", "key"]) (sc := defScope (topS 20)) (by decide +kernel))
      (fun _ _ _ _ _ => pg_tup (by rfl) (pgs_cons (pg_name (i := 2) sc_in_order.nd rfl (Or.inl rfl)) (pgs_cons (pg_name (i := 1) sc_in_order.nd rfl (Or.inl rfl)) pgs_nil)))
      (fun _ _ _ _ _ => pts_nil) (fun _ _ _ _ _ => pv 1))), ?_⟩
  have sz : sizeLine = 16777216 := rfl
  have many : MANY = 300 := rfl
  refine ⟨_, rfl, v, L, rfl, hv, hL, fun d kvs c H1 s1 n1 c0 dv ka kb => ?_⟩
  refine ⟨d, kvs, rfl, n1, fun o R ho pr => fun D hD => ?_⟩
  have lR : R.length = kvs.length := Paired.len pr
  obtain ⟨_, _, _, _, _, _, _, _, ln, nd⟩ := n1.raw
  have kin : ∀ p ∈ kvs.map (fun e : Pt × V => e.1), p ∈ L := fun p m => by
    obtain ⟨e, me, rfl⟩ := List.mem_map.mp m
    exact (ka e me).1
  refine lcI (r := rGi c) (q := rIt) (xs := kvs.map fun e : Pt × V => e.1) (f := fun p : Pt => some (gk c p, p)) (tPr tU tP) ho (by rw [List.length_map]; exact lR) ?_ hD (by omega) ?_ ?_
  · intro i l x H2 T2 hl hx s2 ht
    obtain ⟨y, hy, k1, k2⟩ := Paired.get pr hl
    have : x = y.1 := by
      rw [List.getElem?_map, hy] at hx
      exact (Option.some.inj hx).symm
    rw [this]
    refine ⟨T2, _, _, rfl, ht, mP _ _ _ _ s2 k1, ?_⟩
    rw [k2]
    exact mU _ _ _ _ s2 (ka y (List.mem_of_getElem? hy)).2
  · intro v p H2 C C0 m s2 rv c1 c0'
    obtain ⟨a, b, e, rfl, ha, hb, he⟩ := rv
    refine ⟨a, _, rfl, SqT.of ha, rfl, _, _, rfl, _, _, rfl, rfl, rfl, ?_⟩
    refine ⟨_, rfl, _, rfl, by show 2 ≤ sizeLine; decide, fun t ht => ?_⟩
    have sn := same_new (o := .tup [e, b]) ht
    exact c1 _ _ _ sn rfl ⟨t, e, b, rfl, upd_same, mU _ _ _ _ sn he, mP _ _ _ _ sn hb⟩
  intro H2 ys2 s2 hy2 py2
  rw [show (kvs.map fun e : Pt × V => e.1).filterMap (fun p : Pt => some (gk c p, p)) = (kvs.map fun e : Pt × V => e.1).map fun p => (gk c p, p) by rw [List.filterMap_eq_map']] at py2
  have inK : ∀ x ∈ (kvs.map fun e : Pt × V => e.1).map fun p => (gk c p, p), x.1 = gk c x.2 ∧ Pz.Can x.2 ∧ x.2.d ∣ c ∧ x.2 ∈ L := fun x m => by
    obtain ⟨p, mp, rfl⟩ := List.mem_map.mp m
    exact ⟨rfl, (hL.1 p (kin p mp)).1, dv p (kin p mp), kin p mp⟩
  refine ⟨D, ys2, _, rfl, SqL.of hy2, py2, fun x mx y my e => ?_, fun zs ls p3 pm srt pz hp3 => ?_⟩
  · obtain ⟨x1, x2, x3, _⟩ := inK x mx
    obtain ⟨y1, y2, y3, _⟩ := inK y my
    have : x.2 = y.2 := gk_inj c0 x2 y2 x3 y3 (by rw [← x1, ← y1, e])
    exact Prod.ext e this
  -- the sorted list
  have ndk : ((kvs.map fun e : Pt × V => e.1).map fun p => (gk c p, p)).Nodup := nodup_map (fun x y h => (Prod.mk.inj h).2) nd
  have as := asc_of_sorted c0 (fun x m => let z := inK x m; ⟨z.1, z.2.1, z.2.2.1⟩) ndk pm srt
  have mem : ∀ x, x ∈ ls.map (·.2) ↔ x ∈ L := fun x => by
    constructor
    · intro m
      obtain ⟨y, my, rfl⟩ := List.mem_map.mp m
      exact (inK y (pm.mem_iff.mp my)).2.2.2
    · intro m
      have : x ∈ kvs.map fun e : Pt × V => e.1 := kb x m
      exact List.mem_map.mpr ⟨(gk c x, x), pm.mem_iff.mpr (List.mem_map.mpr ⟨x, this, rfl⟩), rfl⟩
  have fin := Pz.asc_uniq (fun p m => (hL.1 p m).1) as mem
  have s3 : L2.Same H2 (upd H2 p3 (.lst zs)) := same_new hp3
  have pz' : Paired (rIt (upd H2 p3 (.lst zs))) zs ls := Paired.imp pz fun _ _ q => (tPr tU tP).mono _ _ _ _ s3 q
  refine ⟨p3, rfl, ⟨_, SqL.of upd_same⟩, fun D4 hD4 => ?_⟩
  have lz : zs.length = ls.length := Paired.len pz
  have ll : ls.length = kvs.length := by rw [pm.length_eq, List.length_map, List.length_map]
  refine lcL (r := rIt) (q := rP) (xs := ls) (f := fun x => some x.2) (tPr tU tP).mono tP (SqL.of upd_same) pz' hD4 (by omega) ?_ ?_
  · intro v x H5 C C0 m s5 rv c1 c0'
    obtain ⟨a, u, b, rfl, ha, hu', hb⟩ := rv
    exact ⟨a, _, rfl, SqT.of ha, rfl, _, _, rfl, _, _, rfl, rfl, rfl, _, rfl, c1 _ _ _ (.refl _) rfl hb⟩
  · intro H5 ys5 s5 hy5 py5
    rw [show ls.filterMap (fun x => some x.2) = ls.map (·.2) by rw [List.filterMap_eq_map'], fin] at py5
    exact k _ _ (s1.trans (s2.trans (s3.trans s5))) ⟨D4, ys5, rfl, hy5, py5⟩
end
end Wk

set_option Elab.async false
set_option linter.all false
set_option maxRecDepth 100000
/-! W16: hull. -/
namespace Wk
open PySem L2 PySem.Spec PyProof.Rows
open Pz (Pt Ln)
section
variable {P : Program} {w : World} {K : PySem.W.Frag} {mg : Str → Option Value} {base : Heap}
theorem cut_dropLast (xs : List V) : cutV xs none (some (-1)) = xs.dropLast := by
  unfold cutV
  have e1 : HT.sIx xs.length 0 none = 0 := rfl
  have e2 : HT.sIx xs.length xs.length (some (-1)) = xs.length - 1 := by
    show (if (-1 : Int) < 0 then ((-1 : Int) + (xs.length : Int)).toNat else min (-1 : Int).toNat xs.length) = xs.length - 1
    rw [if_pos (by decide)]
    omega
  rw [e1, e2, List.dropLast_eq_take]
  simp
theorem Paired.dropLast {α β : Type} {F : α → β → Prop} : ∀ {xs : List α} {ys : List β}, Paired F xs ys → Paired F xs.dropLast ys.dropLast
  | _, _, .nil => .nil
  | _, _, .cons _ .nil => .nil
  | _, _, .cons a (.cons b t) => .cons a (Paired.dropLast (.cons b t))
theorem Paired.append {α β : Type} {F : α → β → Prop} {xs xs' : List α} {ys ys' : List β} (h : Paired F xs ys) (h' : Paired F xs' ys') : Paired F (xs ++ xs') (ys ++ ys') := by
  induction h with
  | nil => exact h'
  | cons a _ ih => exact .cons a ih
theorem Paired.rev {α β : Type} {F : α → β → Prop} {xs : List α} {ys : List β} (h : Paired F xs ys) : Paired F xs.reverse ys.reverse := by
  induction h with
  | nil => exact .nil
  | cons a _ ih =>
    rw [List.reverse_cons, List.reverse_cons]
    exact Paired.append ih (.cons a .nil)
theorem hullA_chain (L : List Pt) : Pz.hullA L = if L.length = 1 then L else (chainM L).dropLast ++ (chainM L.reverse).dropLast := by
  unfold Pz.hullA chainM
  simp only [List.dropLast_reverse]
theorem sortP_len {L : List Pt} (h : ∀ p ∈ L, Pz.Can p) : (Pz.sortP L).length ≤ L.length := by
  obtain ⟨as, mem⟩ := Pz.sortP_spec h
  exact Pz.len_sub (List.Pairwise.imp (fun {a b} l => fun e => by subst e; exact absurd l (by unfold Pz.Lt Pz.dX Pz.dY; omega)) as) fun x m => (mem x).mp m
theorem let_sort {L : List Pt} (h : Let L) : Let (Pz.sortP L) :=
  ⟨fun p m => h.1 p (((Pz.sortP_spec fun q mq => (h.1 q mq).1).2 p).mp m), Nat.le_trans (sortP_len fun q mq => (h.1 q mq).1) h.2⟩
theorem sc_hull : FnScope ["places", "some"] ["places"] (defScope (topS 39)) := ⟨rfl, rfl, rfl, by decide +kernel, rfl, by decide +kernel, by decide +kernel⟩
def sp_hull : Sp := sp1 (rS rP) (fun L => Let L ∧ L ≠ []) (rT rP) Pz.hullM
theorem ok_hull (T : Tx K mg) : Has P w K mg base "hull" 6 sp_hull := by
  have G1 : Has P w K mg base "in_order" 3 sp_in_order := ok_in_order T
  have G2 : Has P w K mg base "chain" 5 sp_chain := ok_chain T
  refine has_of T.hull sc_hull (fun _ _ _ _ _ _ us hl => match us, hl with | [_], _ => rfl) sp1_len fun f cdv A outer s H vs Q E hr h => ?_
  obtain ⟨v, L, rfl, hv, ⟨hL, ne⟩, k⟩ := h
  have hu : (A.deeper (envOfC "hull" (defScope (topS 39)) s.heap.objs.size f cdv)).units + 64 < cLine := by have := hr.units; omega
  refine ⟨_, pss_cons (ps_set (i := 1) sc_hull.nd rfl (Or.inl rfl) (pe_has G1 (hr.mono (by decide)) (by rfl) (pa_cons (pv 0) pa_nil)))
    (pss_cons (ps_if (pt_cmpR (op_eqD hu) (pv 1) (pe_lst pa_nil) (nomark _)) pss_never pss_nil)
    (pss_one (ps_ret (pe_ifExp (pt_cmpR op_eq (pe_callB call_len_seq (by rfl) T.n_len PySem.boot_len (pa_cons (pv 1) pa_nil)) pe_int (nomark _))
      (pe_callTy call_tuple_of (by rfl) T.n_tuple (by decide +kernel) (pa_cons (pv 1) pa_nil))
      (pe_callTy call_tuple_of (by rfl) T.n_tuple (by decide +kernel) (pa_cons (pe_op op_cat
        (pe_slice sl_list (pe_has G2 hr (by rfl) (pa_cons (pv 1) pa_nil)) po_none (po_some (pe_un un_neg pe_int)))
        (pe_slice sl_list (pe_has G2 hr (by rfl) (pa_cons (pe_revL (pv 1)) pa_nil)) po_none (po_some (pe_un un_neg pe_int)))) pa_nil)))))), ?_⟩
  have sz : sizeLine = 16777216 := rfl
  have many : MANY = 300 := rfl
  have lS := let_sort hL
  have hc : ∀ q ∈ L, Pz.Can q := fun q mq => (hL.1 q mq).1
  have neS : Pz.sortP L ≠ [] := fun e => by
    cases L with
    | nil => exact ne rfl
    | cons p _ =>
      have := ((Pz.sortP_spec hc).2 p).mpr (by simp)
      rw [e] at this
      exact nomatch this
  refine ⟨_, rfl, _, _, rfl, hv, hL, fun u H1 s1 r1 => ?_⟩
  obtain ⟨a, vs, rfl, ha, pl⟩ := r1
  have lv := Paired.len pl
  refine ⟨_, rfl, by show 0 ≤ sizeLine; decide, fun e he => ?_⟩
  have s2 : L2.Same H1 (upd H1 e (.lst [])) := same_new he
  have d0 : Dp K (upd H1 e (.lst [])) (.ref e) (.list []) := .lst (SqL.of upd_same) .nil
  refine ⟨_, _, .lst (SqL.of (s2 _ _ ha)) (dp_Ps (Paired.imp pl fun _ _ r => tP.mono _ _ _ _ s2 r)), d0, shaped_L _, by decide +kernel, ?_⟩
  have ev : PyData.eqv (.list ((Pz.sortP L).map dP)) (.list []) = false := by
    cases q : Pz.sortP L with
    | nil => exact absurd q neS
    | cons p r => rfl
  refine ⟨_, rfl, ?_⟩
  refine ite2 (fun q => absurd (show PyData.eqv (.list ((Pz.sortP L).map dP)) (.list []) = true from q) (by rw [ev]; decide)) fun _ => ?_
  have a2 := s2 _ _ ha
  have p2 : Paired (rP (upd H1 e (.lst []))) vs (Pz.sortP L) := Paired.imp pl fun _ _ r => tP.mono _ _ _ _ s2 r
  have s12 := s1.trans s2
  generalize upd H1 e (.lst []) = H2 at *
  refine ⟨_, rfl, a, vs, rfl, .inl (SqL.of a2), rfl, _, rfl, ?_⟩
  have eH : Pz.hullM L = if (Pz.sortP L).length = 1 then Pz.sortP L else (chainM (Pz.sortP L)).dropLast ++ (chainM (Pz.sortP L).reverse).dropLast := hullA_chain _
  refine ite2 (fun e => ?_) (fun e => ?_)
  · have l1 : vs.length = 1 := by
      have : V.int (vs.length : Int) = V.int 1 := of_decide_eq_true e
      injection this with this
      omega
    refine ⟨_, rfl, a, vs, rfl, .inl ⟨SqL.of a2, fun t ht => ?_⟩⟩
    refine k _ _ (same_new' s12 ht) ⟨t, vs, rfl, upd_same, ?_⟩
    rw [eH, if_pos (by omega)]
    exact Paired.imp p2 fun _ _ r => tP.mono _ _ _ _ (same_new ht) r
  · have l1 : vs.length ≠ 1 := fun q => e (decide_eq_true (by rw [q]; rfl))
    have cl : ∀ M : List Pt, M.length ≤ (Pz.sortP L).length → (chainM M).length ≤ MANY := fun M h => by
      have := chainR_len M
      have := lS.2
      unfold chainM
      rw [List.length_reverse]
      omega
    refine ⟨_, rfl, _, _, rfl, ⟨a, vs, rfl, a2, p2⟩, ⟨fun q mq => (lS.1 q mq).2, by have := lS.2; omega⟩, fun u3 H3 s3 r3 => ?_⟩
    obtain ⟨b, ws, rfl, hb, pb⟩ := r3
    refine ⟨_, rfl, _, rfl, b, ws, rfl, SqL.of hb, fun c hc' => ?_⟩
    have s4 := s3.trans (same_new (o := .lst (cutV ws none (some (-1)))) hc')
    have hcc : (upd H3 c (.lst (cutV ws none (some (-1))))) c = some (.lst ws.dropLast) := by rw [cut_dropLast]; exact upd_same
    have pc : Paired (rP (upd H3 c (.lst (cutV ws none (some (-1)))))) ws.dropLast (chainM (Pz.sortP L)).dropLast := Paired.dropLast (Paired.imp pb fun _ _ r => tP.mono _ _ _ _ (same_new hc') r)
    generalize upd H3 c (.lst (cutV ws none (some (-1)))) = H4 at *
    have a4 := s4 _ _ a2
    refine ⟨_, rfl, a, vs, rfl, SqL.of a4, fun d hd => ?_⟩
    have s5 := same_new (o := .lst vs.reverse) hd
    refine ⟨_, _, rfl, ⟨d, _, rfl, upd_same, Paired.rev (Paired.imp p2 fun _ _ r => tP.mono _ _ _ _ (s4.trans s5) r)⟩, ⟨fun q mq => (lS.1 q (List.mem_reverse.mp mq)).2, by rw [List.length_reverse]; have := lS.2; omega⟩, fun u6 H6 s6 r6 => ?_⟩
    obtain ⟨g, zs, rfl, hg, pg⟩ := r6
    refine ⟨_, rfl, _, rfl, g, zs, rfl, SqL.of hg, fun t ht => ?_⟩
    have s7 := same_new (o := .lst (cutV zs none (some (-1)))) ht
    have htt : (upd H6 t (.lst (cutV zs none (some (-1))))) t = some (.lst zs.dropLast) := by rw [cut_dropLast]; exact upd_same
    have pt : Paired (rP (upd H6 t (.lst (cutV zs none (some (-1)))))) zs.dropLast (chainM (Pz.sortP L).reverse).dropLast := Paired.dropLast (Paired.imp pg fun _ _ r => tP.mono _ _ _ _ s7 r)
    generalize upd H6 t (.lst (cutV zs none (some (-1)))) = H7 at *
    have s57 := (s5.trans s6).trans s7
    have c7 := s57 _ _ hcc
    have pc7 : Paired (rP H7) ws.dropLast (chainM (Pz.sortP L)).dropLast := Paired.imp pc fun _ _ r => tP.mono _ _ _ _ s57 r
    have w1 := Paired.len pc
    have w2 := Paired.len pt
    rw [List.length_dropLast] at w1 w2
    have w3 := cl (Pz.sortP L) (Nat.le_refl _)
    have w4 := cl (Pz.sortP L).reverse (by rw [List.length_reverse]; exact Nat.le_refl _)
    rw [List.length_dropLast] at w1 w2
    refine ⟨c, t, _, _, rfl, rfl, c7, htt, by rw [List.length_dropLast, List.length_dropLast]; omega, fun x hx => ?_⟩
    refine ⟨x, _, rfl, .inl ⟨SqL.of upd_same, fun y hy => ?_⟩⟩
    have s8 := same_new (o := .lst (ws.dropLast ++ zs.dropLast)) hx
    have s9 := same_new (o := .tup (ws.dropLast ++ zs.dropLast)) hy
    refine k _ _ (s12.trans (s4.trans (s57.trans (s8.trans s9)))) ⟨y, _, rfl, upd_same, ?_⟩
    rw [eH, if_neg (by omega)]
    exact Paired.imp (Paired.append pc7 pt) fun _ _ r => tP.mono _ _ _ _ (s8.trans s9) r
end
end Wk

set_option Elab.async false
set_option linter.all false
set_option maxRecDepth 100000
/-! W17: is_row_of_numbers, is_place; slices, sums of tuples; zip of tuples; neighbours. -/
namespace Wk
open PySem L2 PySem.Spec PyProof.Rows
open Pz (Pt Ln)
section
variable {P : Program} {w : World} {K : PySem.W.Frag} {mg : Str → Option Value} {base : Heap}
theorem rP.any {H : Hp} {v : V} {p : Pt} (h : rP H v p) : ∃ a, v = .ref a ∧ H a = some (.tup [.int p.x, .int p.y, .int p.d]) := h
theorem sc_rown : FnScope ["value", "many", "one"] ["value", "many"] (defScope (topS 13)) := ⟨rfl, rfl, rfl, by decide +kernel, rfl, by decide +kernel, by decide +kernel⟩
def sp_rown : Sp := sp2 rP rI (fun _ n => n = 3) rB fun _ _ => true
theorem ok_rown (T : Tx K mg) : Has P w K mg base "is_row_of_numbers" 2 sp_rown := by
  have G1 : Has P w K mg base "is_number" 1 sp_is_number := ok_is_number T
  refine has_of T.is_row_of_numbers sc_rown (fun _ _ _ _ _ _ us hl => match us, hl with | [_, _], _ => rfl) sp2_len fun f cdv A outer s H vs Q E hr h => ?_
  obtain ⟨v, v2, p, n, rfl, ⟨a, rfl, ha⟩, rfl, rfl, k⟩ := h
  refine ⟨_, pss_one (ps_ret (pe_and (pe_callB call_isi (by rfl) T.n_isinstance (by decide +kernel) (pa_cons (pv 0) (pa_cons (pe_bltn (v := .ty "tuple") (by rfl) T.n_tuple (by decide +kernel) rfl) pa_nil)))
    (pe_and (pe_cmpR op_eq (pe_callB call_len_seq (by rfl) T.n_len PySem.boot_len (pa_cons (pv 0) pa_nil)) (pv 1) (nomark _))
    (pe_one (pe_callB (cr_all rfl) (by rfl) T.n_all (by decide +kernel) (pa_cons
      (pe_lc (own := [("one", 2)]) (g := gName 2) (tt := tYes) (by rfl) sc_rown.nd (pi_tup (pv 0))
        (blkOk_by (own := [("one", 2)]) (N := ["value", "many", "one"]) (sc := defScope (topS 13)) (by decide +kernel))
        (fun _ _ _ _ _ => pg_name (i := 2) sc_rown.nd rfl (Or.inl rfl)) (fun _ _ _ _ _ => pts_nil) (fun _ _ _ _ _ => pe_has G1 hr (by rfl) (pa_cons (pv 2) pa_nil))) pa_nil)))))), ?_⟩
  refine ⟨_, rfl, .ref a, .ty "tuple", .type "tuple", .type "tuple", true, rfl, .ty _, .base (.tup ha), kit_ty (by decide +kernel), true, rfl, iteT ?_⟩
  refine ⟨_, rfl, a, _, rfl, .inr (SqT.of ha), _, rfl, rfl, true, rfl, iteT ?_⟩
  refine ⟨_, rfl, a, rfl, ⟨_, SqT.of ha⟩, fun D hD => ?_⟩
  refine lcT (r := rI) (q := rB) (xs := [p.x, p.y, p.d]) (f := fun _ => some true) mI tB (SqT.of ha) (.cons rfl (.cons rfl (.cons rfl .nil))) hD (by show 3 ≤ sizeLine; decide) ?_ ?_
  · intro v z H2 C C0 m s2 e c1 c0
    exact ⟨rfl, _, rfl, v, z, rfl, e, trivial, fun u H3 s3 ru => c1 _ _ true s3 rfl ru⟩
  · intro H2 ys s2 hy py
    have ey : ys = [true, true, true].map V.bl := by
      have : ([p.x, p.y, p.d].filterMap fun _ => some true) = [true, true, true] := rfl
      rw [this] at py
      cases py with
      | cons a p => cases p with
        | cons b p => cases p with
          | cons c p => cases p; rw [a, b, c]; rfl
    subst ey
    exact ⟨D, [true, true, true], rfl, SqL.of hy, k _ _ s2 rfl⟩
theorem sc_is_place : FnScope ["value"] ["value"] (defScope (topS 18)) := ⟨rfl, rfl, rfl, by decide +kernel, rfl, by decide +kernel, by decide +kernel⟩
def sp_is_place : Sp := sp1 rP Pz.Can rB fun _ => true
theorem ok_is_place (T : Tx K mg) : Has P w K mg base "is_place" 3 sp_is_place := by
  have G1 : Has P w K mg base "is_row_of_numbers" 2 sp_rown := ok_rown T
  refine has_of T.is_place sc_is_place (fun _ _ _ _ _ _ us hl => match us, hl with | [_], _ => rfl) sp1_len fun f cdv A outer s H vs Q E hr h => ?_
  obtain ⟨v, p, rfl, hp, ⟨c1, c2⟩, k⟩ := h
  refine ⟨_, pss_one (ps_ret (pe_and (pe_has G1 hr (by rfl) (pa_cons (pv 0) (pa_cons pe_int pa_nil)))
    (pe_and (pe_cmpR op_gt (pD 0) pe_int (nomark _))
    (pe_one (pe_cmpR op_eq (pe_callBfun cr_gcd3 (by rfl) T.gcd (pa_cons (pX 0) (pa_cons (pY 0) (pa_cons (pD 0) pa_nil)))) pe_int (nomark _)))))), ?_⟩
  refine ⟨_, rfl, _, _, p, 3, rfl, hp, rfl, rfl, fun u H1 s1 r1 => ?_⟩
  have hp1 := mP _ _ _ _ s1 hp
  refine ⟨true, r1, iteT ?_⟩
  refine ⟨_, _, rfl, hp1, _, _, rfl, rfl, true, ?_, iteT ?_⟩
  · show V.bl (decide ((0 : Int) < p.d)) = _
    rw [decide_eq_true c1]
  refine ⟨_, _, rfl, hp1, _, _, rfl, hp1, _, _, rfl, hp1, p.x, p.y, p.d, rfl, rfl, k _ _ s1 ?_⟩
  rw [c2]
  rfl
end
/-! ### slices and sums of tuples -/
section
variable {α : Type} {r : Rl α} {K : PySem.W.Frag} {H : Hp} {Q : VK}
theorem cut_drop (xs : List V) (n : Nat) : cutV xs (some (n : Int)) none = xs.drop n := by
  unfold cutV
  rw [HT.sIx_none, HT.sIx_nat]
  by_cases h : n ≤ xs.length
  · rw [Nat.min_eq_left h, List.take_of_length_le (by rw [List.length_drop]; omega)]
  · rw [Nat.min_eq_right (by omega), List.drop_of_length_le (Nat.le_refl _), List.drop_of_length_le (by omega)]; simp
theorem cut_take (xs : List V) (n : Nat) : cutV xs none (some (n : Int)) = xs.take n := by
  unfold cutV
  rw [HT.sIx_none, HT.sIx_nat, List.drop_zero, Nat.sub_zero]
  by_cases h : n ≤ xs.length
  · rw [Nat.min_eq_left h]
  · rw [Nat.min_eq_right (by omega), List.take_of_length_le (Nat.le_refl _), List.take_of_length_le (by omega)]
theorem Paired.drop' {α β : Type} {F : α → β → Prop} : ∀ {xs : List α} {ys : List β} (n : Nat), Paired F xs ys → Paired F (xs.drop n) (ys.drop n)
  | _, _, 0, h => h
  | _, _, _ + 1, .nil => .nil
  | _, _, n + 1, .cons _ t => Paired.drop' n t
theorem Paired.take' {α β : Type} {F : α → β → Prop} : ∀ {xs : List α} {ys : List β} (n : Nat), Paired F xs ys → Paired F (xs.take n) (ys.take n)
  | _, _, 0, h => .nil
  | _, _, _ + 1, .nil => .nil
  | _, _, n + 1, .cons a t => .cons a (Paired.take' n t)
theorem sl_dropT (m : MonoT r) {x : V} {X : List α} {n : Nat} (h : rT r H x X) (k : ∀ u H', L2.Same H H' → rT r H' u (X.drop n) → Q u H') : rSlA K x (some (n : Int)) none H Q := by
  obtain ⟨a, vs, rfl, ha, p⟩ := h
  refine ⟨a, vs, rfl, SqT.of ha, fun e => k _ _ (.refl _) ⟨a, vs, rfl, ha, ?_⟩, fun _ t ht => k _ _ (same_new ht) ⟨t, _, rfl, upd_same, ?_⟩⟩
  · have := Paired.drop' n p
    have e2 := cut_drop vs n
    unfold cutV at e2
    rw [e.1, e.2] at e2
    simp at e2
    rw [← e2] at this
    exact this
  · rw [cut_drop]
    exact Paired.imp (Paired.drop' n p) fun _ _ q => m.mono _ _ _ _ (same_new ht) q
theorem sl_takeT (m : MonoT r) {x : V} {X : List α} {n : Nat} (h : rT r H x X) (k : ∀ u H', L2.Same H H' → rT r H' u (X.take n) → Q u H') : rSlA K x none (some (n : Int)) H Q := by
  obtain ⟨a, vs, rfl, ha, p⟩ := h
  refine ⟨a, vs, rfl, SqT.of ha, fun e => k _ _ (.refl _) ⟨a, vs, rfl, ha, ?_⟩, fun _ t ht => k _ _ (same_new ht) ⟨t, _, rfl, upd_same, ?_⟩⟩
  · have := Paired.take' n p
    have e2 := cut_take vs n
    unfold cutV at e2
    rw [e.1, e.2] at e2
    simp at e2
    rw [← e2] at this
    simpa using this
  · rw [cut_take]
    exact Paired.imp (Paired.take' n p) fun _ _ q => m.mono _ _ _ _ (same_new ht) q
theorem cat_T (m : MonoT r) {x y : V} {X Y : List α} (hx : rT r H x X) (hy : rT r H y Y) (hl : X.length + Y.length ≤ sizeLine) (k : ∀ u H', L2.Same H H' → rT r H' u (X ++ Y) → Q u H') : rCatA K x y H Q := by
  obtain ⟨a, vs, rfl, ha, p⟩ := hx
  obtain ⟨b, us, rfl, hb, q⟩ := hy
  have l1 := Paired.len p
  have l2 := Paired.len q
  refine ⟨a, b, vs, us, rfl, rfl, SqT.of ha, SqT.of hb, by omega, fun e => ?_, fun _ e => ?_, fun _ _ t ht => ?_⟩
  · subst e
    cases p
    exact k _ _ (.refl _) ⟨b, us, rfl, hb, q⟩
  · subst e
    cases q
    exact k _ _ (.refl _) ⟨a, vs, rfl, ha, by rw [List.append_nil]; exact p⟩
  · exact k _ _ (same_new ht) ⟨t, _, rfl, upd_same, Paired.imp (Paired.append p q) fun _ _ z => m.mono _ _ _ _ (same_new ht) z⟩
end
/-! ### zip of two tuples -/
section
variable {α β γ : Type} {a b : Addr} {vs us : List V} {xs : List α} {ys : List β} {r1 : Rl α} {r2 : Rl β} {q : Rl γ} {f : α × β → Option γ} {g : TG} {tt : TT} {te : TE} {own : List Nat} {σ : L2.St} {H1 : Hp} {D : Addr} {Qd : Hp → Prop} {K : PySem.W.Frag}
theorem lcZ (m1 : Mono r1) (m2 : Mono r2) (mq : MonoT q) (ha : H1 a = some (.tup vs)) (hb : H1 b = some (.tup us)) (pa : Paired (r1 H1) vs xs) (pb : Paired (r2 H1) us ys) (el : xs.length = ys.length)
    (hD : H1 D = none) (hl : xs.length ≤ sizeLine) (step : LcStep (rPr r1 r2) q f (xs.zip ys) g tt te own σ H1) (done : ∀ H zs, L2.Same H1 H → H D = some (.lst zs) → Paired (q H) zs ((xs.zip ys).filterMap f) → Qd H) :
    ∃ W : Nat → Nat → Hp → Prop, (∃ m, W 0 m (upd H1 D (.lst []))) ∧ ∀ i m H, W i m H →
      ((RZ.ItzT K a b).stop i H ∧ Qd H) ∨ ((RZ.ItzT K a b).go i H ∧ ∃ Nx : Hp → Prop, (∀ H', Nx H' → ∃ m', m' < m ∧ W (i + 1) m' H') ∧ ∀ x H', (RZ.ItzT K a b).yld i H x H' → g x (wipe σ own) H' fun σ2 H2 => wipe σ2 own = wipe σ own ∧ tt σ2 H2 fun b H3 =>
        if b = true then te σ2 H3 fun y H4 => ∃ acc, H4 D = some (.lst acc) ∧ acc.length < sizeLine ∧ Nx (upd H4 D (.lst (acc ++ [y]))) else Nx H3) := by
  have l1 := Paired.len pa
  have l2 := Paired.len pb
  have lz : (xs.zip ys).length = xs.length := by rw [List.length_zip]; omega
  refine ⟨fun i m H => m = xs.length - i ∧ i ≤ xs.length ∧ L2.Same H1 H ∧ ∃ zs, H D = some (.lst zs) ∧ Paired (q H) zs (((xs.zip ys).take i).filterMap f) ∧ zs.length ≤ i, ⟨_, rfl, Nat.zero_le _, same_new hD, [], upd_same, by simpa using Paired.nil, Nat.le_refl _⟩, ?_⟩
  rintro i m H ⟨rfl, hi, sm, zs, hd1, py, ly⟩
  by_cases c : i < xs.length
  · have hv : vs[i]? = some vs[i] := List.getElem?_eq_getElem (by omega)
    have hu : us[i]? = some us[i] := List.getElem?_eq_getElem (by omega)
    refine .inr ⟨⟨vs, us, _, _, SqT.of (sm _ _ ha), SqT.of (sm _ _ hb), hv, hu⟩, fun H' => L2.Same H1 H' ∧ ∃ zs, H' D = some (.lst zs) ∧ Paired (q H') zs (((xs.zip ys).take (i + 1)).filterMap f) ∧ zs.length ≤ i + 1, fun H' z => ⟨_, by omega, rfl, c, z⟩, fun v H' y => ?_⟩
    obtain ⟨T, x, z, rfl, hT, rfl, f1, f2⟩ := y
    obtain ⟨x0, hx0, rx⟩ := Paired.get pa (f1 _ (SqT.of (sm _ _ ha)))
    obtain ⟨y0, hy0, ry⟩ := Paired.get pb (f2 _ (SqT.of (sm _ _ hb)))
    have hx : (xs.zip ys)[i]? = some (x0, y0) := by rw [List.getElem?_zip_eq_some]; exact ⟨hx0, hy0⟩
    have sn : L2.Same H (upd H T (.tup [x, z])) := same_new hT
    have sm' := sm.trans sn
    refine step _ _ _ _ _ (List.mem_of_getElem? hx) sm' ⟨T, x, z, rfl, upd_same, m1 _ _ _ _ sm' rx, m2 _ _ _ _ sm' ry⟩ (fun y H4 z s4 fz qz => ?_) fun H3 s3 fn => ?_
    · have n4 := sm'.trans s4
      have d4 := s4 _ _ (sn _ _ hd1)
      refine ⟨zs, d4, by omega, same_at n4 hD, zs ++ [y], upd_same, ?_, by simp; omega⟩
      rw [take_filterMap hx, fz]
      exact PySem.Paired.snoc (Paired.imp py fun _ _ k => mq _ _ _ _ (tup_upd d4) (mq.mono _ _ _ _ (sn.trans s4) k)) (mq _ _ _ _ (tup_upd d4) qz)
    · refine ⟨sm'.trans s3, zs, s3 _ _ (sn _ _ hd1), ?_, by omega⟩
      rw [take_filterMap hx, fn, List.append_nil]
      exact Paired.imp py fun _ _ z => mq.mono _ _ _ _ (sn.trans s3) z
  · have e : i = xs.length := by omega
    subst e
    refine .inl ⟨⟨vs, us, SqT.of (sm _ _ ha), SqT.of (sm _ _ hb), .inl (by omega)⟩, done H zs sm hd1 ?_⟩
    rw [← lz, List.take_length] at py
    exact py
end
end Wk

set_option Elab.async false
set_option linter.all false
set_option maxRecDepth 100000
/-! W18: neighbours, has_place, sides. -/
namespace Wk
open PySem L2 PySem.Spec PyProof.Rows
open Pz (Pt Ln)
section
variable {P : Program} {w : World} {K : PySem.W.Frag} {mg : Str → Option Value} {base : Heap}
theorem op_neK {X : Cx} (hK : X.K = K) (hu : X.A.units + 64 < cLine) : OpR X (compareOp .NotEq) (rNeD K) := hK ▸ op_neD hu
theorem op_eqK {X : Cx} (hK : X.K = K) (hu : X.A.units + 64 < cLine) : OpR X (compareOp .Eq) (rEqD K) := hK ▸ op_eqD hu
theorem shaped_P (p : Pt) : SeqAt.shaped (dP p) = true := by
  have h := shaped_T [p]
  unfold SeqAt.shaped at h ⊢
  rw [Bool.and_eq_true] at h ⊢
  refine ⟨rfl, decide_eq_true ?_⟩
  simp [dP, PyData.depth, PyData.depthAll]
theorem sc_neighbours : FnScope ["plate", "p", "q"] ["plate"] (defScope (topS 41)) := ⟨rfl, rfl, rfl, by decide +kernel, rfl, by decide +kernel, by decide +kernel⟩
def sp_neighbours : Sp := fun vs H Q _ => ∃ v V, vs = [v] ∧ rT rP H v V ∧ V.length ≤ MANY ∧ ∀ b H', H b = none → L2.Same H H' → rL (rPr rP rP) H' (.ref b) (Pz.nbrs V) → Q (.ref b) H'
theorem none_of {H H' : Hp} {a : Addr} (s : L2.Same H H') (h : H' a = none) : H a = none := by
  cases e : H a with
  | none => rfl
  | some o => rw [s _ _ e] at h; exact nomatch h
theorem ok_neighbours (T : Tx K mg) : Has P w K mg base "neighbours" 1 sp_neighbours := by
  refine has_of T.neighbours sc_neighbours (fun _ _ _ _ _ _ us hl => match us, hl with | [_], _ => rfl) (fun _ _ _ _ ⟨_, _, e, _⟩ => by rw [e]; rfl) fun f cdv A outer s H vs Q E hr h => ?_
  obtain ⟨v, V, rfl, hv, lV, k⟩ := h
  have hu : (A.deeper (envOfC "neighbours" (defScope (topS 41)) s.heap.objs.size f cdv)).units + 64 < cLine := by have := hr.units; omega
  refine ⟨_, pss_one (ps_ret (pe_lc (own := [("p", 1), ("q", 2)]) (g := gTup K 2 (gCons (gName 1) (gCons (gName 2) gNil))) (by rfl) sc_neighbours.nd
      (RZ.pi_zipA (by rfl) T.n_zip (pa_cons (pv 0) (pa_cons (pe_op op_catA (pe_slice sl_tupA (pv 0) (po_some pe_int) po_none) (pe_slice sl_tupA (pv 0) po_none (po_some pe_int))) pa_nil)))
      (blkOk_by (own := [("p", 1), ("q", 2)]) (N := ["plate", "p", "q"]) (sc := defScope (topS 41)) (by decide +kernel))
      (fun _ _ _ _ _ => pg_tup (by rfl) (pgs_cons (pg_name (i := 1) sc_neighbours.nd rfl (Or.inl rfl)) (pgs_cons (pg_name (i := 2) sc_neighbours.nd rfl (Or.inl rfl)) pgs_nil)))
      (fun _ _ _ _ _ => pts_one (pt_cmpR (op_neK rfl hu) (pv 1) (pv 2) (nomark _))) (fun _ _ _ _ _ => pe_tup (pa_cons (pv 1) (pa_cons (pv 2) pa_nil))))), ?_⟩
  have sz : sizeLine = 16777216 := rfl
  have many : MANY = 300 := rfl
  refine ⟨_, rfl, _, rfl, ((1 : Nat) : Int), rfl, ?_⟩
  unfold tNoPart
  show rSlA K v (some ((1 : Nat) : Int)) none H _
  refine sl_dropT (r := rP) (n := 1) tP hv fun u1 H1 s1 r1 => ?_
  refine ⟨_, rfl, ((1 : Nat) : Int), rfl, ?_⟩
  try unfold tNoPart
  show rSlA K v none (some ((1 : Nat) : Int)) H1 _
  refine sl_takeT (r := rP) (n := 1) tP (mT mP _ _ _ _ s1 hv) fun u2 H2 s2 r2 => ?_
  show rCatA K u1 u2 H2 _
  refine cat_T tP (mT mP _ _ _ _ s2 r1) r2 (by rw [List.length_drop, List.length_take]; omega) fun u3 H3 s3 r3 => ?_
  have s13 := s1.trans (s2.trans s3)
  obtain ⟨a, vs, rfl, ha, pa⟩ := mT mP _ _ _ _ s13 hv
  obtain ⟨b, us, rfl, hb, pb⟩ := r3
  have el : V.length = (V.drop 1 ++ V.take 1).length := by rw [List.length_append, List.length_drop, List.length_take]; omega
  refine ⟨a, b, vs, us, rfl, .inr ⟨SqT.of ha, SqT.of hb, fun D hD => ?_⟩⟩
  refine lcZ (q := rPr rP rP) (f := fun e : Pt × Pt => if e.1 ≠ e.2 then some e else none) mP mP (tPr tP tP) ha hb pa pb el hD (by omega) ?_ ?_
  · intro v e H4 C C0 m s4 rv c1 c0
    obtain ⟨t, x, y, rfl, ht, rx, ry⟩ := rv
    refine ⟨t, _, rfl, SqT.of ht, rfl, _, _, rfl, _, _, rfl, rfl, rfl, ?_⟩
    refine ⟨_, rfl, _, rfl, _, _, dp_P rx, dp_P ry, shaped_P _, shaped_P _, ?_⟩
    refine ⟨_, rfl, ?_⟩
    rw [eqv_P]
    by_cases q : e.1 = e.2
    · rw [decide_eq_true q]
      exact c0 _ (.refl _) (if_neg (fun z => z q))
    · rw [decide_eq_false q]
      refine ⟨_, rfl, _, rfl, by show 2 ≤ sizeLine; decide, fun p hp => ?_⟩
      have sn := same_new (o := .tup [x, y]) hp
      exact c1 _ _ e sn (if_pos q) ⟨p, x, y, rfl, upd_same, mP _ _ _ _ sn rx, mP _ _ _ _ sn ry⟩
  · intro H4 ys s4 hy py
    refine k _ _ (none_of s13 hD) (s13.trans s4) ⟨D, ys, rfl, hy, ?_⟩
    have : (V.zip (V.drop 1 ++ V.take 1)).filterMap (fun e : Pt × Pt => if e.1 ≠ e.2 then some e else none) = Pz.nbrs V := by
      unfold Pz.nbrs Pz.cyc
      rw [← List.filterMap_eq_filter]
      congr 1
      funext e
      by_cases q : e.1 = e.2 <;> simp [q, Option.guard]
    rw [← this]
    exact py
end
end Wk

set_option Elab.async false
set_option linter.all false
set_option maxRecDepth 100000
/-! W19: has_place, sides, mirror, led. -/
namespace Wk
open PySem L2 PySem.Spec PyProof.Rows
open Pz (Pt Ln)
section
variable {α : Type} {r : Rl α} {K : PySem.W.Frag} {H : Hp} {Q : VK} {x : V} {X : List α} {z : α}
theorem atI_nat {α : Type} {xs : List α} {n : Nat} {v : α} (h : xs[n]? = some v) : atI xs (n : Int) = some v := by
  have hl := (List.getElem?_eq_some_iff.mp h).1
  unfold atI ixN
  rw [if_pos (by omega), if_pos (by omega)]
  simpa using h
theorem ixT (h : rT r H x X) {n : Nat} (e : X[n]? = some z) (k : ∀ v, r H v z → Q v H) : rIxT K x (.int (n : Int)) H Q := by
  obtain ⟨a, vs, rfl, ha, p⟩ := h
  obtain ⟨v, hv, rv⟩ := Paired.get' p e
  exact ⟨a, vs, _, v, rfl, rfl, SqT.of ha, atI_nat hv, k v rv⟩
theorem ixL (h : rL r H x X) {n : Nat} (e : X[n]? = some z) (k : ∀ v, r H v z → Q v H) : rIxL K x (.int (n : Int)) H Q := by
  obtain ⟨a, vs, rfl, ha, p⟩ := h
  obtain ⟨v, hv, rv⟩ := Paired.get' p e
  exact ⟨a, vs, _, v, rfl, rfl, SqL.of ha, atI_nat hv, k v rv⟩
theorem ixT_last (h : rT r H x X) (e : X.getLast? = some z) (k : ∀ v, r H v z → Q v H) : rIxT K x (.int (-1)) H Q := by
  obtain ⟨a, vs, rfl, ha, p⟩ := h
  obtain ⟨X', rfl⟩ : ∃ X', X = X' ++ [z] := by
    obtain ⟨ys, hy⟩ := List.getLast?_eq_some_iff.mp e
    exact ⟨ys, hy⟩
  obtain ⟨vs', v, rfl, _, rv⟩ := paired_snoc p
  exact ⟨a, _, _, v, rfl, rfl, SqT.of ha, atI_last _ _, k v rv⟩
end
section
variable {P : Program} {w : World} {K : PySem.W.Frag} {mg : Str → Option Value} {base : Heap}
theorem nbrs_mem {V : List Pt} {e : Pt × Pt} (h : e ∈ Pz.nbrs V) : e.1 ∈ V ∧ e.2 ∈ V ∧ e.1 ≠ e.2 := by
  obtain ⟨a, b⟩ := e
  obtain ⟨h1, h2⟩ := Pz.mem_nbrs.mp h
  exact ⟨(Pz.cyc_mem h1).1, (Pz.cyc_mem h1).2, h2⟩
theorem sc_has_place : FnScope ["plate", "p", "one", "other"] ["plate", "p"] (defScope (topS 42)) := ⟨rfl, rfl, rfl, by decide +kernel, rfl, by decide +kernel, by decide +kernel⟩
def sp_has_place : Sp := sp2 (rT rP) rP (fun V p => (∀ q ∈ V, Sm q) ∧ Sm p ∧ V ≠ [] ∧ V.length ≤ MANY) rB Pz.hasM
theorem ok_has_place (T : Tx K mg) : Has P w K mg base "has_place" 5 sp_has_place := by
  have G1 : Has P w K mg base "turn" 4 sp_turn := ok_turn T
  have G2 : Has P w K mg base "neighbours" 1 sp_neighbours := ok_neighbours T
  have G3 : Has P w K mg base "comes_first" 1 sp_first := ok_first T
  refine has_of T.has_place sc_has_place (fun _ _ _ _ _ _ us hl => match us, hl with | [_, _], _ => rfl) sp2_len fun f cdv A outer s H vs Q E hr h => ?_
  obtain ⟨v, v2, V, p, rfl, hv, hp, ⟨sV, sp, ne, lV⟩, k⟩ := h
  have m1 := hr.mono (show 1 ≤ 4 by decide)
  refine ⟨_, pss_cons (ps_if (pt_not (pt_val (pe_callB (cr_all rfl) (by rfl) T.n_all (by decide +kernel) (pa_cons
      (pe_lc (own := [("one", 2), ("other", 3)]) (g := gTup K 2 (gCons (gName 2) (gCons (gName 3) gNil))) (tt := tYes) (by rfl) sc_has_place.nd
        (pi_list (pe_has G2 m1 (by rfl) (pa_cons (pv 0) pa_nil)))
        (blkOk_by (own := [("one", 2), ("other", 3)]) (N := ["plate", "p", "one", "other"]) (sc := defScope (topS 42)) (by decide +kernel))
        (fun _ _ _ _ _ => pg_tup (by rfl) (pgs_cons (pg_name (i := 2) sc_has_place.nd rfl (Or.inl rfl)) (pgs_cons (pg_name (i := 3) sc_has_place.nd rfl (Or.inl rfl)) pgs_nil)))
        (fun _ _ _ _ _ => pts_nil) (fun _ _ _ _ _ => pe_cmpR op_ge (pe_has G1 hr (by rfl) (pa_cons (pv 2) (pa_cons (pv 3) (pa_cons (pv 1) pa_nil)))) pe_int (nomark _))) pa_nil))))
      (pss_one (ps_ret pe_bl)) pss_nil)
    (pss_one (ps_ret (pe_or (pe_cmpR op_gt (pe_callB call_len_seq (by rfl) T.n_len PySem.boot_len (pa_cons (pv 0) pa_nil)) pe_int (nomark _))
      (pe_one (pe_and (pe_not (pe_has G3 m1 (by rfl) (pa_cons (pv 1) (pa_cons (pe_ix ix_tup (pv 0) pe_int (fun _ _ => rfl)) pa_nil))))
        (pe_one (pe_not (pe_has G3 m1 (by rfl) (pa_cons (pe_ix ix_tup (pv 0) (pe_un un_neg pe_int) (fun _ _ => rfl)) (pa_cons (pv 1) pa_nil)))))))))), ?_⟩
  have sz : sizeLine = 16777216 := rfl
  have many : MANY = 300 := rfl
  refine ⟨_, rfl, v, V, rfl, hv, lV, fun b H1 _ s1 r1 => ?_⟩
  obtain ⟨b', zs, eb, hb, pb⟩ := r1
  cases eb
  have lb := Paired.len pb
  have ln := Pz.nbrs_len V
  refine ⟨b, rfl, ⟨_, SqL.of hb⟩, fun D hD => ?_⟩
  have hp1 := mP _ _ _ _ s1 hp
  refine lcL (r := rPr rP rP) (q := rB) (xs := Pz.nbrs V) (f := fun e => some (decide (0 ≤ Pz.det e.1 e.2 p))) (mPr mP mP) tB (SqL.of hb) pb hD (by omega) ?_ ?_
  · intro x e H4 C C0 m s4 rv c1 c0
    obtain ⟨t, y, z, rfl, ht, ry, rz⟩ := rv
    obtain ⟨n1, n2, _⟩ := nbrs_mem m
    refine ⟨t, _, rfl, SqT.of ht, rfl, _, _, rfl, _, _, rfl, rfl, rfl, ?_⟩
    refine ⟨_, rfl, _, rfl, _, rfl, _, _, _, e.1, e.2, p, rfl, ry, rz, mP _ _ _ _ s4 hp1, ⟨sV _ n1, sV _ n2, sp⟩, fun u5 H5 s5 r5 => ?_⟩
    refine ⟨_, _, r5, rfl, ?_⟩
    refine c1 _ _ _ s5 rfl ?_
    show L2.V.bl _ = L2.V.bl _
    congr 1
    exact decide_eq_decide.mpr sgn_nonneg
  · intro H2 ys s2 hy py
    have ey : ys = ((Pz.nbrs V).map fun e => decide (0 ≤ Pz.det e.1 e.2 p)).map L2.V.bl := by
      rw [show ((Pz.nbrs V).filterMap fun e => some (decide (0 ≤ Pz.det e.1 e.2 p))) = (Pz.nbrs V).map fun e => decide (0 ≤ Pz.det e.1 e.2 p) by rw [List.filterMap_eq_map']] at py
      generalize ((Pz.nbrs V).map fun e => decide (0 ≤ Pz.det e.1 e.2 p)) = bs at py
      clear hy
      induction py with
      | nil => rfl
      | cons r _ ih => rw [ih, List.map_cons, r]
    subst ey
    have s12 := s1.trans s2
    have hv2 := mT mP _ _ _ _ s12 hv
    have hp2 := mP _ _ _ _ s12 hp
    refine ⟨D, _, rfl, SqL.of hy, _, rfl, ?_⟩
    have e0 : (((Pz.nbrs V).map fun e => decide (0 ≤ Pz.det e.1 e.2 p)).all id) = (Pz.nbrs V).all fun e => decide (0 ≤ Pz.det e.1 e.2 p) := by rw [List.all_map]; rfl
    rw [e0]
    have hM : Pz.hasM V p = ((Pz.nbrs V).all (fun e => decide (0 ≤ Pz.det e.1 e.2 p)) && (decide (2 < V.length) || (!decide (Pz.Lt p (V.headD p)) && !decide (Pz.Lt (V.getLastD p) p)))) := rfl
    generalize (Pz.nbrs V).all (fun e => decide (0 ≤ Pz.det e.1 e.2 p)) = B at *
    cases B with
    | false => exact k _ _ s12 (by rw [hM]; rfl)
    | true =>
      obtain ⟨a, vs, rfl, ha, pa⟩ := id hv2
      have lv := Paired.len pa
      obtain ⟨hd, ehd⟩ : ∃ q, V[0]? = some q := ⟨V[0]'(by cases V; exact absurd rfl ne; simp), List.getElem?_eq_getElem _⟩
      obtain ⟨ls, els⟩ : ∃ q, V.getLast? = some q := ⟨V.getLast ne, List.getLast?_eq_some_getLast ne⟩
      have eh : V.headD p = hd := by cases V with | nil => exact absurd rfl ne | cons q r => simp at ehd; exact ehd
      have el : V.getLastD p = ls := by rw [List.getLastD_eq_getLast?, els]; rfl
      refine ⟨_, rfl, a, vs, rfl, .inr (SqT.of ha), _, _, rfl, rfl, _, rfl, ?_⟩
      rw [eh, el] at hM
      by_cases c : 2 < V.length
      · rw [decide_eq_true c] at hM
        rw [decide_eq_true (show (2 : Int) < (vs.length : Int) by omega)]
        exact k _ _ s12 (by rw [hM]; rfl)
      · rw [decide_eq_false c] at hM
        rw [decide_eq_false (show ¬ (2 : Int) < (vs.length : Int) by omega)]
        refine ⟨_, rfl, _, rfl, ?_⟩
        refine ixT hv2 (n := 0) ehd fun vh rh => ?_
        refine ⟨_, _, p, hd, rfl, hp2, rh, ⟨sp, sV _ (List.mem_of_getElem? ehd)⟩, fun u5 H5 s5 r5 => ?_⟩
        have hv5 := mT mP _ _ _ _ s5 hv2
        have hp5 := mP _ _ _ _ s5 hp2
        refine ⟨_, r5, _, rfl, ?_⟩
        show (if (!decide (Pz.Lt p hd)) = true then _ else _)
        by_cases c1 : Pz.Lt p hd
        · rw [decide_eq_true c1] at hM ⊢
          exact k _ _ (s12.trans s5) (by rw [hM]; rfl)
        · rw [decide_eq_false c1] at hM ⊢
          refine ⟨_, rfl, _, rfl, ?_⟩
          refine ixT_last hv5 els fun vl rl => ?_
          refine ⟨_, rfl, _, _, ls, p, rfl, rl, hp5, ⟨sV _ (List.mem_of_getLast? els), sp⟩, fun u6 H6 s6 r6 => ?_⟩
          exact ⟨_, r6, k _ _ (s12.trans (s5.trans s6)) (by rw [hM]; rfl)⟩
end
end Wk

set_option Elab.async false
set_option linter.all false
set_option maxRecDepth 100000
/-! W20: sides, cut_plate. -/
namespace Wk
open PySem L2 PySem.Spec PyProof.Rows
open Pz (Pt Ln)
/-- what is tracked stays, but for one list -/
def SameX (D : Addr) (H H' : Hp) : Prop := ∀ a o, a ≠ D → H a = some o → H' a = some o
theorem SameX.upd {D : Addr} {H H' : Hp} {o : HO} (h : SameX D H H') : SameX D H (upd H' D o) := fun a u n e => by rw [upd_ne n]; exact h _ _ n e
theorem SameX.trans {D : Addr} {H H' H'' : Hp} (h : SameX D H H') (s : L2.Same H' H'') : SameX D H H'' := fun a u n e => s _ _ (h _ _ n e)
theorem SameX.tup {D : Addr} {H H' : Hp} {ys : List V} (h : SameX D H H') (d : H D = some (.lst ys)) : TupSame H H' := fun b xs e => h _ _ (ne_of e d (by intro z; cases z)) e
def rSd : Rl ((Int × Int) × Pt × Pt) := fun H v x => ∃ a u p q, v = .ref a ∧ H a = some (.tup [u, p, q]) ∧ rU H u x.1 ∧ rP H p x.2.1 ∧ rP H q x.2.2
theorem tSd : MonoT rSd := fun _ _ _ _ s ⟨a, u, p, q, e, h, x, y, z⟩ => ⟨a, u, p, q, e, s _ _ h, tU _ _ _ _ s x, tP _ _ _ _ s y, tP _ _ _ _ s z⟩
/-- places that are let, in a tuple -/
def LetV (V : List Pt) : Prop := (∀ q ∈ V, Pz.Can q ∧ Sm q) ∧ 2 * V.length ≤ MANY
section
variable {P : Program} {w : World} {K : PySem.W.Frag} {mg : Str → Option Value} {base : Heap}
theorem LetV.len {V : List Pt} (h : LetV V) : V.length ≤ MANY := by have := h.2; omega
theorem sc_sides : FnScope ["plate", "p", "q"] ["plate"] (defScope (topS 43)) := ⟨rfl, rfl, rfl, by decide +kernel, rfl, by decide +kernel, by decide +kernel⟩
def sp_sides : Sp := sp1 (rT rP) LetV (rL rSd) fun V => (Pz.nbrs V).map Pz.sideM
theorem ok_sides (T : Tx K mg) : Has P w K mg base "sides" 5 sp_sides := by
  have G1 : Has P w K mg base "towards" 4 sp_towards := ok_towards T
  have G2 : Has P w K mg base "neighbours" 1 sp_neighbours := ok_neighbours T
  have G3 : Has P w K mg base "quarter" 1 sp_quarter := ok_quarter T
  have G4 : Has P w K mg base "back" 1 sp_back := ok_back T
  refine has_of T.sides sc_sides (fun _ _ _ _ _ _ us hl => match us, hl with | [_], _ => rfl) sp1_len fun f cdv A outer s H vs Q E hr h => ?_
  obtain ⟨v, V, rfl, hv, lV, k⟩ := h
  have m1 := hr.mono (show 1 ≤ 4 by decide)
  refine ⟨_, pss_one (ps_ret (pe_lc (own := [("p", 1), ("q", 2)]) (g := gTup K 2 (gCons (gName 1) (gCons (gName 2) gNil))) (tt := tYes) (by rfl) sc_sides.nd
      (pi_list (pe_has G2 m1 (by rfl) (pa_cons (pv 0) pa_nil)))
      (blkOk_by (own := [("p", 1), ("q", 2)]) (N := ["plate", "p", "q"]) (sc := defScope (topS 43)) (by decide +kernel))
      (fun _ _ _ _ _ => pg_tup (by rfl) (pgs_cons (pg_name (i := 1) sc_sides.nd rfl (Or.inl rfl)) (pgs_cons (pg_name (i := 2) sc_sides.nd rfl (Or.inl rfl)) pgs_nil)))
      (fun _ _ _ _ _ => pts_nil) (fun _ _ _ _ _ => pe_tup (pa_cons (pe_has G4 m1 (by rfl) (pa_cons (pe_has G3 m1 (by rfl) (pa_cons (pe_has G1 hr (by rfl) (pa_cons (pv 1) (pa_cons (pv 2) pa_nil))) pa_nil)) pa_nil)) (pa_cons (pv 1) (pa_cons (pv 2) pa_nil)))))), ?_⟩
  have sz : sizeLine = 16777216 := rfl
  have many : MANY = 300 := rfl
  refine ⟨_, rfl, v, V, rfl, hv, lV.len, fun b H1 _ s1 r1 => ?_⟩
  obtain ⟨b', zs, eb, hb, pb⟩ := r1
  cases eb
  have lb := Paired.len pb
  have ln := Pz.nbrs_len V
  have l1 := lV.len
  refine ⟨b, rfl, ⟨_, SqL.of hb⟩, fun D hD => ?_⟩
  refine lcL (r := rPr rP rP) (q := rSd) (xs := Pz.nbrs V) (f := fun e => some (Pz.sideM e)) (mPr mP mP) tSd (SqL.of hb) pb hD (by omega) ?_ ?_
  · intro x e H4 C C0 m s4 rv c1 c0
    obtain ⟨t, y, z, rfl, ht, ry, rz⟩ := rv
    obtain ⟨n1, n2, n3⟩ := nbrs_mem m
    refine ⟨t, _, rfl, SqT.of ht, rfl, _, _, rfl, _, _, rfl, rfl, rfl, ?_⟩
    refine ⟨_, rfl, _, rfl, _, _, e.1, e.2, rfl, ry, rz, ⟨(lV.1 _ n1).2, (lV.1 _ n2).2, Pz.lt_nz (lV.1 _ n1).1 (lV.1 _ n2).1 n3⟩, fun u5 H5 s5 r5 => ?_⟩
    refine ⟨_, _, rfl, r5, trivial, fun u6 H6 s6 r6 => ?_⟩
    refine ⟨_, _, rfl, r6, trivial, fun u7 H7 s7 r7 => ?_⟩
    refine ⟨_, rfl, _, rfl, by show 3 ≤ sizeLine; decide, fun p hp => ?_⟩
    have s57 := s5.trans (s6.trans s7)
    have sn := same_new (o := .tup [u7, y, z]) hp
    exact c1 _ _ _ (s57.trans sn) rfl ⟨p, u7, y, z, rfl, upd_same, mU _ _ _ _ sn r7, mP _ _ _ _ (s57.trans sn) ry, mP _ _ _ _ (s57.trans sn) rz⟩
  · intro H2 ys s2 hy py
    refine k _ _ (s1.trans s2) ⟨D, ys, rfl, hy, ?_⟩
    rw [show ((Pz.nbrs V).filterMap fun e => some (Pz.sideM e)) = (Pz.nbrs V).map Pz.sideM by rw [List.filterMap_eq_map']] at py
    exact py
end
end Wk

set_option Elab.async false
set_option linter.all false
set_option maxRecDepth 100000
/-! W21: cut_plate. -/
namespace Wk
open PySem L2 PySem.Spec PyProof.Rows
open Pz (Pt Ln)
theorem SameX.same {D : Addr} {H H0 H1 : Hp} (s : L2.Same H H0) (x : SameX D H0 H1) (n : H D = none) : L2.Same H H1 := fun a o e => x _ _ (fun q => by rw [q, n] at e; exact nomatch e) (s _ _ e)
theorem op_mulN {X : Cx} : OpR X (binaryOp .Mult) (L2.rI (fun i j => CMulW i j) fun i j => .int (i * j)) := op_mulW
theorem dep_sz {h : Ln} {p : Pt} (hs : Pz.SzL LIM h) (sp : Sm p) : (Pz.ev (Pz.dep h) p).natAbs ≤ DEP := by
  obtain ⟨⟨px, py, pd⟩, _⟩ := sp
  obtain ⟨a, b, c⟩ := hs
  have h1 := Pz.abs_mul a px
  have h2 := Pz.abs_mul b py
  have h3 := Pz.abs_mul c pd
  have e : Pz.ev (Pz.dep h) p = h.a * p.x + h.b * p.y - h.c * p.d := by
    simp only [Pz.ev, Pz.dep]
    rw [Int.neg_mul]; omega
  rw [e]
  unfold DEP
  omega
theorem mulDD {a b : Int} (ha : a.natAbs ≤ DEP) (hb : b.natAbs ≤ DEP) : CMulW a b := big_mul (Nat.lt_of_le_of_lt ha dep_big) (Nat.lt_of_le_of_lt hb dep_big)
theorem sq_nonneg (a : Int) : ¬ a * a < 0 := by
  have : 0 ≤ a * a := by
    rcases Int.le_total 0 a with k | k
    · exact Int.mul_nonneg k k
    · exact Int.mul_nonneg_of_nonpos_of_nonpos k k
  omega
/-- where the line of h crosses a side -/
def crG (h : Ln) (e : Pt × Pt) : Option Pt := if Pz.ev h e.1 * Pz.ev h e.2 < 0 then some (Pz.cross e.1 e.2 (Pz.ev h e.1) (Pz.ev h e.2)) else none
theorem cutL_nbrs (V : List Pt) (h : Ln) : Pz.cutL V h = (V.filter fun p => decide (0 ≤ Pz.ev h p)) ++ (Pz.nbrs V).filterMap (crG h) := by
  unfold Pz.cutL Pz.nbrs
  congr 1
  rw [List.filterMap_filter]
  congr 1
  funext e
  unfold crG
  by_cases q : e.1 = e.2
  · rw [q, if_neg (sq_nonneg _)]
    simp
  · simp [q]
section
variable {P : Program} {w : World} {K : PySem.W.Frag} {mg : Str → Option Value} {base : Heap}
theorem sc_cut : FnScope ["plate", "half_plane", "found", "p", "q", "one", "other"] ["plate", "half_plane"] (defScope (topS 46)) := ⟨rfl, rfl, rfl, by decide +kernel, rfl, by decide +kernel, by decide +kernel⟩
def sp_cut : Sp := sp2 (rT rP) rH (fun V h => LetV V ∧ Pz.SzL LIM h ∧ ∀ q ∈ Pz.cutL V (Pz.dep h), Sm q) (rO (rT rP)) Pz.cutM
theorem ok_cut (T : Tx K mg) : Has P w K mg base "cut_plate" 7 sp_cut := by
  have G1 : Has P w K mg base "depth" 1 sp_depth := ok_depth T
  have G2 : Has P w K mg base "neighbours" 1 sp_neighbours := ok_neighbours T
  have G3 : Has P w K mg base "met_at" 3 sp_met_at := ok_met_at T
  have G4 : Has P w K mg base "hull" 6 sp_hull := ok_hull T
  refine has_of T.cut_plate sc_cut (fun _ _ _ _ _ _ us hl => match us, hl with | [_, _], _ => rfl) sp2_len fun f cdv A outer s H vs Q E hr h => ?_
  obtain ⟨v, v2, V, h, rfl, hv, hh, ⟨lV, sh, sL⟩, k⟩ := h
  have m1 := hr.mono (show 1 ≤ 6 by decide)
  have m3 := hr.mono (show 3 ≤ 6 by decide)
  have hu : (A.deeper (envOfC "cut_plate" (defScope (topS 46)) s.heap.objs.size f cdv)).units + 64 < cLine := by have := hr.units; omega
  refine ⟨_, pss_cons (ps_setLc (i := 2) (own := [("p", 3)]) (g := gName 3) (by rfl) sc_cut.nd rfl rfl (sw_true rfl rfl rfl (by decide +kernel)) (pi_tup (pv 0))
      (blkOk_by (own := [("p", 3)]) (N := ["plate", "half_plane", "found", "p", "q", "one", "other"]) (sc := defScope (topS 46)) (by decide +kernel))
      (fun _ _ _ _ _ => pg_name (i := 3) sc_cut.nd rfl (Or.inl rfl)) (fun _ _ _ _ _ => pts_one (pt_cmpR op_ge (pe_has G1 m1 (by rfl) (pa_cons (pv 1) (pa_cons (pv 3) pa_nil))) pe_int (nomark _)))
      (fun _ _ _ _ _ => pv 3))
    (pss_cons (ps_for PassesOwn.never rfl (pi_list (pe_has G2 m1 (by rfl) (pa_cons (pv 0) pa_nil)))
        (pg_tup (by rfl) (pgs_cons (pg_name (i := 3) sc_cut.nd rfl (Or.inl rfl)) (pgs_cons (pg_name (i := 4) sc_cut.nd rfl (Or.inl rfl)) pgs_nil)))
      (pss_cons (ps_par (i := 5) (j := 6) (by rfl) sc_cut.nd rfl rfl (by decide) rfl rfl (pa_cons (pe_has G1 m1 (by rfl) (pa_cons (pv 1) (pa_cons (pv 3) pa_nil))) (pa_cons (pe_has G1 m1 (by rfl) (pa_cons (pv 1) (pa_cons (pv 4) pa_nil))) pa_nil)) (by rfl))
      (pss_one (ps_if (pt_cmpR op_lt (pe_op op_mulN (pv 5) (pv 6)) pe_int (nomark _))
        (pss_one (ps_expr (pe_bm PySem.F.plainAttrs_list PySem.F.slot_list_append PySem.F.type_list_append mt_append (pv 2) (pa_cons (pe_has G3 m3 (by rfl) (pa_cons (pv 3) (pa_cons (pv 4) (pa_cons (pv 5) (pa_cons (pv 6) pa_nil))))) pa_nil)))) pss_nil))))
    (pss_one (ps_ret (pe_ifExp (pt_cmpR (op_eqD hu) (pv 2) (pe_lst pa_nil) (nomark _)) pe_non (pe_has G4 hr (by rfl) (pa_cons (pv 2) pa_nil)))))), ?_⟩
  have sz : sizeLine = 16777216 := rfl
  have many : MANY = 300 := rfl
  have l2 := lV.2
  have cL := cutL_nbrs V (Pz.dep h)
  have lN := Pz.nbrs_len V
  have cC : ∀ q ∈ Pz.cutL V (Pz.dep h), Pz.Can q := Pz.cutL_can fun q m => (lV.1 q m).1
  obtain ⟨a, vs, rfl, ha, pa⟩ := id hv
  have la := Paired.len pa
  -- the corners that are let
  refine ⟨_, rfl, a, rfl, ⟨_, SqT.of ha⟩, fun D hD => ?_⟩
  refine lcT (r := rP) (q := rP) (xs := V) (f := fun p => if decide (0 ≤ Pz.ev (Pz.dep h) p) = true then some p else none) mP tP (SqT.of ha) pa hD (by omega) ?_ ?_
  · intro x p H4 C C0 m s4 rv c1 c0
    refine ⟨rfl, ?_⟩
    refine ⟨_, rfl, _, rfl, _, _, h, p, rfl, mH _ _ _ _ s4 hh, rv, ⟨sh, (lV.1 p m).2⟩, fun u5 H5 s5 r5 => ?_⟩
    refine ⟨_, _, r5, rfl, _, rfl, ?_⟩
    by_cases q : 0 ≤ Pz.ev (Pz.dep h) p
    · rw [decide_eq_true q]
      exact ⟨_, rfl, c1 _ _ p s5 (if_pos (decide_eq_true q)) (mP _ _ _ _ s5 rv)⟩
    · rw [decide_eq_false q]
      exact c0 _ s5 (if_neg (by rw [decide_eq_false q]; decide))
  intro H2 ys0 s2 hD2 py0
  have e0 : V.filterMap (fun p => if decide (0 ≤ Pz.ev (Pz.dep h) p) = true then some p else none) = V.filter fun p => decide (0 ≤ Pz.ev (Pz.dep h) p) := by
    rw [← List.filterMap_eq_filter]
    rfl
  rw [e0] at py0
  have ly0 := Paired.len py0
  have lf := List.length_filter_le (fun p => decide (0 ≤ Pz.ev (Pz.dep h) p)) V
  -- the sides
  refine ⟨_, rfl, _, V, rfl, mT mP _ _ _ _ s2 hv, lV.len, fun b H3 hb0 s3 r3 => ?_⟩
  obtain ⟨b', zs, eb, hb, pb⟩ := r3
  cases eb
  have lb := Paired.len pb
  have bD : b ≠ D := fun e => by rw [e, hD2] at hb0; exact nomatch hb0
  have s03 := s2.trans s3
  have D3 := s3 _ _ hD2
  refine ⟨b, rfl, ⟨_, SqL.of hb⟩, ?_⟩
  refine for_list (K := K) (a := b) (xs := zs) (fun i σ H5 => ∃ (xp xq xo xt : Option L2.V) (ys : List L2.V), σ = [some (.ref a), some v2, some (.ref D), xp, xq, xo, xt] ∧ SameX D H3 H5 ∧ H5 D = some (.lst ys) ∧
      Paired (rP H5) ys ((V.filter fun p => decide (0 ≤ Pz.ev (Pz.dep h) p)) ++ ((Pz.nbrs V).take i).filterMap (crG (Pz.dep h))) ∧ ys.length ≤ V.length + i)
    ⟨none, none, none, none, ys0, rfl, fun _ _ _ e => e, D3, by simpa using Paired.imp py0 fun _ _ r => mP _ _ _ _ s3 r, by omega⟩ (fun i σ H5 _ ⟨_, _, _, _, _, _, x5, _⟩ => SqL.of (x5 _ _ bD hb)) ?_ ?_
  · rintro i y σ H5 hi ⟨xp, xq, xo, xt, ys, rfl, x5, hy, py, ly⟩
    obtain ⟨e, he, ry⟩ := Paired.get pb hi
    have il : i < (Pz.nbrs V).length := (List.getElem?_eq_some_iff.mp he).1
    obtain ⟨n1, n2, n3⟩ := nbrs_mem (List.mem_of_getElem? he)
    have t5 : TupSame H3 H5 := x5.tup D3
    obtain ⟨t, z1, z2, rfl, ht, r1, r2⟩ := tPr tP tP _ _ _ _ t5 ry
    have hh5 : rH H5 v2 h := tH _ _ _ _ t5 (mH _ _ _ _ s03 hh)
    refine ⟨t, _, rfl, SqT.of ht, rfl, _, _, rfl, _, _, rfl, rfl, ?_⟩
    refine ⟨_, rfl, _, rfl, _, _, h, e.1, rfl, hh5, r1, ⟨sh, (lV.1 _ n1).2⟩, fun u6 H6 s6 r6 => ?_⟩
    refine ⟨_, rfl, _, rfl, _, _, h, e.2, rfl, mH _ _ _ _ s6 hh5, mP _ _ _ _ s6 r2, ⟨sh, (lV.1 _ n2).2⟩, fun u7 H7 s7 r7 => ⟨_, _, rfl, ?_⟩⟩
    rw [show u6 = L2.V.int (Pz.ev (Pz.dep h) e.1) from r6, show u7 = L2.V.int (Pz.ev (Pz.dep h) e.2) from r7]
    have s57 := s6.trans s7
    have tk : ((Pz.nbrs V).take (i + 1)).filterMap (crG (Pz.dep h)) = ((Pz.nbrs V).take i).filterMap (crG (Pz.dep h)) ++ (match crG (Pz.dep h) e with | some z => [z] | none => []) := by rw [take_filterMap (f := crG (Pz.dep h)) he]; cases crG (Pz.dep h) e <;> rfl
    have d1 := dep_sz sh (lV.1 _ n1).2
    have d2 := dep_sz sh (lV.1 _ n2).2
    refine ⟨_, rfl, _, rfl, _, _, rfl, rfl, mulDD d1 d2, _, _, rfl, rfl, _, rfl, ?_⟩
    by_cases q : Pz.ev (Pz.dep h) e.1 * Pz.ev (Pz.dep h) e.2 < 0
    · rw [decide_eq_true q]
      refine ⟨_, rfl, .inl ⟨rfl, _, SqL.of (s57 _ _ hy)⟩, ?_⟩
      refine ⟨_, rfl, _, rfl, _, rfl, _, rfl, _, _, e.1, e.2, _, _, rfl, mP _ _ _ _ s57 r1, mP _ _ _ _ s57 r2, (lV.1 _ n1).2, (lV.1 _ n2).2, d1, d2, q, fun u8 H8 s8 r8 => ?_⟩
      have hy8 := s8 _ _ (s57 _ _ hy)
      refine ⟨D, ys, u8, rfl, rfl, hy8, by omega, ?_⟩
      have tu : TupSame H8 (upd H8 D (.lst (ys ++ [u8]))) := tup_upd hy8
      refine ⟨_, _, _, _, ys ++ [u8], rfl, (x5.trans (s57.trans s8)).upd, upd_same, ?_, by simp; omega⟩
      rw [tk, show crG (Pz.dep h) e = some _ from if_pos q, ← List.append_assoc]
      exact PySem.Paired.snoc (Paired.imp py fun _ _ r => tP _ _ _ _ tu (mP _ _ _ _ (s57.trans s8) r)) (tP _ _ _ _ tu r8)
    · rw [decide_eq_false q]
      refine ⟨_, _, _, _, ys, rfl, x5.trans s57, s57 _ _ hy, ?_, by omega⟩
      rw [tk, show crG (Pz.dep h) e = none from if_neg q, List.append_nil]
      exact Paired.imp py fun _ _ r => mP _ _ _ _ s57 r
  · rintro σ H5 ⟨xp, xq, xo, xt, ys, rfl, x5, hy, py, ly⟩
    rw [lb, List.take_length, ← cL] at py
    have lL := Paired.len py
    have sH5 : L2.Same H H5 := SameX.same s03 x5 hD
    refine ⟨_, rfl, by show 0 ≤ sizeLine; decide, fun e he => ?_⟩
    have s6 : L2.Same H5 (upd H5 e (.lst [])) := same_new he
    have d0 : Dp K (upd H5 e (.lst [])) (.ref e) (.list []) := .lst (SqL.of upd_same) .nil
    have py6 : Paired (rP (upd H5 e (.lst []))) ys (Pz.cutL V (Pz.dep h)) := Paired.imp py fun _ _ r => mP _ _ _ _ s6 r
    refine ⟨_, _, .lst (SqL.of (s6 _ _ hy)) (dp_Ps py6), d0, shaped_L _, by decide +kernel, _, rfl, ?_⟩
    by_cases ne : Pz.cutL V (Pz.dep h) = []
    · have : Pz.cutM V h = none := if_pos ne
      rw [ne]
      exact k _ _ (sH5.trans s6) (by rw [this]; rfl)
    · have : Pz.cutM V h = some (Pz.hullM (Pz.cutL V (Pz.dep h))) := if_neg ne
      have ev : PyData.eqv (.list ((Pz.cutL V (Pz.dep h)).map dP)) (.list []) = false := by
        cases q : Pz.cutL V (Pz.dep h) with
        | nil => exact absurd q ne
        | cons p r => rfl
      rw [ev]
      refine ⟨_, rfl, _, _, rfl, rL.s ⟨D, ys, rfl, s6 _ _ hy, py6⟩, ⟨⟨fun q m => ⟨cC q m, sL q m⟩, by omega⟩, ne⟩, fun u7 H7 s7 r7 => ?_⟩
      exact k _ _ (sH5.trans (s6.trans s7)) (by rw [this]; exact r7)
end
end Wk

set_option Elab.async false
set_option linter.all false
set_option maxRecDepth 100000
/-! W22: borders. -/
namespace Wk
open PySem L2 PySem.Spec PyProof.Rows
open Pz (Pt Ln)
section
variable {X : Cx}
/-- t[n], t a tuple that a name holds -/
theorem pIx (i : Nat) {n : Int} {x : Str} {pos p2 p3 : Pos} {jj} (hN : X.N[i]? = some x := by rfl) (hv : Vis X.env.scope x := by first | exact Or.inl rfl | exact Or.inr (Or.inl rfl) | exact Or.inr (Or.inr rfl)) (hd : (x == ("__debug__" : Str)) = false := by decide)
    (hcd : (x == ("__classdict__" : Str)) = false := by decide) :
    PE X (.Subscript (.Name x p2) (.Constant (.int n) jj p3) pos) (fun σ H Q => ∃ v : V, σ[i]? = some (some v) ∧ rIxT X.K v (.int n) H Q) := by
  refine ⟨fun pins s σ H Q I h => ?_⟩
  obtain ⟨v, h1, h2⟩ := h
  exact (pe_ix ix_tup (pv i hN hv hd hcd) pe_int (fun _ _ => rfl)).run pins s σ H Q I ⟨_, h1, h2⟩
theorem pIxL (i : Nat) {n : Int} {x : Str} {pos p2 p3 : Pos} {jj} (hN : X.N[i]? = some x := by rfl) (hv : Vis X.env.scope x := by first | exact Or.inl rfl | exact Or.inr (Or.inl rfl) | exact Or.inr (Or.inr rfl)) (hd : (x == ("__debug__" : Str)) = false := by decide)
    (hcd : (x == ("__classdict__" : Str)) = false := by decide) :
    PE X (.Subscript (.Name x p2) (.Constant (.int n) jj p3) pos) (fun σ H Q => ∃ v : V, σ[i]? = some (some v) ∧ rIxL X.K v (.int n) H Q) := by
  refine ⟨fun pins s σ H Q I h => ?_⟩
  obtain ⟨v, h1, h2⟩ := h
  exact (pe_ix ix_list (pv i hN hv hd hcd) pe_int (fun _ _ => rfl)).run pins s σ H Q I ⟨_, h1, h2⟩
end
def MID : Nat := 2 ^ 1200
theorem mid2 : 2 * (MID * MID) ≤ LIM := by decide +kernel
theorem mid_lim : MID ≤ LIM := by decide +kernel
theorem tow_fit {p q : Pt} (hp : Pz.Can p) (hq : Pz.Can q) (sp : Pz.Sz MID p) (sq : Pz.Sz MID q) (ne : p ≠ q) : SmU (Pz.towM p q) ∧ ((Pz.towM p q).1 ≠ 0 ∨ (Pz.towM p q).2 ≠ 0) := by
  have h := Pz.tow_sz sp sq
  have m := mid2
  refine ⟨⟨Nat.le_trans h.1 m, Nat.le_trans h.2 m⟩, ?_⟩
  obtain ⟨g, g0, e1, e2⟩ := Pz.tow_spec hp.pos hq.pos (Pz.lt_nz hp hq ne)
  rcases Pz.lt_nz hp hq ne with z | z
  · left; intro k; rw [k] at e1; simp at e1; exact z e1
  · right; intro k; rw [k] at e2; simp at e2; exact z e2
theorem sm_of {n : Nat} {p : Pt} (hp : Pz.Can p) (s : Pz.Sz n p) (h : n ≤ LIM) : Sm p := ⟨⟨Nat.le_trans s.1 h, Nat.le_trans s.2.1 h, Nat.le_trans s.2.2 h⟩, hp.pos⟩
section
variable {P : Program} {w : World} {K : PySem.W.Frag} {mg : Str → Option Value} {base : Heap}
theorem sc_borders : FnScope ["plate", "found", "u", "normal", "p", "q"] ["plate"] (defScope (topS 47)) := ⟨rfl, rfl, rfl, by decide +kernel, rfl, by decide +kernel, by decide +kernel⟩
def LetB (V : List Pt) : Prop := LetV V ∧ (∀ q ∈ V, Pz.Sz MID q) ∧ V.Nodup
def sp_borders : Sp := sp1 (rT rP) LetB (rL rH) Pz.bordM
def bd1 (e : Pt × Pt) : Ln := Pz.faceM (Pz.hatM (Pz.sideM e).1 e.1)
theorem ok_borders (T : Tx K mg) : Has P w K mg base "borders" 6 sp_borders := by
  have G1 : Has P w K mg base "sides" 5 sp_sides := ok_sides T
  have G2 : Has P w K mg base "facing" 1 sp_facing := ok_facing T
  have G3 : Has P w K mg base "half_at" 4 sp_half_at := ok_half_at T
  have G4 : Has P w K mg base "towards" 4 sp_towards := ok_towards T
  have G5 : Has P w K mg base "back" 1 sp_back := ok_back T
  refine has_of T.borders sc_borders (fun _ _ _ _ _ _ us hl => match us, hl with | [_], _ => rfl) sp1_len fun f cdv A outer s H vs Q E hr h => ?_
  obtain ⟨v, V, rfl, hv, ⟨lV, zV, nd⟩, k⟩ := h
  have m1 := hr.mono (show 1 ≤ 5 by decide)
  have m4 := hr.mono (show 4 ≤ 5 by decide)
  refine ⟨_, pss_cons (ps_setLc (i := 1) (own := [("normal", 3), ("p", 4), ("q", 5)]) (g := gTup K 3 (gCons (gName 3) (gCons (gName 4) (gCons (gName 5) gNil)))) (tt := tYes) (by rfl) sc_borders.nd rfl rfl (sw_true rfl rfl rfl (by decide +kernel))
      (pi_list (pe_has G1 hr (by rfl) (pa_cons (pv 0) pa_nil)))
      (blkOk_by (own := [("normal", 3), ("p", 4), ("q", 5)]) (N := ["plate", "found", "u", "normal", "p", "q"]) (sc := defScope (topS 47)) (by decide +kernel))
      (fun _ _ _ _ _ => pg_tup (by rfl) (pgs_cons (pg_name (i := 3) sc_borders.nd rfl (Or.inl rfl)) (pgs_cons (pg_name (i := 4) sc_borders.nd rfl (Or.inl rfl)) (pgs_cons (pg_name (i := 5) sc_borders.nd rfl (Or.inl rfl)) pgs_nil))))
      (fun _ _ _ _ _ => pts_nil) (fun _ _ _ _ _ => pe_has G2 m1 (by rfl) (pa_cons (pe_has G3 m4 (by rfl) (pa_cons (pv 3) (pa_cons (pv 4) pa_nil))) pa_nil)))
    (pss_cons (ps_if (pt_cmpR op_eq (pe_callB call_len_seq (by rfl) T.n_len PySem.boot_len (pa_cons (pv 0) pa_nil)) pe_int (nomark _))
      (pss_cons (ps_set (i := 2) sc_borders.nd rfl (Or.inl rfl) (pe_has G4 m4 (by rfl) (pa_cons (pIx 0) (pa_cons (pIx 0) pa_nil))))
      (pss_one (ps_set (i := 1) sc_borders.nd rfl (Or.inl rfl) (pe_lst (StX.pa_star (pv 1) (pa_cons (pe_has G3 m4 (by rfl) (pa_cons (pv 2) (pa_cons (pIx 0) pa_nil)))
        (pa_cons (pe_has G3 m4 (by rfl) (pa_cons (pe_has G5 m1 (by rfl) (pa_cons (pv 2) pa_nil)) (pa_cons (pIx 0) pa_nil))) pa_nil))))))) pss_nil)
    (pss_one (ps_ret (pv 1)))), ?_⟩
  have sz : sizeLine = 16777216 := rfl
  have many : MANY = 300 := rfl
  have l2 := lV.2
  have lN := Pz.nbrs_len V
  refine ⟨_, rfl, v, V, rfl, hv, lV, fun u1 H1 s1 r1 => ?_⟩
  obtain ⟨b, zs, rfl, hb, pb⟩ := r1
  have lb := Paired.len pb
  rw [List.length_map] at lb
  refine ⟨b, rfl, ⟨_, SqL.of hb⟩, fun D hD => ?_⟩
  refine lcL (r := rSd) (q := rH) (xs := (Pz.nbrs V).map Pz.sideM) (f := fun e => some (Pz.faceM (Pz.hatM e.1 e.2.1))) tSd.mono tH (SqL.of hb) pb hD (by omega) ?_ ?_
  · intro x e H4 C C0 m s4 rv c1 c0
    obtain ⟨t, y, z1, z2, rfl, ht, ry, rz1, rz2⟩ := rv
    obtain ⟨e0, m0, rfl⟩ := List.mem_map.mp m
    obtain ⟨n1, n2, n3⟩ := nbrs_mem m0
    obtain ⟨u1, u2⟩ := tow_fit (lV.1 _ n1).1 (lV.1 _ n2).1 (zV _ n1) (zV _ n2) n3
    refine ⟨t, _, rfl, SqT.of ht, rfl, _, _, rfl, _, _, rfl, _, _, rfl, rfl, rfl, ?_⟩
    refine ⟨_, rfl, _, rfl, _, _, _, _, rfl, ry, rz1, ⟨?_, (lV.1 _ n1).2, ?_⟩, fun u5 H5 s5 r5 => ?_⟩
    · refine ⟨?_, ?_⟩
      · show (-(-(Pz.towM e0.1 e0.2).2)).natAbs ≤ LIM
        rw [Int.neg_neg]; exact u1.2
      · show (-(Pz.towM e0.1 e0.2).1).natAbs ≤ LIM
        rw [Int.natAbs_neg]; exact u1.1
    · show -(-(Pz.towM e0.1 e0.2).2) ≠ 0 ∨ -(Pz.towM e0.1 e0.2).1 ≠ 0
      omega
    · refine ⟨_, _, rfl, r5, trivial, fun u6 H6 s6 r6 => ?_⟩
      exact c1 _ _ _ (s5.trans s6) rfl r6
  intro H2 ys s2 hy py
  rw [show (((Pz.nbrs V).map Pz.sideM).filterMap fun e => some (Pz.faceM (Pz.hatM e.1 e.2.1))) = (Pz.nbrs V).map bd1 by rw [List.filterMap_eq_map', List.map_map]; rfl] at py
  have ly := Paired.len py
  rw [List.length_map] at ly
  have s12 := s1.trans s2
  have hv2 := mT mP _ _ _ _ s12 hv
  obtain ⟨a, vs, rfl, ha, pa⟩ := id hv2
  have la := Paired.len pa
  refine ⟨_, rfl, a, vs, rfl, .inr (SqT.of ha), rfl, _, rfl, ?_⟩
  by_cases two : V.length = 2
  · obtain ⟨p, q, rfl⟩ : ∃ p q, V = [p, q] := by
      match V, two with
      | [p, q], _ => exact ⟨p, q, rfl⟩
    rw [decide_eq_true (show L2.V.int (vs.length : Int) = L2.V.int 2 by rw [la]; rfl)]
    have ne : p ≠ q := fun e => by subst e; simp at nd
    have cp := lV.1 p (by simp)
    have cq := lV.1 q (by simp)
    obtain ⟨u1, u2⟩ := tow_fit cp.1 cq.1 (zV _ (by simp)) (zV _ (by simp)) ne
    refine ⟨_, rfl, ixT hv2 (n := 0) (z := p) rfl fun v0 r0 => ?_⟩
    refine ⟨_, rfl, ixT hv2 (n := 1) (z := q) rfl fun v1 r1 => ?_⟩
    refine ⟨_, _, p, q, rfl, r0, r1, ⟨cp.2, cq.2, Pz.lt_nz cp.1 cq.1 ne⟩, fun u3 H3 s3 r3 => ?_⟩
    have hv3 := mT mP _ _ _ _ s3 hv2
    refine ⟨_, rfl, D, ys, rfl, .inr (SqL.of (s3 _ _ hy)), ?_⟩
    refine ⟨_, rfl, _, rfl, ixT hv3 (n := 0) (z := p) rfl fun v4 r4 => ?_⟩
    refine ⟨_, _, _, p, rfl, r3, r4, ⟨u1, cp.2, u2⟩, fun u5 H5 s5 r5 => ?_⟩
    refine ⟨_, rfl, _, _, rfl, mU _ _ _ _ s5 r3, trivial, fun u6 H6 s6 r6 => ?_⟩
    refine ⟨_, rfl, ixT (mT mP _ _ _ _ (s5.trans s6) hv3) (n := 1) (z := q) rfl fun v7 r7 => ?_⟩
    refine ⟨_, _, _, q, rfl, r6, r7, ⟨⟨neg_ab u1.1, neg_ab u1.2⟩, cq.2, by show -(Pz.towM p q).1 ≠ 0 ∨ -(Pz.towM p q).2 ≠ 0; omega⟩, fun u8 H8 s8 r8 => ?_⟩
    have s38 := s3.trans (s5.trans (s6.trans s8))
    refine ⟨by simp; omega, fun t ht => ?_⟩
    have sn := same_new (o := .lst (ys ++ [u5, u8])) ht
    refine ⟨_, rfl, k _ _ (s12.trans (s38.trans sn)) ⟨t, _, rfl, upd_same, ?_⟩⟩
    have e : Pz.bordM [p, q] = (Pz.nbrs [p, q]).map bd1 ++ [Pz.hatM (Pz.towM p q) p, Pz.hatM (Pz.backM (Pz.towM p q)) q] := rfl
    rw [e]
    exact Paired.append (Paired.imp py fun _ _ r => mH _ _ _ _ (s38.trans sn) r) (.cons (mH _ _ _ _ ((s6.trans s8).trans sn) r5) (.cons (mH _ _ _ _ sn r8) .nil))
  · rw [decide_eq_false (show ¬ L2.V.int (vs.length : Int) = L2.V.int 2 from fun z => by injection z with z; omega)]
    refine ⟨_, rfl, k _ _ s12 ⟨D, ys, rfl, hy, ?_⟩⟩
    have : Pz.bordM V = (Pz.nbrs V).map bd1 := by
      match V, two with
      | [], _ => rfl
      | [_], _ => rfl
      | [_, _], n => exact absurd rfl n
      | _ :: _ :: _ :: _, _ => rfl
    rw [this]
    exact py
end
end Wk

set_option Elab.async false
set_option linter.all false
set_option maxRecDepth 100000
/-! W23: meet. -/
namespace Wk
open PySem L2 PySem.Spec PyProof.Rows
open Pz (Pt Ln)
theorem cutAll_app : ∀ (A B : List Ln) (V : List Pt), Pz.cutAll (A ++ B) V = (match Pz.cutAll A V with | none => none | some W => Pz.cutAll B W)
  | [], B, V => rfl
  | h :: A, B, V => by
    rw [List.cons_append, Pz.cutAll, Pz.cutAll]
    cases e : Pz.cutM V h with
    | none => rfl
    | some W => exact cutAll_app A B W
theorem cross_sz {p q : Pt} {s t : Int} {n m : Nat} (hp : Pz.Sz n p) (hq : Pz.Sz n q) (hs : s.natAbs ≤ m) (ht : t.natAbs ≤ m) : Pz.Sz (2 * (n * m)) (Pz.cross p q s t) := by
  have f : ∀ a b c d : Int, a.natAbs ≤ n → b.natAbs ≤ m → c.natAbs ≤ n → d.natAbs ≤ m → (a * b - c * d).natAbs ≤ 2 * (n * m) := fun a b c d h1 h2 h3 h4 => by
    have := Pz.abs_sub (Pz.abs_mul h1 h2) (Pz.abs_mul h3 h4); omega
  refine Pz.canon_sz (f _ _ _ _ hq.1 hs hp.1 ht) (f _ _ _ _ hq.2.1 hs hp.2.1 ht) ?_
  have := f q.d s p.d t hq.2.2 hs hp.2.2 ht
  rw [Int.mul_comm s, Int.mul_comm t]
  exact this
theorem ev_sz {c n : Nat} {h : Ln} {p : Pt} (hs : Pz.SzL c h) (sp : Pz.Sz n p) : (Pz.ev (Pz.dep h) p).natAbs ≤ 3 * (c * n) := by
  have h1 := Pz.abs_mul hs.1 sp.1
  have h2 := Pz.abs_mul hs.2.1 sp.2.1
  have h3 := Pz.abs_mul hs.2.2 sp.2.2
  have e : Pz.ev (Pz.dep h) p = h.a * p.x + h.b * p.y - h.c * p.d := by
    simp only [Pz.ev, Pz.dep]
    rw [Int.neg_mul]; omega
  rw [e]; omega
theorem cutL_sz {c n : Nat} {h : Ln} {V : List Pt} (hs : Pz.SzL c h) (sp : ∀ p ∈ V, Pz.Sz n p) {M : Nat} (h1 : n ≤ M) (h2 : 2 * (n * (3 * (c * n))) ≤ M) : ∀ q ∈ Pz.cutL V (Pz.dep h), Pz.Sz M q := fun q m => by
  have up : ∀ {a : Nat} {q : Pt}, Pz.Sz a q → a ≤ M → Pz.Sz M q := fun s l => ⟨Nat.le_trans s.1 l, Nat.le_trans s.2.1 l, Nat.le_trans s.2.2 l⟩
  rcases Pz.mem_cutL.mp m with ⟨m', _⟩ | ⟨a, b, m', _, rfl⟩
  · exact up (sp _ m') h1
  · obtain ⟨ma, mb⟩ := Pz.cyc_mem m'
    exact up (cross_sz (sp _ ma) (sp _ mb) (ev_sz hs (sp _ ma)) (ev_sz hs (sp _ mb))) h2
/-- two plates that meet within the numbers that are let -/
def Fit (V W : List Pt) : Prop := Pz.IsPl W ∧ LetB W ∧ ∃ k c n, n = 2 * (c * c) ∧ Pz.Lv k c V ∧ (∀ h ∈ Pz.bordM W, Pz.SzL c h) ∧ k + (Pz.bordM W).length ≤ 75 ∧ c ≤ LIM ∧ n ≤ LIM ∧ 2 * (n * (3 * (c * n))) ≤ LIM
theorem lv_let {k c n : Nat} {V : List Pt} (l : Pz.Lv k c V) (e : n = 2 * (c * c)) (hn : n ≤ LIM) (hk : k ≤ 75) : LetV V := by
  refine ⟨fun q m => ⟨l.pl.can q m, sm_of (l.pl.can q m) (l.sz q m) (e ▸ hn)⟩, ?_⟩
  have := l.len
  have many : MANY = 300 := rfl
  omega
section
variable {P : Program} {w : World} {K : PySem.W.Frag} {mg : Str → Option Value} {base : Heap}
theorem sc_meet : FnScope ["one", "other", "found", "half_plane"] ["one", "other"] (defScope (topS 48)) := ⟨rfl, rfl, rfl, by decide +kernel, rfl, by decide +kernel, by decide +kernel⟩
def sp_meet : Sp := sp2 (rT rP) (rT rP) Fit (rO (rT rP)) Pz.meetM
theorem ok_meet (T : Tx K mg) : Has P w K mg base "meet" 8 sp_meet := by
  have G1 : Has P w K mg base "has_place" 5 sp_has_place := ok_has_place T
  have G2 : Has P w K mg base "borders" 6 sp_borders := ok_borders T
  have G3 : Has P w K mg base "cut_plate" 7 sp_cut := ok_cut T
  refine has_of T.meet sc_meet (fun _ _ _ _ _ _ us hl => match us, hl with | [_, _], _ => rfl) sp2_len fun f cdv A outer s H vs Q E hr h => ?_
  obtain ⟨v, v2, V, W, rfl, hv, hw, ⟨plW, lW, kk, c, n, en, lv, sB, ck, cl, cn, cc⟩, k⟩ := h
  have m5 := hr.mono (show 5 ≤ 7 by decide)
  have m6 := hr.mono (show 6 ≤ 7 by decide)
  refine ⟨_, pss_cons (ps_if (pt_cmpR op_eq (pe_callB call_len_seq (by rfl) T.n_len PySem.boot_len (pa_cons (pv 1) pa_nil)) pe_int (nomark _))
        (pss_one (ps_ret (pe_ifExp (pt_val (pe_has G1 m5 (by rfl) (pa_cons (pv 0) (pa_cons (pIx 1) pa_nil)))) (pv 1) pe_non))) pss_nil)
    (pss_cons (ps_set (i := 2) sc_meet.nd rfl (Or.inl rfl) (pv 0))
    (pss_cons (ps_for PassesOwn.never rfl (pi_list (pe_has G2 m6 (by rfl) (pa_cons (pv 1) pa_nil))) (pg_name (i := 3) sc_meet.nd rfl (Or.inl rfl))
      (pss_cons (ps_set (i := 2) sc_meet.nd rfl (Or.inl rfl) (pe_has G3 hr (by rfl) (pa_cons (pv 2) (pa_cons (pv 3) pa_nil))))
      (pss_one (ps_if (pt_cmpR op_isN (pv 2) pe_non (nomark _)) (pss_one (ps_ret pe_non)) pss_nil))))
    (pss_one (ps_ret (pv 2))))), ?_⟩
  have sz : sizeLine = 16777216 := rfl
  have many : MANY = 300 := rfl
  obtain ⟨a, ws, rfl, ha, pa⟩ := id hw
  have la := Paired.len pa
  refine ⟨_, rfl, a, ws, rfl, .inr (SqT.of ha), rfl, _, rfl, ?_⟩
  by_cases one : W.length = 1
  · obtain ⟨q, rfl⟩ : ∃ q, W = [q] := by
      match W, one with
      | [q], _ => exact ⟨q, rfl⟩
    rw [decide_eq_true (show L2.V.int (ws.length : Int) = L2.V.int 1 by rw [la]; rfl)]
    have lV := lv_let lv en cn (by omega)
    have eM : Pz.meetM V [q] = if Pz.hasM V q then some [q] else none := rfl
    refine ⟨_, rfl, _, rfl, ixT hw (n := 0) (z := q) rfl fun v0 r0 => ?_⟩
    refine ⟨_, _, V, q, rfl, hv, r0, ⟨fun q m => (lV.1 q m).2, (lW.1.1 q (by simp)).2, lv.pl.ne, lV.len⟩, fun u H1 s1 r1 => ⟨_, r1, ?_⟩⟩
    cases e : Pz.hasM V q with
    | true => exact ⟨_, rfl, k _ _ s1 (by rw [eM, e]; exact mT mP _ _ _ _ s1 hw)⟩
    | false => exact k _ _ s1 (by rw [eM, e]; rfl)
  · rw [decide_eq_false (show ¬ L2.V.int (ws.length : Int) = L2.V.int 1 from fun z => by injection z with z; omega)]
    have eM : Pz.meetM V W = Pz.cutAll (Pz.bordM W) V := by
      match W, one with
      | [], _ => rfl
      | [_], n => exact absurd rfl n
      | _ :: _ :: _, _ => rfl
    refine ⟨_, rfl, _, rfl, _, W, rfl, hw, lW, fun u1 H1 s1 r1 => ?_⟩
    obtain ⟨b, zs, rfl, hb, pb⟩ := r1
    have lb := Paired.len pb
    refine ⟨b, rfl, ⟨_, SqL.of hb⟩, ?_⟩
    refine for_list (K := K) (a := b) (xs := zs) (fun i σ H5 => ∃ (xf : L2.V) (xh : Option L2.V) (U : List Pt), σ = [some v, some (.ref a), some xf, xh] ∧ L2.Same H1 H5 ∧ rT rP H5 xf U ∧ Pz.cutAll ((Pz.bordM W).take i) V = some U ∧ Pz.Lv (kk + i) c U)
      ⟨v, none, V, rfl, .refl _, mT mP _ _ _ _ s1 hv, rfl, lv⟩ (fun i σ H5 _ ⟨_, _, _, _, s5, _⟩ => SqL.of (s5 _ _ hb)) ?_ ?_
    · rintro i y σ H5 hi ⟨xf, xh, U, rfl, s5, hU, eU, lU⟩
      obtain ⟨h, hh, ry⟩ := Paired.get pb hi
      have il : i < (Pz.bordM W).length := (List.getElem?_eq_some_iff.mp hh).1
      have hB := List.mem_of_getElem? hh
      have lV := lv_let lU en cn (by omega)
      refine ⟨_, rfl, _, rfl, _, _, U, h, rfl, hU, mH _ _ _ _ s5 ry, ⟨lV, ⟨Nat.le_trans (sB h hB).1 cl, Nat.le_trans (sB h hB).2.1 cl, Nat.le_trans (sB h hB).2.2 cl⟩, fun q m => ?_⟩, fun u6 H6 s6 r6 => ?_⟩
      · exact sm_of (Pz.cutL_can (fun q m => (lV.1 q m).1) q m) (cutL_sz (sB h hB) (fun p m => en ▸ lU.sz p m) cn cc q m) (Nat.le_refl _)
      · have tk : (Pz.bordM W).take (i + 1) = (Pz.bordM W).take i ++ [h] := by rw [List.take_add_one, hh]; rfl
        have e1 : Pz.cutAll ((Pz.bordM W).take (i + 1)) V = Pz.cutM U h := by
          rw [tk, cutAll_app, eU]
          show Pz.cutAll [h] U = _
          rw [Pz.cutAll]
          cases Pz.cutM U h <;> rfl
        cases e : Pz.cutM U h with
        | none =>
          rw [e] at r6 e1
          obtain rfl : u6 = .non := r6
          refine ⟨_, rfl, rfl, _, rfl, ?_⟩
          rw [decide_eq_true (show L2.V.non = L2.V.non from rfl)]
          refine k _ _ (s1.trans (s5.trans s6)) ?_
          have : Pz.meetM V W = none := by
            rw [eM, ← List.take_append_drop (i + 1) (Pz.bordM W), cutAll_app, e1]
          rw [this]; rfl
        | some U' =>
          rw [e] at r6 e1
          obtain ⟨t, us, rfl, ht, pt⟩ := id r6
          refine ⟨_, rfl, rfl, _, rfl, ?_⟩
          rw [decide_eq_false (show ¬ L2.V.ref t = L2.V.non from fun z => nomatch z)]
          exact ⟨.ref t, _, U', rfl, s5.trans s6, r6, e1, lU.cut (sB h hB) e⟩
    · rintro σ H5 ⟨xf, xh, U, rfl, s5, hU, eU, lU⟩
      rw [lb, List.take_length] at eU
      refine ⟨_, rfl, k _ _ (s1.trans s5) ?_⟩
      rw [eM, eU]
      exact hU
end
end Wk

set_option Elab.async false
set_option linter.all false
set_option maxRecDepth 100000
/-! W24: mirror, led, is_plate, is_heap_row. -/
namespace Wk
open PySem L2 PySem.Spec PyProof.Rows
open Pz (Pt Ln)
theorem sc_can {p : Pt} {m n : Int} (hp : 0 < p.d) (n0 : 0 < n) : Pz.Can (scM p m n) := by
  have h : p.d * n ≠ 0 := by have := Int.mul_pos hp n0; omega
  obtain ⟨_, _, _, _, _, _, c⟩ := Pz.canon_spec (x := p.x * m) (y := p.y * m) h
  exact c
theorem sc_sm {p : Pt} {m n : Int} (hp : Sm p) (n0 : 0 < n) (h : ∀ a : Int, a.natAbs ≤ LIM → (a * m).natAbs ≤ LIM ∧ (a * n).natAbs ≤ LIM) : Sm (scM p m n) :=
  sm_of (sc_can hp.2 n0) (Pz.canon_sz (h _ hp.1.1).1 (h _ hp.1.2.1).1 (h _ hp.1.2.2).2) (Nat.le_refl _)
theorem led_sz {m : Pz.Mp} {p : Pt} {n : Nat} (sm : SzM m) (sp : Pz.Sz n p) : Pz.Sz (30 * n) (Pz.ledP m p) := by
  obtain ⟨a, b, c, d, e, f, g⟩ := sm
  have k : ∀ {i j : Int}, i.natAbs ≤ 10 → j.natAbs ≤ n → (i * j).natAbs ≤ 10 * n := fun h1 h2 => Pz.abs_mul h1 h2
  have s3 : ∀ {i j l : Int}, i.natAbs ≤ 10 * n → j.natAbs ≤ 10 * n → l.natAbs ≤ 10 * n → (i + j + l).natAbs ≤ 30 * n := fun h1 h2 h3 => by omega
  refine Pz.canon_sz (s3 (k a sp.1) (k b sp.2.1) (k e sp.2.2)) (s3 (k c sp.1) (k d sp.2.1) (k f sp.2.2)) ?_
  have := k g sp.2.2
  omega
theorem mid30 : 30 * MID ≤ LIM := by decide +kernel
section
variable {P : Program} {w : World} {K : PySem.W.Frag} {mg : Str → Option Value} {base : Heap}
theorem sc_mirror : FnScope ["plate", "p"] ["plate"] (defScope (topS 49)) := ⟨rfl, rfl, rfl, by decide +kernel, rfl, by decide +kernel, by decide +kernel⟩
def miM (V : List Pt) : List Pt := Pz.hullM (V.map fun p => scM p (-1) 1)
def sp_mirror : Sp := sp1 (rT rP) (fun V => LetV V ∧ V ≠ []) (rT rP) miM
theorem let_map {V : List Pt} {f : Pt → Pt} (hl : V.length ≤ MANY) (n : V ≠ []) (h : ∀ p ∈ V, Pz.Can (f p) ∧ Sm (f p)) : Let (V.map f) ∧ V.map f ≠ [] :=
  ⟨⟨fun q m => by obtain ⟨p, mp, rfl⟩ := List.mem_map.mp m; exact h p mp, by rw [List.length_map]; exact hl⟩, fun e => n (List.map_eq_nil_iff.mp e)⟩
theorem ok_mirror (T : Tx K mg) : Has P w K mg base "mirror" 7 sp_mirror := by
  have G1 : Has P w K mg base "scaled" 3 sp_scaled := ok_scaled T
  have G2 : Has P w K mg base "hull" 6 sp_hull := ok_hull T
  refine has_of T.mirror sc_mirror (fun _ _ _ _ _ _ us hl => match us, hl with | [_], _ => rfl) sp1_len fun f cdv A outer s H vs Q E hr h => ?_
  obtain ⟨v, V, rfl, hv, ⟨lV, ne⟩, k⟩ := h
  have m3 := hr.mono (show 3 ≤ 6 by decide)
  refine ⟨_, pss_one (ps_ret (pe_has G2 hr (by rfl) (pa_cons (pe_lc (own := [("p", 1)]) (g := gName 1) (tt := tYes) (by rfl) sc_mirror.nd (pi_tup (pv 0))
      (blkOk_by (own := [("p", 1)]) (N := ["plate", "p"]) (sc := defScope (topS 49)) (by decide +kernel))
      (fun _ _ _ _ _ => pg_name (i := 1) sc_mirror.nd rfl (Or.inl rfl)) (fun _ _ _ _ _ => pts_nil)
      (fun _ _ _ _ _ => pe_has G1 m3 (by rfl) (pa_cons (pv 1) (pa_cons (pe_un un_neg pe_int) (pa_cons pe_int pa_nil))))) pa_nil))), ?_⟩
  have sz : sizeLine = 16777216 := rfl
  have many : MANY = 300 := rfl
  have ll := lV.len
  obtain ⟨a, vs, rfl, ha, pa⟩ := id hv
  have la := Paired.len pa
  refine ⟨_, rfl, a, rfl, ⟨_, SqT.of ha⟩, fun D hD => ?_⟩
  refine lcT (r := rP) (q := rP) (xs := V) (f := fun p => some (scM p (-1) 1)) mP tP (SqT.of ha) pa hD (by omega) ?_ ?_
  · intro x p H4 C C0 m s4 rv c1 c0
    refine ⟨rfl, _, rfl, _, rfl, _, _, _, p, -1, 1, rfl, rv, rfl, rfl, ⟨(lV.1 p m).2, by decide +kernel, by decide +kernel, by decide⟩, fun u5 H5 s5 r5 => ?_⟩
    exact c1 _ _ _ s5 rfl r5
  · intro H2 ys s2 hy py
    rw [show (V.filterMap fun p => some (scM p (-1) 1)) = V.map fun p => scM p (-1) 1 by rw [List.filterMap_eq_map']] at py
    refine ⟨_, _, rfl, rL.s ⟨D, ys, rfl, hy, py⟩, let_map ll ne fun p m => ?_, fun u3 H3 s3 r3 => k _ _ (s2.trans s3) r3⟩
    exact ⟨sc_can (lV.1 p m).2.2 (by decide), sc_sm (lV.1 p m).2 (by decide) fun a h => by rw [show a * (-1) = -a by omega, Int.natAbs_neg, Int.mul_one]; exact ⟨h, h⟩⟩
theorem sc_led : FnScope ["plate", "rule", "p"] ["plate", "rule"] (defScope (topS 51)) := ⟨rfl, rfl, rfl, by decide +kernel, rfl, by decide +kernel, by decide +kernel⟩
/-- corners not large -/
def LetM (V : List Pt) : Prop := (∀ q ∈ V, Pz.Can q ∧ Pz.Sz MID q) ∧ V.length ≤ MANY ∧ V ≠ []
theorem LetM.sm {V : List Pt} (h : LetM V) : ∀ q ∈ V, Sm q := fun q m => sm_of (h.1 q m).1 (h.1 q m).2 mid_lim
def sp_led : Sp := sp2 (rT rP) rM (fun V m => LetM V ∧ SzM m ∧ m.Ok) (rT rP) fun V m => Pz.mapM m V
theorem ok_led (T : Tx K mg) : Has P w K mg base "led" 7 sp_led := by
  have G1 : Has P w K mg base "led_place" 3 sp_led_place := ok_led_place T
  have G2 : Has P w K mg base "hull" 6 sp_hull := ok_hull T
  refine has_of T.led sc_led (fun _ _ _ _ _ _ us hl => match us, hl with | [_, _], _ => rfl) sp2_len fun f cdv A outer s H vs Q E hr h => ?_
  obtain ⟨v, v2, V, m, rfl, hv, hm, ⟨lV, sm, om⟩, k⟩ := h
  have m3 := hr.mono (show 3 ≤ 6 by decide)
  refine ⟨_, pss_one (ps_ret (pe_has G2 hr (by rfl) (pa_cons (pe_lc (own := [("p", 2)]) (g := gName 2) (tt := tYes) (by rfl) sc_led.nd (pi_tup (pv 0))
      (blkOk_by (own := [("p", 2)]) (N := ["plate", "rule", "p"]) (sc := defScope (topS 51)) (by decide +kernel))
      (fun _ _ _ _ _ => pg_name (i := 2) sc_led.nd rfl (Or.inl rfl)) (fun _ _ _ _ _ => pts_nil)
      (fun _ _ _ _ _ => pe_has G1 m3 (by rfl) (pa_cons (pv 2) (pa_cons (pv 1) pa_nil)))) pa_nil))), ?_⟩
  have sz : sizeLine = 16777216 := rfl
  have many : MANY = 300 := rfl
  have ll := lV.2.1
  obtain ⟨a, vs, rfl, ha, pa⟩ := id hv
  have la := Paired.len pa
  refine ⟨_, rfl, a, rfl, ⟨_, SqT.of ha⟩, fun D hD => ?_⟩
  refine lcT (r := rP) (q := rP) (xs := V) (f := fun p => some (Pz.ledP m p)) mP tP (SqT.of ha) pa hD (by omega) ?_ ?_
  · intro x p H4 C C0 mp s4 rv c1 c0
    refine ⟨rfl, _, rfl, _, rfl, _, _, p, m, rfl, rv, tM.mono _ _ _ _ s4 hm, ⟨lV.sm p mp, sm, om.1⟩, fun u5 H5 s5 r5 => ?_⟩
    exact c1 _ _ _ s5 rfl r5
  · intro H2 ys s2 hy py
    rw [show (V.filterMap fun p => some (Pz.ledP m p)) = V.map (Pz.ledP m) by rw [List.filterMap_eq_map']] at py
    refine ⟨_, _, rfl, rL.s ⟨D, ys, rfl, hy, py⟩, let_map ll lV.2.2 fun p mp => ?_, fun u3 H3 s3 r3 => k _ _ (s2.trans s3) r3⟩
    have c := (Pz.led_ev om (lV.1 p mp).1.pos).1
    exact ⟨c, sm_of c (led_sz sm (lV.1 p mp).2) mid30⟩
theorem sc_is_plate : FnScope ["value", "one"] ["value"] (defScope (topS 40)) := ⟨rfl, rfl, rfl, by decide +kernel, rfl, by decide +kernel, by decide +kernel⟩
def LetP (V : List Pt) : Prop := Pz.IsPl V ∧ (∀ q ∈ V, Sm q) ∧ V.length ≤ MANY
def sp_is_plate : Sp := sp1 (rT rP) LetP rB fun _ => true
theorem shaped_Pl (V : List Pt) : SeqAt.shaped (.tuple (V.map dP)) = true := shaped_T V
theorem dp_T {H : Hp} {v : L2.V} {V : List Pt} (h : rT rP H v V) : Dp K H v (.tuple (V.map dP)) := by
  obtain ⟨a, vs, rfl, ha, p⟩ := h
  exact .tup (SqT.of ha) (dp_Ps p)
theorem eqv_T (V W : List Pt) : PyData.eqv (.tuple (V.map dP)) (.tuple (W.map dP)) = decide (V = W) := by
  rw [← eqv_Ps]; simp only [PyData.eqv]
theorem ok_is_plate (T : Tx K mg) : Has P w K mg base "is_plate" 7 sp_is_plate := by
  have G1 : Has P w K mg base "is_place" 3 sp_is_place := ok_is_place T
  have G2 : Has P w K mg base "hull" 6 sp_hull := ok_hull T
  refine has_of T.is_plate sc_is_plate (fun _ _ _ _ _ _ us hl => match us, hl with | [_], _ => rfl) sp1_len fun f cdv A outer s H vs Q E hr h => ?_
  obtain ⟨v, V, rfl, hv, ⟨pl, sV, ll⟩, k⟩ := h
  have m3 := hr.mono (show 3 ≤ 6 by decide)
  have hu : (A.deeper (envOfC "is_plate" (defScope (topS 40)) s.heap.objs.size f cdv)).units + 64 < cLine := by have := hr.units; omega
  refine ⟨_, pss_cons (ps_if (PW.pt (pw_or (pt_not (pt_val (pe_callB call_isi (by rfl) T.n_isinstance (by decide +kernel) (pa_cons (pv 0) (pa_cons (pe_bltn (v := .ty "tuple") (by rfl) T.n_tuple (by decide +kernel) rfl) pa_nil)))))
        (pw_or (pt_cmpR (op_eqD hu) (pv 0) (pe_tup pa_nil) (nomark _))
        (pw_or1 (pt_not (pt_val (pe_callB (cr_all rfl) (by rfl) T.n_all (by decide +kernel) (pa_cons
          (pe_lc (own := [("one", 1)]) (g := gName 1) (tt := tYes) (by rfl) sc_is_plate.nd (pi_tup (pv 0))
            (blkOk_by (own := [("one", 1)]) (N := ["value", "one"]) (sc := defScope (topS 40)) (by decide +kernel))
            (fun _ _ _ _ _ => pg_name (i := 1) sc_is_plate.nd rfl (Or.inl rfl)) (fun _ _ _ _ _ => pts_nil)
            (fun _ _ _ _ _ => pe_has G1 m3 (by rfl) (pa_cons (pv 1) pa_nil))) pa_nil))))))))
      (pss_one (ps_ret pe_bl)) pss_nil)
    (pss_one (ps_ret (pe_cmpR (op_eqD hu) (pe_has G2 hr (by rfl) (pa_cons (pv 0) pa_nil)) (pv 0) (nomark _)))), ?_⟩
  have sz : sizeLine = 16777216 := rfl
  have many : MANY = 300 := rfl
  obtain ⟨a, vs, rfl, ha, pa⟩ := id hv
  have la := Paired.len pa
  refine ⟨_, rfl, .ref a, .ty "tuple", .type "tuple", .type "tuple", true, rfl, .ty _, .base (.tup ha), kit_ty (by decide +kernel), true, rfl, ?_⟩
  refine ⟨_, rfl, by show 0 ≤ sizeLine; decide, fun e he => ?_⟩
  have s1 : L2.Same H (upd H e (.tup [])) := same_new he
  have hv1 := mT mP _ _ _ _ s1 hv
  refine ⟨_, _, dp_T hv1, .tup (xs := []) (SqT.of upd_same) .nil, shaped_T _, by decide +kernel, _, rfl, ?_⟩
  have ev : PyData.eqv (.tuple (V.map dP)) (.tuple []) = false := by
    cases q : V with
    | nil => exact absurd q pl.ne
    | cons p r => rfl
  rw [ev]
  have ha1 := s1 _ _ ha
  refine ⟨_, rfl, a, rfl, ⟨_, SqT.of ha1⟩, fun D hD => ?_⟩
  refine lcT (r := rP) (q := rB) (xs := V) (f := fun _ => some true) mP tB (SqT.of ha1) (Paired.imp pa fun _ _ r => mP _ _ _ _ s1 r) hD (by omega) ?_ ?_
  · intro x p H4 C C0 mp s4 rv c1 c0
    exact ⟨rfl, _, rfl, _, p, rfl, rv, pl.can p mp, fun u5 H5 s5 r5 => c1 _ _ true s5 rfl r5⟩
  · intro H2 ys s2 hy py
    have ey : ys = (V.map fun _ => true).map L2.V.bl := by
      rw [show (V.filterMap fun _ => some true) = V.map fun _ => true by rw [List.filterMap_eq_map']] at py
      generalize V.map (fun _ => true) = bs at py
      clear hy
      induction py with
      | nil => rfl
      | cons r _ ih => rw [ih, List.map_cons, r]
    subst ey
    have s12 := s1.trans s2
    refine ⟨D, _, rfl, SqL.of hy, _, rfl, ?_⟩
    have al : (V.map fun _ => true).all id = true := by rw [List.all_map]; simp
    rw [al]
    refine ⟨_, rfl, _, V, rfl, rT.s (mT mP _ _ _ _ s12 hv), ⟨⟨fun q m => ⟨pl.can q m, sV q m⟩, ll⟩, pl.ne⟩, fun u3 H3 s3 r3 => ?_⟩
    rw [pl.hullM] at r3
    refine ⟨_, rfl, _, _, dp_T r3, dp_T (mT mP _ _ _ _ (s12.trans s3) hv), shaped_T _, shaped_T _, k _ _ (s12.trans s3) ?_⟩
    rw [eqv_T, decide_eq_true rfl]
    rfl
end
end Wk

set_option Elab.async false
set_option linter.all false
set_option maxRecDepth 100000
/-! W25: is_heap_row, stands_ahead, ascending. -/
namespace Wk
open PySem L2 PySem.Spec PyProof.Rows
open Pz (Pt Ln)
theorem ixL' {α : Type} {r : Rl α} {K : PySem.W.Frag} {H : Hp} {Q : VK} {x : V} {X : List α} {z : α} {i : Int} {n : Nat} (en : i = (n : Int)) (h : rL r H x X) (e : X[n]? = some z) (k : ∀ v, r H v z → Q v H) : rIxL K x (.int i) H Q := en ▸ ixL h e k
/-- a loop over zip of two tuples -/
theorem for_zipN {K : PySem.W.Frag} {a b : Addr} {xs ys : List V} {g : TG} {tb : TS} {D : Ends} {σ : L2.St} {H : Hp} (Pv : L2.St → Hp → Prop) (h0 : Pv σ H) (hq : ∀ σ H, Pv σ H → SqT K H a xs ∧ SqT K H b ys)
    (hs : ∀ (i : Nat) (x y : V) (T : Addr) (σ : L2.St) (H : Hp), xs[i]? = some x → ys[i]? = some y → Pv σ H → H T = none → g (.ref T) σ (upd H T (.tup [x, y])) fun σ2 H2 => tb { D with nx := Pv, ct := Pv, bk := D.nx } σ2 H2) (hd : ∀ σ H, Pv σ H → D.nx σ H) :
    ∃ W : Nat → Nat → L2.St → Hp → Prop, (∃ m, W 0 m σ H) ∧ ∀ i m σ H, W i m σ H →
      ((RZ.ItzT K a b).stop i H ∧ D.nx σ H) ∨ ((RZ.ItzT K a b).go i H ∧ ∃ N : L2.St → Hp → Prop, (∀ σ' H', N σ' H' → ∃ m', m' < m ∧ W (i + 1) m' σ' H') ∧ ∀ v H', (RZ.ItzT K a b).yld i H v H' → g v σ H' fun σ2 H2 => tb { D with nx := N, ct := N, bk := D.nx } σ2 H2) := by
  refine ⟨fun i m σ H => m = xs.length - i ∧ Pv σ H, ⟨_, rfl, h0⟩, ?_⟩
  rintro i m σ H ⟨rfl, p⟩
  obtain ⟨qx, qy⟩ := hq σ H p
  by_cases h1 : i < xs.length
  · by_cases h2 : i < ys.length
    · refine .inr ⟨⟨xs, ys, _, _, qx, qy, List.getElem?_eq_getElem h1, List.getElem?_eq_getElem h2⟩, Pv, fun σ' H' p' => ⟨_, by omega, rfl, p'⟩, fun v H' y => ?_⟩
      obtain ⟨T, x', y', rfl, hT, rfl, f1, f2⟩ := y
      exact hs i x' y' T σ H (f1 xs qx) (f2 ys qy) p hT
    · exact .inl ⟨⟨xs, ys, qx, qy, .inr (by omega)⟩, hd σ H p⟩
  · exact .inl ⟨⟨xs, ys, qx, qy, .inl (by omega)⟩, hd σ H p⟩
section
variable {P : Program} {w : World} {K : PySem.W.Frag} {mg : Str → Option Value} {base : Heap}
theorem sc_row : FnScope ["value"] ["value"] (defScope (topS 53)) := ⟨rfl, rfl, rfl, by decide +kernel, rfl, by decide +kernel, by decide +kernel⟩
def sp_row : Sp := sp1 (rPr (rT rP) rI) (fun r => LetP r.1) rB fun _ => true
theorem ok_row (T : Tx K mg) : Has P w K mg base "is_heap_row" 8 sp_row := by
  have G1 : Has P w K mg base "is_plate" 7 sp_is_plate := ok_is_plate T
  have G2 : Has P w K mg base "is_number" 1 sp_is_number := ok_is_number T
  refine has_of T.is_heap_row sc_row (fun _ _ _ _ _ _ us hl => match us, hl with | [_], _ => rfl) sp1_len fun f cdv A outer s H vs Q E hr h => ?_
  obtain ⟨v, r, rfl, ⟨a, x, y, rfl, ha, hx, hy⟩, lV, k⟩ := h
  have m1 := hr.mono (show 1 ≤ 7 by decide)
  refine ⟨_, pss_one (ps_ret (pe_and (pe_callB call_isi (by rfl) T.n_isinstance (by decide +kernel) (pa_cons (pv 0) (pa_cons (pe_bltn (v := .ty "tuple") (by rfl) T.n_tuple (by decide +kernel) rfl) pa_nil)))
    (pe_and (pe_cmpR op_eq (pe_callB call_len_seq (by rfl) T.n_len PySem.boot_len (pa_cons (pv 0) pa_nil)) pe_int (nomark _))
    (pe_and (pe_has G1 hr (by rfl) (pa_cons (pIx 0) pa_nil)) (pe_one (pe_has G2 m1 (by rfl) (pa_cons (pIx 0) pa_nil))))))), ?_⟩
  refine ⟨_, rfl, .ref a, .ty "tuple", .type "tuple", .type "tuple", true, rfl, .ty _, .base (.tup ha), kit_ty (by decide +kernel), true, rfl, iteT ?_⟩
  refine ⟨_, rfl, a, _, rfl, .inr (SqT.of ha), rfl, true, rfl, iteT ?_⟩
  refine ⟨_, rfl, ⟨a, _, 0, x, rfl, rfl, SqT.of ha, at2_0, ?_⟩⟩
  refine ⟨_, r.1, rfl, hx, lV, fun u1 H1 s1 r1 => ⟨_, r1, iteT ?_⟩⟩
  refine ⟨_, rfl, ⟨a, _, 1, y, rfl, rfl, SqT.of (s1 _ _ ha), at2_1, ?_⟩⟩
  exact ⟨_, r.2, rfl, hy, trivial, fun u2 H2 s2 r2 => k _ _ (s1.trans s2) r2⟩
def LetQ (V : List Pt) : Prop := (∀ q ∈ V, Sm q) ∧ V.length ≤ MANY
theorem sc_ahead : FnScope ["one", "other", "p", "q"] ["one", "other"] (defScope (topS 54)) := ⟨rfl, rfl, rfl, by decide +kernel, rfl, by decide +kernel, by decide +kernel⟩
def sp_ahead : Sp := fun vs H Q _ => ∃ v v2 V W, vs = [v, v2] ∧ rT rP H v V ∧ rT rP H v2 W ∧ LetQ V ∧ LetQ W ∧ ∀ b H', L2.Same H H' → Q (.bl b) H'
theorem ok_ahead (T : Tx K mg) : Has P w K mg base "stands_ahead" 2 sp_ahead := by
  have G1 : Has P w K mg base "comes_first" 1 sp_first := ok_first T
  refine has_of T.stands_ahead sc_ahead (fun _ _ _ _ _ _ us hl => match us, hl with | [_, _], _ => rfl) (fun _ _ _ _ ⟨_, _, _, _, e, _⟩ => by rw [e]; rfl) fun f cdv A outer s H vs Q E hr h => ?_
  obtain ⟨v, v2, V, W, rfl, ⟨a, vs, rfl, ha, pa⟩, ⟨b, ws, rfl, hb, pb⟩, lV, lW, k⟩ := h
  have hu : (A.deeper (envOfC "stands_ahead" (defScope (topS 54)) s.heap.objs.size f cdv)).units + 64 < cLine := by have := hr.units; omega
  refine ⟨_, pss_cons (ps_for PassesOwn.never rfl (RZ.pi_zipA (by rfl) T.n_zip (pa_cons (pv 0) (pa_cons (pv 1) pa_nil)))
        (pg_tup (by rfl) (pgs_cons (pg_name (i := 2) sc_ahead.nd rfl (Or.inl rfl)) (pgs_cons (pg_name (i := 3) sc_ahead.nd rfl (Or.inl rfl)) pgs_nil)))
        (pss_one (ps_if (pt_cmpR (op_neD hu) (pv 2) (pv 3) (nomark _)) (pss_one (ps_ret (pe_has G1 hr (by rfl) (pa_cons (pv 2) (pa_cons (pv 3) pa_nil))))) pss_nil)))
    (pss_one (ps_ret (pe_cmpR op_lt (pe_callB call_len_seq (by rfl) T.n_len PySem.boot_len (pa_cons (pv 0) pa_nil)) (pe_callB call_len_seq (by rfl) T.n_len PySem.boot_len (pa_cons (pv 1) pa_nil)) (nomark _)))), ?_⟩
  refine ⟨_, rfl, _, rfl, a, b, vs, ws, rfl, .inr ⟨SqT.of ha, SqT.of hb, ?_⟩⟩
  refine for_zipN (K := K) (a := a) (b := b) (xs := vs) (ys := ws) (fun σ H2 => ∃ (xp xq : Option L2.V), σ = [some (.ref a), some (.ref b), xp, xq] ∧ L2.Same H H2) ⟨none, none, rfl, .refl _⟩
    (fun σ H2 ⟨_, _, _, s2⟩ => ⟨SqT.of (s2 _ _ ha), SqT.of (s2 _ _ hb)⟩) ?_ ?_
  · rintro i x y t σ H2 hx hy ⟨xp, xq, rfl, s2⟩ ht
    obtain ⟨p, hp, rp⟩ := Paired.get pa hx
    obtain ⟨q, hq, rq⟩ := Paired.get pb hy
    have sn := same_new (o := .tup [x, y]) ht
    have sm' := s2.trans sn
    have rp := mP _ _ _ _ sm' rp
    have rq := mP _ _ _ _ sm' rq
    refine ⟨t, _, rfl, SqT.of upd_same, rfl, _, _, rfl, _, _, rfl, rfl, ?_⟩
    refine ⟨_, rfl, _, rfl, _, _, dp_P rp, dp_P rq, shaped_P _, shaped_P _, _, rfl, ?_⟩
    rw [eqv_P]
    by_cases e : p = q
    · rw [decide_eq_true e]
      exact ⟨_, _, rfl, sm'⟩
    · rw [decide_eq_false e]
      refine ⟨_, rfl, _, rfl, _, _, p, q, rfl, rp, rq, ⟨lV.1 _ (List.mem_of_getElem? hp), lW.1 _ (List.mem_of_getElem? hq)⟩, fun u5 H5 s5 r5 => ?_⟩
      rw [show u5 = .bl _ from r5]
      exact k _ _ (sm'.trans s5)
  · rintro σ H2 ⟨xp, xq, rfl, s2⟩
    exact ⟨_, rfl, a, vs, rfl, .inr (SqT.of (s2 _ _ ha)), _, rfl, b, ws, rfl, .inr (SqT.of (s2 _ _ hb)), _, _, rfl, rfl, k _ _ s2⟩
theorem sc_asc : FnScope ["plates", "found", "plate", "low", "high", "middle"] ["plates"] (defScope (topS 55)) := ⟨rfl, rfl, rfl, by decide +kernel, rfl, by decide +kernel, by decide +kernel⟩
/-- how many rows a heap may be made of -/
def ROWS : Nat := 100000
def sp_asc : Sp := fun vs H Q _ => ∃ v Ps, vs = [v] ∧ rL (rT rP) H v Ps ∧ (∀ V ∈ Ps, LetQ V) ∧ Ps.length ≤ ROWS ∧ ∀ u Qs H', L2.Same H H' → Qs.Perm Ps → rL (rT rP) H' u Qs → Q u H'
theorem ins_perm {α : Type} (F : List α) (l : Nat) (p : α) : (F.take l ++ [p] ++ F.drop l).Perm (F ++ [p]) := by
  have h : (F.take l ++ [p] ++ F.drop l).Perm (p :: (F.take l ++ F.drop l)) := by
    rw [List.append_assoc]
    exact List.perm_middle
  rw [List.take_append_drop] at h
  exact h.trans (List.perm_append_comm (l₁ := [p]) (l₂ := F))
theorem ok_asc (T : Tx K mg) : Has P w K mg base "ascending" 3 sp_asc := by
  have G1 : Has P w K mg base "stands_ahead" 2 sp_ahead := ok_ahead T
  refine has_of T.ascending sc_asc (fun _ _ _ _ _ _ us hl => match us, hl with | [_], _ => rfl) (fun _ _ _ _ ⟨_, _, e, _⟩ => by rw [e]; rfl) fun f cdv A outer s H vs Q E hr h => ?_
  obtain ⟨v, Ps, rfl, ⟨a, vs, rfl, ha, pa⟩, lP, nP, k⟩ := h
  refine ⟨_, pss_cons (ps_set (i := 1) sc_asc.nd rfl (Or.inl rfl) (pe_lst pa_nil))
    (pss_cons (ps_for PassesOwn.never rfl (pi_list (pv 0)) (pg_name (i := 2) sc_asc.nd rfl (Or.inl rfl))
      (pss_cons (ps_par (i := 3) (j := 4) (by rfl) sc_asc.nd rfl rfl (by decide) rfl rfl (pa_cons pe_int (pa_cons (pe_callB call_len_seq (by rfl) T.n_len PySem.boot_len (pa_cons (pv 1) pa_nil)) pa_nil)) (by rfl))
      (pss_cons (ps_while PassesOwn.never (pt_cmpR op_lt (pv 3) (pv 4) (nomark _))
        (pss_cons (ps_set (i := 5) sc_asc.nd rfl (Or.inl rfl) (pe_op op_fdivZ (pe_op op_add (pv 3) (pv 4)) pe_int))
        (pss_one (ps_if (pt_val (pe_has G1 hr (by rfl) (pa_cons (pe_ix ix_list (pv 1) (pv 5) (fun _ _ => rfl)) (pa_cons (pv 2) pa_nil))))
          (pss_one (ps_set (i := 3) sc_asc.nd rfl (Or.inl rfl) (pe_op op_add (pv 5) pe_int))) (pss_one (ps_set (i := 4) sc_asc.nd rfl (Or.inl rfl) (pv 5)))))))
      (pss_one (ps_set (i := 1) sc_asc.nd rfl (Or.inl rfl) (pe_op op_cat (pe_op op_cat (pe_slice sl_list (pv 1) po_none (po_some (pv 3))) (pe_lst (pa_cons (pv 2) pa_nil))) (pe_slice sl_list (pv 1) (po_some (pv 3)) po_none)))))))
    (pss_one (ps_ret (pv 1)))), ?_⟩
  have sz : sizeLine = 16777216 := rfl
  have rows : ROWS = 100000 := rfl
  have la := Paired.len pa
  refine ⟨by show 0 ≤ sizeLine; decide, fun d hd => ?_⟩
  have s0 : L2.Same H (upd H d (.lst [])) := same_new hd
  refine ⟨_, rfl, a, rfl, ⟨_, SqL.of (s0 _ _ ha)⟩, ?_⟩
  refine for_list (K := K) (a := a) (xs := vs) (fun i σ H2 => ∃ (vf : L2.V) (xp xl xh xm : Option L2.V) (Fs : List (List Pt)), σ = [some (.ref a), some vf, xp, xl, xh, xm] ∧ L2.Same H H2 ∧ rL (rT rP) H2 vf Fs ∧ Fs.Perm (Ps.take i))
    ⟨_, none, none, none, none, [], rfl, s0, ⟨d, [], rfl, upd_same, .nil⟩, .refl _⟩ (fun i σ H2 _ ⟨_, _, _, _, _, _, _, s2, _⟩ => SqL.of (s2 _ _ ha)) ?_ ?_
  · rintro i y σ H2 hi ⟨vf, xp, xl, xh, xm, Fs, rfl, s2, hF, pF⟩
    obtain ⟨V, hV, ry⟩ := Paired.get pa hi
    have iP : i < Ps.length := (List.getElem?_eq_some_iff.mp hV).1
    have lF : Fs.length ≤ Ps.length := by rw [pF.length_eq, List.length_take]; omega
    obtain ⟨b, fs, rfl, hb, pb⟩ := id hF
    have lb := Paired.len pb
    refine ⟨_, rfl, b, fs, rfl, .inl (SqL.of hb), _, _, rfl, ?_⟩
    -- the search
    refine ⟨fun m σ5 H5 => ∃ (l h : Nat) (xm : Option L2.V), m = h - l ∧ l ≤ h ∧ h ≤ fs.length ∧ σ5 = [some (.ref a), some (.ref b), some y, some (.int (l : Int)), some (.int (h : Int)), xm] ∧ L2.Same H2 H5, ⟨_, 0, fs.length, xm, rfl, Nat.zero_le _, Nat.le_refl _, rfl, .refl _⟩, ?_⟩
    rintro m σ5 H5 ⟨l, h, xm, rfl, lh, hf, rfl, s5⟩
    refine ⟨_, rfl, _, rfl, _, _, rfl, rfl, _, rfl, ?_⟩
    have h5 := s5 _ _ hb
    have ry5 : rT rP H5 y V := mT mP _ _ _ _ (s2.trans s5) ry
    refine ite2 (fun e => ?_) (fun e => ?_)
    · have lt : (l : Int) < (h : Int) := of_decide_eq_true e
      refine ⟨_, fun σ' H' z => z, ?_⟩
      have em : ((l : Int) + (h : Int)).fdiv 2 = (((l + h) / 2 : Nat) : Int) := by
        rw [Int.fdiv_eq_ediv_of_nonneg _ (by decide)]
        omega
      refine ⟨_, rfl, _, rfl, _, _, rfl, rfl, _, _, rfl, rfl, ⟨by decide, by decide +kernel⟩, ?_⟩
      obtain ⟨U, hU⟩ : ∃ U, Fs[(l + h) / 2]? = some U := ⟨_, List.getElem?_eq_getElem (by omega)⟩
      have mU : U ∈ Ps := List.mem_of_mem_take (pF.mem_iff.mp (List.mem_of_getElem? hU))
      refine ⟨_, rfl, _, rfl, ?_⟩
      have hF5 : rL (rT rP) H5 (.ref b) Fs := mL (mT mP) _ _ _ _ s5 hF
      refine ixL' em hF5 hU fun vu ru => ?_
      refine ⟨_, rfl, vu, y, U, V, rfl, ru, ry5, lP _ mU, lP _ (List.mem_of_getElem? hV), fun c H6 s6 => ⟨c, rfl, ?_⟩⟩
      cases c with
      | true =>
        refine ⟨_, rfl, _, _, rfl, rfl, ?_⟩
        have e2 : ((l : Int) + (h : Int)).fdiv 2 + 1 = (((l + h) / 2 + 1 : Nat) : Int) := by omega
        exact ⟨h - ((l + h) / 2 + 1), by omega, (l + h) / 2 + 1, h, _, rfl, by omega, hf, congrArg (fun z : Int => [some (L2.V.ref a), some (.ref b), some y, some (.int z), some (.int (h : Int)), some (.int (((l : Int) + (h : Int)).fdiv 2))]) e2, s5.trans s6⟩
      | false =>
        refine ⟨_, rfl, ?_⟩
        exact ⟨(l + h) / 2 - l, by omega, l, (l + h) / 2, _, rfl, by omega, by omega, congrArg (fun z : Int => [some (L2.V.ref a), some (.ref b), some y, some (.int (l : Int)), some (.int z), some (.int (((l : Int) + (h : Int)).fdiv 2))]) em, s5.trans s6⟩
    · -- the new list
      refine ⟨_, rfl, _, rfl, _, rfl, b, fs, rfl, SqL.of h5, fun t1 ht1 => ?_⟩
      have s6 := same_new (o := .lst (cutV fs none (some (l : Int)))) ht1
      have e1 : (upd H5 t1 (.lst (cutV fs none (some (l : Int))))) t1 = some (.lst (fs.take l)) := by rw [cut_take]; exact upd_same
      generalize upd H5 t1 (.lst (cutV fs none (some (l : Int)))) = H6 at *
      refine ⟨_, rfl, by show 1 ≤ sizeLine; decide, fun t2 ht2 => ?_⟩
      have s7 := same_new (o := .lst [y]) ht2
      refine ⟨t1, t2, _, _, rfl, rfl, s7 _ _ e1, upd_same, by simp; omega, fun t3 ht3 => ?_⟩
      have s8 := same_new (o := .lst (fs.take l ++ [y])) ht3
      have s58 := s6.trans (s7.trans s8)
      have e3 : (upd (upd H6 t2 (.lst [y])) t3 (.lst (fs.take l ++ [y]))) t3 = some (.lst (fs.take l ++ [y])) := upd_same
      generalize upd (upd H6 t2 (.lst [y])) t3 (.lst (fs.take l ++ [y])) = H8 at *
      refine ⟨_, rfl, _, rfl, _, rfl, b, fs, rfl, SqL.of (s58 _ _ h5), fun t4 ht4 => ?_⟩
      have s9 := same_new (o := .lst (cutV fs (some (l : Int)) none)) ht4
      have e4 : (upd H8 t4 (.lst (cutV fs (some (l : Int)) none))) t4 = some (.lst (fs.drop l)) := by rw [cut_drop]; exact upd_same
      generalize upd H8 t4 (.lst (cutV fs (some (l : Int)) none)) = H9 at *
      refine ⟨t3, t4, _, _, rfl, rfl, s9 _ _ e3, e4, by simp; omega, fun t5 ht5 => ?_⟩
      have s10 := same_new (o := .lst (fs.take l ++ [y] ++ fs.drop l)) ht5
      have s510 := s58.trans (s9.trans s10)
      have tk : Ps.take (i + 1) = Ps.take i ++ [V] := by rw [List.take_add_one, hV]; rfl
      refine ⟨.ref t5, _, _, _, _, Fs.take l ++ [V] ++ Fs.drop l, rfl, s2.trans (s5.trans s510), ⟨t5, _, rfl, upd_same, ?_⟩, ?_⟩
      · have ss := s5.trans s510
        have pb' : Paired (rT rP (upd H9 t5 (.lst (fs.take l ++ [y] ++ fs.drop l)))) fs Fs := Paired.imp pb fun _ _ r => mT mP _ _ _ _ ss r
        exact Paired.append (Paired.append (Paired.take' l pb') (.cons (mT mP _ _ _ _ s510 ry5) .nil)) (Paired.drop' l pb')
      · rw [tk]
        exact (ins_perm Fs l V).trans (List.Perm.append_right [V] pF)
  · rintro σ H2 ⟨vf, xp, xl, xh, xm, Fs, rfl, s2, hF, pF⟩
    rw [la, List.take_length] at pF
    exact ⟨_, rfl, k _ _ _ s2 pF hF⟩
end
end Wk

set_option Elab.async false
set_option linter.all false
set_option maxRecDepth 100000
/-! W26: operators of own instances. -/
namespace Wk
open PySem L2 PySem.Spec PyProof.Rows PySem.Calls
open Pz (Pt Ln)
section
variable {X : Cx} {CX : CXT} {C f : Addr} {fd : FuncData} {ps : List Str} {sp : Sp} {E : XK} {k : Nat}
/-- a def of the text, called somewhere below -/
theorem run_own {A : Around} {pins : List (Addr × Obj)} {σ : L2.St} {H : Hp} {s : Shared} {Q : VK} {us : List Value} {vs : List V} (sb : Sub X k A) (F : FnOk X.prog X.w X.K X.mg X.base CX k f fd ps sp) (hb : Binds X.K fd ps []) (hx : Passes CX X E)
    (I : Inv X pins σ H s) (r : Vals vs us) (h : sp vs H Q E) : wpAny (model X.prog X.w) A (call (.ref f) us) (EP X pins σ Q) X.xe s := by
  have hl : us.length = ps.length := by rw [← r.length]; exact F.len _ _ _ _ h
  have e0 : Env0 X.prog X.w X.K X.mg X.base A X.stack s H := by
    have e := I.env0
    exact ⟨by rw [sb.fr]; exact e.frames, e.mod, e.bs, e.bsz, e.funs, e.frf, e.hok, e.bare⟩
  refine wpAny_call (codeAny_mono (F.run A X.stack s H ⟨us, []⟩ us vs Q E sb.room e0 (by
    have := hb s us I.kIn (by simpa using hl)
    simpa using this) r h) fun r s' hq => ?_)
  cases r with
  | error e => exact hx pins σ H s e s' I hq
  | ok fl =>
    cases fl with
    | ret u => exact I.after hq
    | next => exact False.elim hq
    | brk => exact False.elim hq
    | cont => exact False.elim hq
/-- only objects come back -/
def onlyRef (Q : VK) : VK := fun v H => ∃ c, v = .ref c ∧ Q v H
theorem back_ref {pins : List (Addr × Obj)} {σ : L2.St} {Q : VK} {v : Value} {s : Shared} (h : EP X pins σ (onlyRef Q) v s) : PySem.W.CmpBack (EP X pins σ Q) v s := by
  obtain ⟨z, H', I', rz, c, ez, q⟩ := h
  subst ez
  cases rz
  exact ⟨.ref c, H', I', rfl, q⟩
/-- x op y, both of the class at C, by a method of the text -/
def rOwn (C : Addr) (sp : Sp) (E : XK) : R2 := fun x y H Q => ∃ a b dx dy fs gs, x = .ref a ∧ y = .ref b ∧ H a = some (.ins C dx fs) ∧ H b = some (.ins C dy gs) ∧ sp [x, y] H (onlyRef Q) E
theorem op_own {op : Operator} (F : FnOk X.prog X.w X.K X.mg X.base CX k f fd ps sp) (hr : Room k X.A) (hc : PySem.W.selfFirst X.K C = true) (hs : PySem.W.findIn X.K (.ref C) (PySem.dunder op.info.2) = some (some (.ref f)))
    (hf : PySem.W.isFn X.K (.ref f) = true) (hb : Binds X.K fd ps []) (hx : Passes CX X E) : OpR X (binaryOp op) (rOwn C sp E) := by
  intro pins s σ H x y v u Q I rx ry h
  obtain ⟨a, b, dx, dy, fs, gs, rfl, rfl, ha, hb', q⟩ := h
  cases rx
  cases ry
  obtain ⟨mA, J, _⟩ := ins_get I.hok ha
  obtain ⟨mB, J', _⟩ := ins_get I.hok hb'
  obtain ⟨od, J, _⟩ := J.look
  obtain ⟨od', J', _⟩ := J'.look
  obtain ⟨m, hF⟩ := I.fr
  refine PySem.W.binop_K hF I.ok.mod.kin J J'.type hc hs hf ?_
  exact wpAny_mono (run_own ⟨hr, rfl⟩ F hb hx I (us := [.ref a, .ref b]) (vs := [.ref a, .ref b]) (.cons rfl (.cons rfl .nil)) q) (fun v s' z => back_ref z) fun _ _ z => z
/-- x * n, n an int -/
def rOwnI (C : Addr) (sp : Sp) (E : XK) : R2 := fun x y H Q => ∃ a dx fs n, x = .ref a ∧ y = .int n ∧ H a = some (.ins C dx fs) ∧ sp [x, y] H (onlyRef Q) E
theorem op_ownI {op : Operator} {fo ro rc : Option Value} (F : FnOk X.prog X.w X.K X.mg X.base CX k f fd ps sp) (hr : Room k X.A) (hc : PySem.W.selfFirst X.K C = true) (hs : PySem.W.findIn X.K (.ref C) (PySem.dunder op.info.2) = some (some (.ref f)))
    (hf : PySem.W.isFn X.K (.ref f) = true) (hrr : PySem.W.findIn X.K (.ref C) (dunderR op.info.2) = some rc) (hp : rc = none ∨ ∃ g : Addr, rc = some (.ref g)) (h1 : PySem.W.findIn X.K (.type "int") (PySem.dunder op.info.2) = some fo)
    (h2 : PySem.W.findIn X.K (.type "int") (dunderR op.info.2) = some ro) (hsub : PySem.W.subIn X.K (.type "int") (.ref C) = some false) (hb : Binds X.K fd ps []) (hx : Passes CX X E) : OpR X (binaryOp op) (rOwnI C sp E) := by
  intro pins s σ H x y v u Q I rx ry h
  obtain ⟨a, dx, fs, n, rfl, rfl, ha, q⟩ := h
  cases rx
  obtain ⟨t, rfl⟩ := ry
  obtain ⟨mA, J, _⟩ := ins_get I.hok ha
  obtain ⟨od, J, _⟩ := J.look
  obtain ⟨m, hF⟩ := I.fr
  refine PySem.W.ksp_binT hF I.ok.mod.kin J (T := "int") rfl hc hs hf hrr hp h1 h2 hsub ?_
  exact wpAny_mono (run_own ⟨hr, rfl⟩ F hb hx I (us := [.ref a, .int n t]) (vs := [.ref a, .int n]) (.cons rfl (.cons ⟨t, rfl⟩ .nil)) q) (fun v s' z => back_ref z) fun _ _ z => z
end
section
variable {prog : Program} {w : World} {A : Around} {E : Value → Shared → Prop} {s : Shared}
/-- int.__mul__ has nothing to say of an instance -/
theorem mul_declines (a : Int) (t : Tok) (l C dx : Addr) :
    Meets (Builtin.«int.__mul__» ⟨[.int a t, .ref l], []⟩) (fun _ R s => s.heap.get? l = some (PySem.W.instObj C dx) ∧ R (.ok (.ret Value.notImplemented)) s) :=
  .of_wp fun prog w A R s h => by obtain ⟨hp, g, d, tk, os⟩ := s; obtain ⟨hl, h⟩ := h; wp_walk; exact ⟨_, rfl, h⟩
theorem mul_call {a : Int} {t : Tok} {l C dx : Addr} {Q : Value → Shared → Prop} (h : s.heap.get? l = some (PySem.W.instObj C dx)) (q : Q .notImplemented s) : wpAny (model prog w) A (call (.builtin "int.__mul__") [.int a t, .ref l]) Q E s := by
  refine call_meets PySem.F.slot_int_mul (typeIs_int s a t) PySem.F.entry_int_mul (PySem.F.args_int_mul_2 _ _) (mul_declines a t l C dx) ?_
  exact ⟨h, q⟩
theorem mul_try {a : Int} {t : Tok} {l C dx : Addr} {Q : Option Value → Shared → Prop} (h : s.heap.get? l = some (PySem.W.instObj C dx)) (q : Q none s) : wpAny (model prog w) A (tryMethod (.int a t) (PySem.dunder "mul") (.ref l)) Q E s := by
  have z := mul_call (prog := prog) (w := w) (A := A) (E := E) (a := a) (t := t) (Q := fun v s' => v = Value.notImplemented ∧ Q none s') h ⟨rfl, q⟩
  have y := PySem.F.slot_int_mul
  generalize PySem.dunder "mul" = nm at *
  exact wpAny_tryMethod_declines (typeIs_int s a t) y z
theorem looks_bin {K : PySem.W.Frag} {x C dx f : Addr} {od : Option Obj} {n : Int} {t : Tok} {Q : Value → Shared → Prop} (X : K.In s.heap) (I : PySem.W.InstAt s.heap x (PySem.W.instObj C dx) C od) (hc : PySem.W.selfFirst K C = true)
    (hs : PySem.W.findIn K (.ref C) (PySem.dunder "mul") = some (some (.ref f))) {g : Addr} (hr : PySem.W.findIn K (.ref C) (dunderR "mul") = some (some (.ref g))) (hg : PySem.W.isFn K (.ref g) = true) (hsub : PySem.W.subIn K (.ref C) (.type "int") = some false)
    (h : wpAny (model prog w) A (call (.ref g) [.ref x, .int n t]) (PySem.W.CmpBack Q) E s) : wpAny (model prog w) A (binaryOp .Mult (.int n t) (.ref x)) Q E s := by
  obtain ⟨cd, rest, hcd, hm⟩ := PySem.W.ksp_first hc
  have one : wpAny (model prog w) A (tryMethod (.ref x) (dunderR "mul") (.int n t)) (fun r s' => ∃ v, r = some v ∧ Q v s') E s := PySem.W.ksp_try X I hr hg h
  have two : ∀ Q' : Option Value → Shared → Prop, Q' none s → wpAny (model prog w) A (tryMethod (.int n t) (PySem.dunder "mul") (.ref x)) Q' E s := fun Q' q' => mul_try I.at_ q'
  have e2 : PySem.W.Looks (model prog w) s.heap (typeOf (.ref x)) (.ref C) := I.type
  have e3 : PySem.W.Looks (model prog w) s.heap (fillsNumberSlot (.ref C) "mul") true := PySem.W.fills_K X hcd hm hs
  have e5 : PySem.W.Looks (model prog w) s.heap (isSubtype (.ref C) (.type "int")) false := PySem.W.looks_subIn X hsub
  have hne : (Value.type "int" == Value.ref C) = false := Bool.eq_false_iff.mpr fun q => by cases beq_iff_eq.mp q
  have e6 : numberSlotInPython (.type "int") "mul" = pure false := rfl
  unfold binaryOp
  refine wpAny_holding (wpAny_bind ?_)
  unfold binaryOp1
  refine wpAny_bind (wpAny_typeOf (typeIs_int s n t) (wpAny_bind (e2.here (wpAny_bind (wpAny_of_eq PySem.F.fills_int_mul ?_)))))
  simp only [hne, Bool.false_eq_true, if_false]
  refine wpAny_bind (e3.here ?_)
  simp only [Bool.and_self, if_true]
  refine wpAny_bind (e5.here ?_)
  simp only [Bool.false_eq_true, if_false, Bool.not_false, Bool.and_self, if_true]
  refine wpAny_bind (wpAny_of_eq e6 ?_)
  simp only [Bool.false_eq_true, if_false]
  refine wpAny_bind (two _ ?_)
  refine wpAny_bind (wpAny_mono one (fun r s' hr' => ?_) fun _ _ e => e)
  obtain ⟨v, rfl, hq⟩ := hr'
  exact wpAny_bind (wpAny_rule (wpAny_pure (wpAny_pure hq)))
end
end Wk

set_option Elab.async false
set_option linter.all false
set_option maxRecDepth 100000
/-! W27: != by the text's own ==. -/
namespace Wk
open PySem L2 PySem.Spec PyProof.Rows PySem.Calls
section
variable {prog : Program} {w : World} {A : Around} {E : Value → Shared → Prop} {K : PySem.W.Frag} {x y C f : Addr} {ox oy : Obj} {od od' : Option Obj} {h : Heap} {g : Array GenState} {d : Drawn} {t : Nat} {os : OsState}
theorem ne_entry (X : K.In h) (I : PySem.W.InstAt h x ox C od) (hs : PySem.W.findIn K (.ref C) "__eq__" = some (some (.ref f))) (hf : PySem.W.isFn K (.ref f) = true) (hu : A.units < cLine) {Q : Fin → Shared → Prop}
    (hcall : wpAny (model prog w) A (call (.ref f) [.ref x, .ref y]) (fun v s' => ∃ b, v = .bool b ∧ Q (.done (.ret (.bool (!b)))) s') E ⟨h, g, d, t, os⟩) :
    wpAny (model prog w) A (Builtin.«object.__ne__» ⟨[.ref x, .ref y], []⟩) Q E ⟨h, g, d, t, os⟩ := by
  unfold Builtin.«object.__ne__»
  repeat (first
    | with_reducible refine wpAny_cRoomFor hu ?_
    | (refine wpAny_bind (m := callSpecialIfBound? (.ref x) (Str.ofString "__eq__") [.ref y])
        (PySem.W.ifBound_K (s := ⟨h, g, d, t, os⟩) X I hs hf (wpAny_mono hcall (fun r s' hr => by
          obtain ⟨b, rfl, hq⟩ := hr
          repeat (first | exact hq | exact wpAny_pure hq | exact wpAny_truthy_bool hq | (refine wpAny_bind (m := truthy (.bool _)) (wpAny_truthy_bool ?_)) | wp_step)) fun _ _ e => e)))
    | wp_step)
theorem ifBound_B {M : Model} {name : Str} {id : String} {args : List Value} {s : Shared} {Q : Option Value → Shared → Prop} (X : K.In s.heap) (I : PySem.W.InstAt s.heap x ox C od) (hs : PySem.W.findIn K (.ref C) name = some (some (.builtin id))) (hb : ∀ self, bindSpecial (.builtin id) self = pure (.builtin id, [self]))
    (h : wpAny M A (call (.builtin id) (.ref x :: args)) (fun v => Q (some v)) E s) : wpAny M A (callSpecialIfBound? (.ref x) name args) Q E s := by
  simp only [callSpecialIfBound?, bindSpecialIfBound?]
  refine wpAny_holding (wpAny_bind (wpAny_bind (wpAny_bind (I.type.here ((PySem.W.looks_findIn X hs).here ?_)))))
  simp only [hb]
  refine wpAny_bind (wpAny_askSetting (wpAny_ite ?_))
  have fin : wpAny M A (call (.builtin id) ([.ref x] ++ args) >>= fun v => pure (some v)) Q E s := wpAny_bind (wpAny_mono h (fun v s' h' => wpAny_pure h') fun _ _ h' => h')
  split
  · exact wpAny_bind (wpAny_pure (wpAny_pure fin))
  · exact wpAny_tryCatch (wpAny_bind (wpAny_pure (wpAny_pure fin)))
theorem ne_try (X : K.In h) (I : PySem.W.InstAt h x ox C od) (hs : PySem.W.findIn K (.ref C) "__eq__" = some (some (.ref f))) (hf : PySem.W.isFn K (.ref f) = true) (hn : PySem.W.findIn K (.ref C) "__ne__" = some (some (.builtin "object.__ne__")))
    (ho : PySem.W.subIn K (.ref C) (.type "object") = some true) (hu : A.in1.units < cLine) {Q : Option Value → Shared → Prop}
    (hcall : wpAny (model prog w) A.in1 (call (.ref f) [.ref x, .ref y]) (fun v s' => ∃ b, v = .bool b ∧ Q (some (.bool (!b))) s') E ⟨h, g, d, t, os⟩) :
    wpAny (model prog w) A (tryCompare (.ref x) "__ne__" (.ref y)) Q E ⟨h, g, d, t, os⟩ := by
  simp only [tryCompare]
  refine wpAny_bind (ifBound_B (s := ⟨h, g, d, t, os⟩) X I hn PySem.F.cmp_object.ne.bind (wpAny_call (codeAny_call_builtin PySem.F.cmp_object.ne.plain PySem.F.cmpEntry_ne
    (PySem.W.check_slot PySem.F.cmpKind_ne PySem.F.cmpSplit_ne (I.type.andThen (PySem.W.looks_subIn X ho)) (PySem.F.cmpArgs_ne _ _)
      (ne_entry (A := A.in1) X I hs hf hu (wpAny_mono hcall (fun v s' hv => ?_) fun _ _ e => e))))))
  obtain ⟨b, rfl, hq⟩ := hv
  first | exact ⟨b, rfl, wpAny_pure hq⟩ | exact ⟨b, rfl, wpAny_pure (wpAny_pure hq)⟩ | exact ⟨b, rfl, hq⟩
theorem ne_cmp (X : K.In h) (I : PySem.W.InstAt h x ox C od) (I' : PySem.W.InstAt h y oy C od') (hs : PySem.W.findIn K (.ref C) "__eq__" = some (some (.ref f))) (hf : PySem.W.isFn K (.ref f) = true) (hn : PySem.W.findIn K (.ref C) "__ne__" = some (some (.builtin "object.__ne__")))
    (ho : PySem.W.subIn K (.ref C) (.type "object") = some true) (hu : A.in1.units < cLine) (hu' : A.units < cLine) {Q : Value → Shared → Prop}
    (hcall : wpAny (model prog w) A.in1 (call (.ref f) [.ref x, .ref y]) (fun v s' => ∃ b, v = .bool b ∧ Q (.bool (!b)) s') E ⟨h, g, d, t, os⟩) :
    wpAny (model prog w) A (compareOp .NotEq (.ref x) (.ref y)) Q E ⟨h, g, d, t, os⟩ := by
  unfold compareOp richCompare
  simp only [oneThing_ref]
  refine wpAny_holding ?_
  refine wpAny_bind (wpAny_cRoomFor hu' ?_)
  rw [cmpInfo_NotEq]
  dsimp only
  refine wpAny_bind (I.type.here (s := ⟨h, g, d, t, os⟩) ?_)
  refine wpAny_bind (I'.type.here (s := ⟨h, g, d, t, os⟩) ?_)
  rw [show (Value.ref C != Value.ref C) = false from by simp]
  simp only [Bool.false_eq_true, if_false]
  refine wpAny_bind (wpAny_pure ?_)
  simp only [Bool.false_eq_true, if_false]
  refine wpAny_bind (ne_try X I hs hf hn ho hu (wpAny_mono hcall (fun v s' hv => ?_) fun _ _ e => e))
  obtain ⟨b, rfl, hq⟩ := hv
  first | exact ⟨b, rfl, wpAny_pure hq⟩ | exact ⟨b, rfl, wpAny_pure (wpAny_pure hq)⟩
end
section
variable {X : Cx} {CX : CXT} {C f : Addr} {fd : FuncData} {ps : List Str} {sp : Sp} {E : XK} {k : Nat}
def rOwnNe (C : Addr) (sp : Sp) (E : XK) : R2 := fun x y H Q => ∃ a b dx dy fs gs, x = .ref a ∧ y = .ref b ∧ H a = some (.ins C dx fs) ∧ H b = some (.ins C dy gs) ∧ sp [x, y] H (fun v H' => ∃ c, v = .bl c ∧ Q (.bl (!c)) H') E
theorem op_ownNe (F : FnOk X.prog X.w X.K X.mg X.base CX k f fd ps sp) (hr : Room (k + 1) X.A) (hs : PySem.W.findIn X.K (.ref C) "__eq__" = some (some (.ref f))) (hf : PySem.W.isFn X.K (.ref f) = true)
    (hn : PySem.W.findIn X.K (.ref C) "__ne__" = some (some (.builtin "object.__ne__"))) (ho : PySem.W.subIn X.K (.ref C) (.type "object") = some true) (hb : Binds X.K fd ps []) (hx : Passes CX X E) : OpR X (compareOp .NotEq) (rOwnNe C sp E) := by
  intro pins s σ H x y v u Q I rx ry h
  obtain ⟨a, b, dx, dy, fs, gs, rfl, rfl, ha, hb', q⟩ := h
  cases rx
  cases ry
  obtain ⟨mA, J, _⟩ := ins_get I.hok ha
  obtain ⟨mB, J', _⟩ := ins_get I.hok hb'
  obtain ⟨od, J, _⟩ := J.look
  obtain ⟨od', J', _⟩ := J'.look
  have sb : Sub X k X.A.in1 := Sub.in1 (n := k) ⟨hr, rfl⟩
  have z := wpAny_mono (run_own sb F hb hx I (us := [.ref a, .ref b]) (vs := [.ref a, .ref b]) (.cons rfl (.cons rfl .nil)) q) (fun v s' (z : EP X pins σ _ v s') => show ∃ b, v = Value.bool b ∧ EP X pins σ Q (.bool (!b)) s' from ?_) fun _ _ z => z
  · have kx := I.kIn
    obtain ⟨hp, g, d, tk, os⟩ := s
    exact ne_cmp kx J J' hs hf hn ho sb.room.units0 hr.units0 z
  · obtain ⟨z, H', I', rz, c, ez, q⟩ := z
    subst ez
    exact ⟨c, rz, .bl (!c), H', I', rfl, q⟩
end
end Wk

set_option Elab.async false
set_option linter.all false
set_option maxRecDepth 100000
/-! W28: == of two dicts with plates as keys. -/
namespace Wk
open PySem L2 PySem.Spec PyProof.Rows PySem.Calls
open Pz (Pt Ln)
section
variable {prog : Program} {w : World} {K : Type} [DecidableEq K] {knd : HeapKind prog w K} {A : Around} {E : Value → Shared → Prop} {s : Shared}
theorem same_heap {nm : String} {a b : Addr} {xs ys : List (K × Addr × Value)} {Q : Bool → Shared → Prop} (ha : (a == sysModules) = false) (hb : (b == sysModules) = false) (hu : knd.room A)
    (da : s.heap.DictOfH knd a xs) (db : s.heap.DictOfH knd b ys) (len : xs.length = ys.length) (all : ∀ (i : Nat) (x : K × Addr × Value), xs[i]? = some x → ∃ (j : Nat) (p : Addr × Value), ys[j]? = some (x.1, p) ∧ SeqAt.EqAt A s x.2.2 p.2 true) (h : Q true s) :
    wpAny (model prog w) A (Builtin.Dict.samePairs nm a b) Q E s := by
  obtain ⟨oa, es, ep, hoa, _, hda, hea, hisa, _⟩ := da
  obtain ⟨ob, es', ep', hob, _, hdb, heb, hisb, hnb⟩ := db
  have hsz : es.size = es'.size := by rw [← Array.length_toList, ← Array.length_toList, hea, heb, List.length_map, List.length_map, len]
  unfold Builtin.Dict.samePairs Builtin.Dict.showsAll
  rw [if_neg (show ¬ (a == sysModules) = true by rw [ha]; exact Bool.false_ne_true), if_neg (show ¬ (b == sysModules) = true by rw [hb]; exact Bool.false_ne_true)]
  refine wpAny_bind (wpAny_pure (wpAny_bind (wpAny_pure ?_)))
  refine wpAny_bind (wpAny_dictEntries hoa hda ?_)
  dsimp only
  refine wpAny_bind (wpAny_dictEntries hob hdb ?_)
  rw [if_neg (by rw [hsz]; simp)]
  refine wpAny_bind (wpAny_dictEpoch hoa hda ?_)
  refine wpAny_bind ?_
  rw [Std.Legacy.Range.forIn_eq_forIn_range']
  simp only [Std.Legacy.Range.size, Nat.sub_zero, Nat.add_sub_cancel, Nat.div_one]
  refine wpAny_forIn_list _ (fun rest q s' => s' = s ∧ q = (none, ()) ∧ ∃ i, rest = List.range' i (es.size - i) ∧ i ≤ es.size) _ ?_ ?_ _ _ ⟨rfl, rfl, 0, by simp, Nat.zero_le _⟩
  · rintro x rest q s' ⟨rfl, rfl, i, hr, hi⟩
    have hlt : i < es.size := by
      rcases Nat.lt_or_ge i es.size with h | h
      · exact h
      · rw [Nat.sub_eq_zero_of_le h] at hr; simp at hr
    obtain ⟨rfl, hrest⟩ : x = i ∧ rest = List.range' (i + 1) (es.size - (i + 1)) := by
      have e : es.size - i = (es.size - (i + 1)) + 1 := by omega
      rw [e, List.range'_succ] at hr
      injection hr with h1 h2
      exact ⟨h1, h2⟩
    refine wpAny_bind (wpAny_dictEntries hoa hda ?_)
    rw [Array.getElem?_eq_getElem hlt]
    have hx : x < xs.length := by rw [← Array.length_toList, hea, List.length_map] at hlt; exact hlt
    have ex : es[x] = entryOfKey knd xs[x] := by
      have : es.toList[x]? = some (entryOfKey knd xs[x]) := by rw [hea, List.getElem?_map, List.getElem?_eq_getElem hx]; rfl
      rw [Array.getElem?_toList, Array.getElem?_eq_getElem hlt] at this
      exact Option.some.inj this
    obtain ⟨j, p, hj, hq⟩ := all x xs[x] (List.getElem?_eq_getElem hx)
    rw [ex]
    show wpAny _ _ (holding [Value.ref (xs[x]).2.1, (xs[x]).2.2] _ >>= _) _ _ _
    refine wpAny_bind (wpAny_holding (wpAny_bind ?_))
    show wpAny _ _ (dictFind b (.ref (xs[x]).2.1) (knd.hash (xs[x]).1)) _ _ _
    refine wpAny_dictFind_heap hu (hisa _ (List.getElem_mem hx)) hob hdb heb hisb hnb (fun no => absurd hj (no j p)) fun j' p' hj' => ?_
    have ej : j' = j ∧ p' = p := by
      have m1 : (ys.map (·.1))[j']? = some (xs[x]).1 := by rw [List.getElem?_map, hj']; rfl
      have m2 : (ys.map (·.1))[j]? = some (xs[x]).1 := by rw [List.getElem?_map, hj]; rfl
      obtain ⟨b1, c1⟩ := List.getElem?_eq_some_iff.mp m1
      have e : j' = j := (List.getElem?_inj b1 hnb).mp (m1.trans m2.symm)
      subst e
      rw [hj'] at hj
      exact ⟨rfl, (Prod.mk.inj (Option.some.inj hj)).2⟩
    obtain ⟨rfl, rfl⟩ := ej
    dsimp only
    refine wpAny_bind (wpAny_dictEntries hob hdb ?_)
    have ey : es'[j']? = some (entryOfKey knd ((xs[x]).1, p')) := by rw [← Array.getElem?_toList, heb, List.getElem?_map, hj]; rfl
    rw [ey]
    refine wpAny_holding (hq prog w _ _ ?_)
    show wpAny _ _ (if (!true) = true then _ else _) _ _ _
    rw [if_neg (by decide)]
    refine wpAny_bind (wpAny_dictEpoch hoa hda ?_)
    rw [if_neg (by simp)]
    exact wpAny_pure ⟨rfl, rfl, x + 1, hrest, hlt⟩
  · rintro q s' ⟨rfl, rfl, i, hr, hi⟩
    exact wpAny_pure h
end
section
variable {X : Cx} {α : Type} [DecidableEq α] {κ : KK α}
/-- d == e, the two alike -/
def rEqN (κ : KK α) (P : Program) (w : World) : R2 := fun x y H Q => ∃ d e kvs ks, x = .ref d ∧ y = .ref e ∧ ND κ P w H d kvs ∧ ND κ P w H e ks ∧ kvs.length = ks.length ∧ (∀ p ∈ kvs, ∃ i : Int, p.2 = .int i ∧ (p.1, V.int i) ∈ ks) ∧ Q (.bl true) H
theorem op_eqN (hu : X.A.units + 10 < cLine) : OpR X (compareOp .Eq) (rEqN κ X.prog X.w) := by
  intro pins s σ H x y v u Q I rx ry h
  obtain ⟨d, e, kvs, ks, rfl, rfl, ⟨o, xs, n⟩, ⟨o', ys, n'⟩, len, all, q⟩ := h
  cases rx
  cases ry
  have da := n.heap I.hok
  have db := n'.heap I.hok
  have ta : s.TypeIs (.ref d) "dict" := by
    obtain ⟨oo, _, _, h1, h2, _⟩ := da
    exact ⟨oo, h1, h2.1⟩
  have tb : s.TypeIs (.ref e) "dict" := by
    obtain ⟨oo, _, _, h1, h2, _⟩ := db
    exact ⟨oo, h1, h2.1⟩
  refine wpAny_richCompare_same_room (op := .Eq) ta tb PySem.F.slot_dict_eq (wpAny_call_entry PySem.F.slot_dict_eq ta PySem.F.entry_dict_eq ?_ (PySem.F.args_dict_eq_2 _ _)) (by omega)
  show wpAny _ _ (Builtin.Dict.dictSlotArgs "__eq__" ⟨[.ref d, .ref e], []⟩ >>= _) _ _ s
  refine wpAny_bind ?_
  unfold Builtin.Dict.dictSlotArgs
  refine wpAny_bind (wpAny_notOrdered_dict ta ?_)
  show wpAny _ _ (pure (Value.ref d, Value.ref e)) _ _ s
  refine wpAny_pure ?_
  refine wpAny_bind (wpAny_isInstance (T := "dict") tb PySem.F.sub_dict_dict ?_)
  simp only [Bool.not_true, Bool.false_eq_true, if_false]
  refine wpAny_bind (wpAny_pure (wpAny_bind (wpAny_pure ?_)))
  refine wpAny_bind (same_heap (knd := nestedKind X.prog X.w) n.sys n'.sys (show X.A.units + 1 + 8 < cLine by omega) da db ?_ (fun i z hz => ?_) ?_)
  · rw [ents_len n.ents, ents_len n'.ents, len]
  · obtain ⟨p, hp, k1, k2, k3⟩ := Paired.get' n.ents hz
    obtain ⟨m, em, hm⟩ := all p (List.mem_of_getElem? hp)
    obtain ⟨j, hj⟩ := List.mem_iff_getElem?.mp hm
    obtain ⟨z', hz', k1', k2', k3'⟩ := Paired.get n'.ents hj
    refine ⟨j, z'.2, ?_, ?_⟩
    · rw [hz', k1, ← k1']
    · rw [em] at k3
      obtain ⟨t, et⟩ := k3
      obtain ⟨t', et'⟩ := k3'
      rw [et, et']
      have := SeqAt.EqAt.int_int (A := X.A.in1) (s := s) m t m t'
      rw [show (m == m) = true from beq_self_eq_true m] at this
      exact this
  · refine wpAny_pure ⟨_, rfl, ?_, ?_⟩
    · exact fun x => nomatch x
    · exact ⟨.bl true, H, I, rfl, q⟩
end
end Wk

set_option Elab.async false
set_option linter.all false
set_option maxRecDepth 100000
/-! W29: list(d.items()), whatever the keys are. -/
namespace Wk
open PySem L2 PySem.Spec PyProof.Rows PySem.Calls
section
variable {prog : Program} {w : World} {A : Around} {s : Shared} {es : Array DictEntry} {ep : Nat} {U J d v : Addr}
/-- the pairs that are made so far stand at as -/
structure Gr (es : Array DictEntry) (lo : Addr) (h : Heap) (as : List Addr) : Prop where
  up : as.Pairwise (· < ·)
  ab : ∀ a ∈ as, lo < a
  pr : ∀ (j : Nat) (a : Addr), as[j]? = some a → ∃ e, es[j]? = some e ∧ h.get? a = some { cls := .type "tuple", data := .seq #[e.key, e.val] }
theorem Gr.lt {lo : Addr} {h : Heap} {as : List Addr} (g : Gr es lo h as) {a : Addr} (m : a ∈ as) : a < h.objs.size := by
  obtain ⟨j, q⟩ := List.mem_iff_getElem?.mp m
  obtain ⟨e, _, k⟩ := g.pr j a q
  exact Heap.lt_size k
theorem Gr.less {lo lo' : Addr} {h : Heap} {as : List Addr} (g : Gr es lo h as) (l : lo' ≤ lo) : Gr es lo' h as := ⟨g.up, fun a m => Nat.lt_of_le_of_lt l (g.ab a m), g.pr⟩
theorem raw_keep {h h' : Heap} (r : h.DictRaw d es ep) (k : ∀ o, h.get? d = some o → h'.get? d = some o) : h'.DictRaw d es ep := let ⟨o, a, b, c⟩ := r; ⟨o, k o a, b, c⟩
theorem raw_lt {h : Heap} (r : h.DictRaw d es ep) : d < h.objs.size := let ⟨_, a, _⟩ := r; Heap.lt_size a
theorem it_step {E : Value → Shared → Prop} {i : Nat} {Q : Option Value → Shared → Prop} (st : PySem.W.KdxSt s.heap J d U i es.size ep) (hU : U < s.heap.objs.size) (r : s.heap.DictRaw d es ep) (lt : i < es.size)
    (k : ∀ h', PySem.W.KdxSt h' J d U (i + 1) es.size ep → h'.get? s.heap.objs.size = some { cls := .type "tuple", data := .seq #[es[i].key, es[i].val] } → h'.objs.size = s.heap.objs.size + 1 → (∀ b o, b ≠ J → s.heap.get? b = some o → h'.get? b = some o) → Q (some (.ref s.heap.objs.size)) { s with heap := h' }) :
    wpAny (model prog w) A (pyNext (.ref J)) Q E s := by
  rcases st with ⟨rfl, x, y, it⟩ | ⟨x, y, a, f, oa, it, ha, aJ, aU⟩
  · refine PySem.wpAny_pyNext_items_item_raw it r lt fun h' it' t z kp => k h' (.inr ⟨_, _, _, false, _, it', t, ?_, ?_⟩) t z kp
    · exact Nat.ne_of_gt (Heap.lt_size it)
    · exact Nat.ne_of_gt hU
  · exact PySem.wpAny_pyNext_items_item_out_raw it ha aJ r lt fun h' it' t z kp => k h' (.inr ⟨x, y, a, true, oa, it', kp a oa aJ ha, aJ, aU⟩) t z kp
theorem it_end {E : Value → Shared → Prop} {i : Nat} {Q : Option Value → Shared → Prop} (hh : A.handled = none) (st : PySem.W.KdxSt s.heap J d U i es.size ep) (r : s.heap.DictRaw d es ep) (ge : es.size ≤ i) (k : ∀ h', Heap.ExtBut J s.heap h' → Q none { s with heap := h' }) :
    wpAny (model prog w) A (pyNext (.ref J)) Q E s := by
  rcases st with ⟨rfl, x, y, it⟩ | ⟨x, y, a, f, oa, it, _⟩
  · exact PySem.wpAny_pyNext_items_end_raw hh it r ge k
  · exact PySem.wpAny_pyNext_items_end_out_raw hh it r ge k
theorem it_loop {R : Result → Shared → Prop} (hh : A.handled = none) (UJ : U < J) (dU : d ≠ U) (dJ : d ≠ J) (small : es.size ≤ sizeLine) (res : Value) {base : Heap}
    (fin' : ∀ h' tk acc c as, (∀ b o, b ≠ U → b ≠ J → base.get? b = some o → h'.get? b = some o) → h'.get? U = some { cls := .type "list", dict := none, data := .seq acc c, slots := #[] } → as.length = es.size → Gr es J h' as → acc.toList = as.map Value.ref → R (.ok (.ret res)) { s with heap := h', toks := tk }) :
    ∀ (m i : Nat) (h : Heap) (tk c : Nat) (acc : Array Value) (as : List Addr), es.size - i = m → i ≤ es.size → PySem.W.KdxSt h J d U i es.size ep → h.DictRaw d es ep → (∀ b o, b ≠ U → b ≠ J → base.get? b = some o → h.get? b = some o) →
      h.get? U = some { cls := .type "list", dict := none, data := .seq acc c, slots := #[] } → acc.toList = as.map Value.ref → as.length = i → Gr es J h as → J < h.objs.size →
      codeAny (model prog w) A (.builtin "list.extend.loop" ⟨[.ref U, .ref J, res], []⟩) R { s with heap := h, toks := tk } := by
  have UneJ : U ≠ J := Nat.ne_of_lt UJ
  intro m
  induction m with
  | zero =>
    intro i h tk c acc as em hi st r kp hU ea la g jl
    refine codeAny_builtin PySem.F.entry_extend_loop ?_
    rw [Around.under_plainId PySem.F.plain_extend_loop _]
    show wpAny _ A.in1 (pyNext (.ref J) >>= _) _ _ _
    refine wpAny_bind (it_end (s := { s with heap := h, toks := tk }) (A := A.in1) hh st r (by omega) fun h' ex => wpAny_pure (fin' h' tk acc c as (fun b o n1 n2 e => ex b o n2 (kp b o n1 n2 e)) (ex U _ UneJ hU) (by omega) ⟨g.up, g.ab, fun j a q => ?_⟩ ea))
    obtain ⟨e, e1, e2⟩ := g.pr j a q
    exact ⟨e, e1, ex a _ (Nat.ne_of_gt (g.ab a (List.mem_of_getElem? q))) e2⟩
  | succ m ih =>
    intro i h tk c acc as em hi st r kp hU ea la g jl
    have lt : i < es.size := by omega
    have sa : acc.size = i := by rw [← Array.length_toList, ea, List.length_map, la]
    refine codeAny_builtin PySem.F.entry_extend_loop ?_
    rw [Around.under_plainId PySem.F.plain_extend_loop _]
    show wpAny _ A.in1 (pyNext (.ref J) >>= _) _ _ _
    refine wpAny_bind (it_step (s := { s with heap := h, toks := tk }) (U := U) st (Heap.lt_size hU) r lt fun h' st' t z kp' => ?_)
    dsimp only at t z kp' ⊢
    have hU' := kp' U _ UneJ hU
    have up : ∀ b o, b ≠ U → h'.get? b = some o → (h'.update U (Obj.mapSeq (·.push (Value.ref h.objs.size)))).get? b = some o := fun b o n e => (Heap.get?_update_other _ _ (Ne.symm n)).trans e
    have Ul : U < h.objs.size := Heap.lt_size hU
    have nz : h.objs.size ≠ U := Nat.ne_of_gt Ul
    have tt := up _ _ nz t
    show wpAny _ A.in1 (updateSeq U (·.push (Value.ref h.objs.size)) >>= _) _ _ _
    refine wpAny_bind ?_
    refine wpAny_updateSeq hU' rfl (wpAny_pure ⟨plainId_quiet PySem.F.plain_extend_loop _, ih (i + 1) _ tk _ (acc.push (Value.ref h.objs.size)) (as ++ [h.objs.size]) (by omega) lt (st'.keep up (Ne.symm UneJ)) (raw_keep r fun o e => up d o dU (kp' d o dJ e))
      (fun b o n1 n2 e => up b o n1 (kp' b o n2 (kp b o n1 n2 e))) (Heap.get?_update_self _ hU' rfl) (by rw [Array.toList_push, ea, List.map_append]; rfl) (by rw [List.length_append, la]; rfl) ⟨?_, ?_, ?_⟩ (Nat.lt_trans jl (Heap.lt_size tt))⟩) (by rw [sa]; omega)
      (by show (acc.push (Value.ref h.objs.size)).size ≤ sizeLine + 1; rw [Array.size_push, sa]; omega)
    · exact List.pairwise_append.mpr ⟨g.up, List.pairwise_singleton _ _, fun a ma b mb => by rw [List.mem_singleton.mp mb]; exact g.lt ma⟩
    · intro a ma
      rcases List.mem_append.mp ma with q | q
      · exact g.ab a q
      · rw [List.mem_singleton.mp q]; exact jl
    · intro j b q
      by_cases c1 : j < as.length
      · rw [List.getElem?_append_left c1] at q
        obtain ⟨e, e1, e2⟩ := g.pr j b q
        have jb := g.ab b (List.mem_of_getElem? q)
        exact ⟨e, e1, up b _ (Nat.ne_of_gt (Nat.lt_trans UJ jb)) (kp' b _ (Nat.ne_of_gt jb) e2)⟩
      · rw [List.getElem?_append_right (by omega)] at q
        have c2 : j - as.length < 1 := (List.getElem?_eq_some_iff.mp q).1
        have ej : j = i := by omega
        subst ej
        rw [la, Nat.sub_self] at q
        have : h.objs.size = b := by simpa using q
        subst this
        exact ⟨es[j], Array.getElem?_eq_getElem lt, tt⟩
theorem it_extend {R : Result → Shared → Prop} (hh : A.handled = none) (hv : s.heap.IsItemsView v d) (r : s.heap.DictRaw d es ep) (Uv : U ≠ v) (dU : d ≠ U) (res : Value) (c₀ : Nat) (hU : s.heap.get? U = some { cls := .type "list", data := .seq #[] c₀ }) (small : es.size ≤ sizeLine)
    (fin : ∀ h' tk acc c as, (∀ b o, b ≠ U → s.heap.get? b = some o → h'.get? b = some o) → h'.get? U = some { cls := .type "list", dict := none, data := .seq acc c, slots := #[] } → as.length = es.size → Gr es s.heap.objs.size h' as → acc.toList = as.map Value.ref → R (.ok (.ret res)) { s with heap := h', toks := tk }) :
    wpAny (model prog w) A.in1 (Builtin.List.listExtendWith (.ref U) (.ref v) res) (fun q s' => match q with
      | .done f => R (.ok f) s'
      | .again c' => c'.quiet = true ∧ codeAny (model prog w) A c' R s') (fun e s' => R (.error e) s') s := by
  have Ul : U < s.heap.objs.size := Heap.lt_size hU
  have dl := raw_lt r
  have key : ∀ (h : Heap) (c₁ tk : Nat), (∀ b o, b ≠ U → (s.heap.push { cls := .type "dict_itemiterator", data := .fields #[.none, .bool false, .ref d, .int 0 0, .int es.size 0, .int ep 0, .none, .none] }).get? b = some o → h.get? b = some o) →
      h.get? U = some { cls := .type "list", data := .seq #[] c₁ } → codeAny (model prog w) A (.builtin "list.extend.loop" ⟨[.ref U, .ref s.heap.objs.size, res], []⟩) R { s with heap := h, toks := tk } := by
    intro h c₁ tk kp hU₁
    have hJ := kp s.heap.objs.size _ (Nat.ne_of_gt Ul) (Heap.get?_push_size _ rfl)
    have fn := fun h' tk' acc c as (kp' : ∀ b o, b ≠ U → b ≠ s.heap.objs.size → s.heap.get? b = some o → h'.get? b = some o) hU' hl g ea => fin h' tk' acc c as (fun b o n e => kp' b o n (Nat.ne_of_lt (Heap.lt_size e)) e) hU' hl g ea
    exact it_loop (s := s) (base := s.heap) hh Ul dU (Nat.ne_of_lt dl) small res fn es.size 0 h tk c₁ #[] [] (Nat.sub_zero _) (Nat.zero_le _) (.inl ⟨rfl, .none, .none, hJ⟩) (raw_keep r fun o e => kp d o dU (Heap.get?_push_of_some _ e))
      (fun b o n _ e => kp b o n (Heap.get?_push_of_some _ e)) hU₁ rfl rfl ⟨List.Pairwise.nil, (fun _ m => nomatch m), (fun j a q => by simp at q)⟩ (Heap.lt_size hJ)
  unfold Builtin.List.listExtendWith
  refine wpAny_bind (wpAny_typeOf (T := "dict_items") hv.typeIs ?_)
  have h1 : Builtin.List.listSameRef (.ref U) (.ref v) = false := by simp [Builtin.List.listSameRef, Uv]
  have h2 : (Value.type "dict_items" == Value.type "list") = false := by decide
  have h3 : (Value.type "dict_items" == Value.type "tuple") = false := by decide
  simp only [h1, h2, h3, Bool.or_false, Bool.false_eq_true, if_false]
  refine wpAny_bind (PySem.wpAny_pyIter_items_raw hv r ?_)
  have hU₁ := Heap.get?_push_of_some { cls := .type "dict_itemiterator", data := .fields #[.none, .bool false, .ref d, .int 0 0, .int es.size 0, .int ep 0, .none, .none] } hU
  refine wpAny_bind (wpAny_holding (PySem.W.kdx_hint (let ⟨o, ho, hc, _⟩ := hv; ⟨o, Heap.get?_push_of_some _ ho, hc⟩) ?_))
  refine wpAny_ite_split (fun _ => ?_) (fun _ => wpAny_pure ⟨plainId_quiet PySem.F.plain_extend_loop _, key _ c₀ _ (fun b o _ e => e) hU₁⟩)
  refine wpAny_bind (wpAny_rule ?_)
  refine wpAny_bind ?_
  show wpAny _ _ (updateSeq U (·.push .none) >>= fun _ => updateSeq U (·.pop)) _ _ _
  refine wpAny_bind (wpAny_updateSeq hU₁ rfl ?_)
  have hU₂ := Heap.get?_update_self (Obj.mapSeq (·.push Value.none)) hU₁ rfl
  refine wpAny_updateSeq (hz := by seq_fits) hU₂ rfl ?_
  have hU₃ := Heap.get?_update_self (Obj.mapSeq (·.pop)) hU₂ rfl
  refine wpAny_pure ⟨plainId_quiet PySem.F.plain_extend_loop _, key _ _ _ (fun b o n e => ?_) hU₃⟩
  exact (Heap.get?_update_other _ _ (Ne.symm n)).trans ((Heap.get?_update_other _ _ (Ne.symm n)).trans e)
theorem it_init {R : Result → Shared → Prop} (hh : A.handled = none) (hv : s.heap.IsItemsView v d) (r : s.heap.DictRaw d es ep) (Uv : U ≠ v) (dU : d ≠ U) (hU : s.heap.get? U = some { cls := .type "list", data := .seq #[] }) (small : es.size ≤ sizeLine)
    (fin : ∀ h' tk acc c as, (∀ b o, b ≠ U → s.heap.get? b = some o → h'.get? b = some o) → h'.get? U = some { cls := .type "list", dict := none, data := .seq acc c, slots := #[] } → as.length = es.size → Gr es U h' as → acc.toList = as.map Value.ref → R (.ok (.ret .none)) { s with heap := h', toks := tk }) :
    wpAny (model prog w) A.in1 (Builtin.«list.__init__» ⟨[.ref U, .ref v], []⟩) (fun q s' => match q with
      | .done f => R (.ok f) s'
      | .again c' => c'.quiet = true ∧ codeAny (model prog w) A c' R s') (fun e s' => R (.error e) s') s := by
  show wpAny _ _ (do let old ← Builtin.List.listItems (.ref U); Builtin.List.listUpdate (.ref U) (fun _ => #[]); letGo old.toList.reverse; Builtin.List.listExtendWith (.ref U) (.ref v) .none) _ _ s
  refine wpAny_bind ?_
  unfold Builtin.List.listItems
  refine wpAny_bind (wpAny_seqItems hU rfl (wpAny_pure ?_))
  show wpAny _ _ (updateSeq U (fun _ => #[]) >>= fun _ => letGo (#[] : Array Value).toList.reverse >>= fun _ => Builtin.List.listExtendWith (.ref U) (.ref v) .none) _ _ s
  refine wpAny_bind (wpAny_updateSeq hU rfl ?_)
  have hU₂ := Heap.get?_update_self (Obj.mapSeq (fun _ => (#[] : Array Value))) hU rfl
  have oth : ∀ b o, b ≠ U → s.heap.get? b = some o → (s.heap.update U (Obj.mapSeq (fun _ => (#[] : Array Value)))).get? b = some o := fun b o n e => (Heap.get?_update_other _ _ (Ne.symm n)).trans e
  refine wpAny_bind (wpAny_letGo ?_)
  refine it_extend hh (let ⟨o, ho, x⟩ := hv; ⟨o, oth v o Uv.symm ho, x⟩) (raw_keep r fun o e => oth d o dU e) Uv dU .none _ hU₂ small fun h' tk acc c as kp hU' hl g ea => ?_
  exact fin h' tk acc c as (fun b o n e => kp b o n (oth b o n e)) hU' hl (g.less (Nat.le_of_lt (Heap.lt_size hU₂))) ea
theorem it_list {E : Value → Shared → Prop} {Q : Value → Shared → Prop} (hh : A.handled = none) (hv : s.heap.IsItemsView v d) (r : s.heap.DictRaw d es ep) (small : es.size ≤ sizeLine)
    (fin : ∀ h' tk acc c as, (∀ b o, s.heap.get? b = some o → h'.get? b = some o) → h'.get? s.heap.objs.size = some { cls := .type "list", dict := none, data := .seq acc c, slots := #[] } → as.length = es.size → Gr es s.heap.objs.size h' as → acc.toList = as.map Value.ref → Q (.ref s.heap.objs.size) { s with heap := h', toks := tk }) :
    wpAny (model prog w) A (call (.type "list") [.ref v]) Q E s := by
  refine callType_codes (Q₁ := fun obj s₁ => obj = .ref s.heap.objs.size ∧ s₁ = { s with heap := s.heap.push { cls := .type "list", data := .seq #[] } }) PySem.F.called_list (PySem.F.typeCall_list_1 _) PySem.F.entry_list_init (code_list_new _ ⟨rfl, rfl⟩) fun obj s₁ h₁ => ?_
  obtain ⟨rfl, rfl⟩ := h₁
  have hU : (s.heap.push { cls := .type "list", data := .seq #[] }).get? s.heap.objs.size = some { cls := .type "list", data := .seq #[] } := Heap.get?_push_size _ rfl
  have vl : v < s.heap.objs.size := let ⟨_, ho, _⟩ := hv; Heap.lt_size ho
  have dl := raw_lt r
  refine ⟨⟨_, hU, rfl⟩, PySem.F.args_list_init_2 _ _, it_init (A := A.in1) hh (let ⟨o, ho, x⟩ := hv; ⟨o, Heap.get?_push_of_some _ ho, x⟩) (raw_keep r fun o e => Heap.get?_push_of_some _ e) (Nat.ne_of_gt vl) (Nat.ne_of_lt dl) hU small fun h' tk acc c as kp hU' hl g ea => ?_⟩
  exact ⟨rfl, fin h' tk acc c as (fun b o e => kp b o (Nat.ne_of_lt (Heap.lt_size e)) (Heap.get?_push_of_some _ e)) hU' hl g ea⟩
end
end Wk

set_option Elab.async false
set_option linter.all false
set_option maxRecDepth 100000
/-! W30: list(d.items()) as an expression. -/
namespace Wk
open PySem L2 PySem.Spec PyProof.Rows PySem.Calls
/-- new pairs at as -/
def putR : Hp → List Addr → List (Addr × V) → Hp
  | H, a :: as, l :: L => putR (upd H a (.tup [.ref l.1, l.2])) as L
  | H, _, _ => H
theorem putR_off {b : Addr} : ∀ (as : List Addr) (L : List (Addr × V)) (H : Hp), b ∉ as → putR H as L b = H b
  | [], _, _, _ => rfl
  | _ :: _, [], _, _ => rfl
  | a :: as, l :: L, H, h => by
    show putR (upd H a _) as L b = H b
    rw [putR_off as L _ (fun z => h (List.mem_cons_of_mem _ z)), upd_ne (fun z => h (by rw [z]; exact List.mem_cons_self))]
theorem putR_at : ∀ (as : List Addr) (L : List (Addr × V)) (H : Hp), as.length = L.length → as.Nodup → Paired (fun (t : Addr) (l : Addr × V) => putR H as L t = some (.tup [.ref l.1, l.2])) as L
  | [], [], _, _, _ => .nil
  | [], _ :: _, _, h, _ => by cases h
  | _ :: _, [], _, h, _ => by cases h
  | a :: as, l :: L, H, h, hn => by
    have hn' := List.nodup_cons.mp hn
    refine .cons ?_ (putR_at as L (upd H a (.tup [.ref l.1, l.2])) (Nat.succ.inj h) hn'.2)
    show putR (upd H a _) as L a = _
    rw [putR_off as L _ hn'.1, upd_same]
section
variable {X : Cx} {pins : List (Addr × Obj)} {σ : L2.St} {H : Hp} {s : Shared}
theorem laid {h' : Heap} {tk : Nat} {d : Addr} {o : Obj} {L : List (Addr × V)} {es : Array DictEntry} {ep : Nat} {acc : Array Value} {c : Nat} {as : List Addr} (I : Inv X pins σ H s) (hz : L.length ≤ sizeLine) (r : Rw H d o L es ep)
    (hk : ∀ b o, s.heap.get? b = some o → h'.get? b = some o) (hU : h'.get? s.heap.objs.size = some { cls := .type "list", dict := none, data := .seq acc c, slots := #[] }) (hl : as.length = es.size) (g : Gr es s.heap.objs.size h' as) (ea : acc.toList = as.map Value.ref) :
    ∃ H' : Hp, L2.Same H H' ∧ H s.heap.objs.size = none ∧ H' s.heap.objs.size = some (.lst (as.map V.ref)) ∧ Paired (fun (t : Addr) (l : Addr × V) => H' t = some (.tup [.ref l.1, l.2])) as L ∧ Inv X pins σ H' { s with heap := h', toks := tk } := by
  have lk : as.length = L.length := hl.trans r.len
  have no : s.heap.objs.size ∉ as := fun z => Nat.lt_irrefl _ (g.ab _ z)
  have nd : as.Nodup := List.Pairwise.imp (fun {a b} (h : a < b) => Nat.ne_of_lt h) g.up
  have new : ∀ t ∈ as, H t = none := fun t m => I.hok.fresh (Nat.le_of_lt (g.ab t m))
  have newU : H s.heap.objs.size = none := I.hok.fresh (Nat.le_refl _)
  have hat := putR_at as L (upd H s.heap.objs.size (.lst (as.map V.ref))) lk nd
  have off : ∀ b, b ∉ as → b ≠ s.heap.objs.size → putR (upd H s.heap.objs.size (.lst (as.map V.ref))) as L b = H b := fun b h1 h2 => by rw [putR_off as L _ h1, upd_ne h2]
  have low : ∀ b o, s.heap.get? b = some o → b ∉ as ∧ b ≠ s.heap.objs.size := fun b o e => ⟨fun z => absurd (Heap.lt_size e) (Nat.not_lt.mpr (Nat.le_of_lt (g.ab b z))), Nat.ne_of_lt (Heap.lt_size e)⟩
  have kp : ∀ b u, H b = some u → (putR (upd H s.heap.objs.size (.lst (as.map V.ref))) as L) b = some u := fun b u e => by
    rw [off b (fun z => by rw [new b z] at e; cases e) (fun z => by rw [z, newU] at e; cases e)]
    exact e
  have eU : putR (upd H s.heap.objs.size (.lst (as.map V.ref))) as L s.heap.objs.size = some (.lst (as.map V.ref)) := by rw [putR_off as L _ no, upd_same]
  refine ⟨_, kp, newU, eU, hat, ?_⟩
  refine I.call' (ch := []) rfl ⟨fun b o q _ _ _ => hk b o q, fun b o q _ _ _ => ⟨o.slots, hk b o q⟩, fun b o q n _ => ?_, fun b o q _ => ⟨o, hk b o q⟩, fun b xs q => kp b _ q, fun b o u q => kp b _ q, fun b ps q => ⟨#[], by rw [kp b _ q]; simp⟩⟩ (fun b u q => ?_) I.bare fun b z => by simp at z
  · obtain ⟨z1, z2⟩ := low b o q
    rw [off b z1 z2]
    exact n
  by_cases hb : b ∈ as
  · obtain ⟨j, hj⟩ := List.mem_iff_getElem?.mp hb
    obtain ⟨l, e2, e3⟩ := Paired.get hat hj
    rw [e3] at q
    cases q
    obtain ⟨en, f1, f2⟩ := g.pr j b hj
    obtain ⟨en', g1, g2, g3⟩ := r.ent j l e2
    rw [f1] at g1
    cases g1
    rw [g2] at f2
    exact ⟨by show 2 ≤ sizeLine; decide, [.ref l.1, en.val], .cons rfl (.cons g3 .nil), ⟨_, f2, rfl, _, rfl⟩⟩
  by_cases hb2 : b = s.heap.objs.size
  · rw [hb2] at q ⊢
    rw [eU] at q
    cases q
    refine ⟨by rw [List.length_map]; omega, acc.toList, c, by rw [ea]; exact LiI.vals_refs as, ?_⟩
    rw [Array.toArray_toList]
    exact hU
  rw [off b hb hb2] at q
  exact (I.hok b u q).stay (fun d v _ y => hk d v y) (fun d y => kp d _ y) fun d xs y => kp d _ y
end
section
variable {X : Cx} {e : Expr} {te : TE} {p apos cpos pos : Pos} {α : Type} [DecidableEq α] (κ : KK α)
theorem pair_up {H H' : Hp} {as : List Addr} {L : List (Addr × V)} {kvs : List (α × V)} (k : L2.Same H H') (h : Paired (fun (t : Addr) (l : Addr × V) => H' t = some (.tup [.ref l.1, l.2])) as L) :
    Paired (fun l (e : α × V) => κ.rl H (.ref l.1) e.1 ∧ l.2 = e.2) L kvs → Paired (fun v (e : α × V) => ∃ t k, v = .ref t ∧ H' t = some (.tup [k, e.2]) ∧ κ.rl H' k e.1) (as.map V.ref) kvs := by
  intro h2
  induction h generalizing kvs with
  | nil => cases h2; exact .nil
  | cons a _ ih =>
    cases h2 with
    | cons b t => exact .cons ⟨_, _, rfl, b.2 ▸ a, κ.mono.mono _ _ _ _ k b.1⟩ (ih t)
/-- list(x.items()): a new list of new pairs -/
def rItL (P : Program) (w : World) : V → Hp → VK → Prop := fun x H Q => ∃ d kvs, x = .ref d ∧ ND κ P w H d kvs ∧
  ∀ (q : Addr) (ws : List V) (H' : Hp), H q = none → L2.Same H H' → H' q = some (.lst ws) → Paired (fun v (e : α × V) => ∃ t k, v = .ref t ∧ H' t = some (.tup [k, e.2]) ∧ κ.rl H' k e.1) ws kvs → Q (.ref q) H'
theorem pe_itemsL (hc : X.calm = true) (he : PE X e te) (hg : Gl X "list") (hm : X.mg "list" = none) (hv : bootBuiltins "list" = some (.type "list")) (hbase : attributeBase e "items" X.env (eval e X.env) = eval e X.env := by rfl) (hline : (apos.endLine == cpos.line) = true := by rfl)
    (hs : starEach [.Call (.Attribute e "items" apos) [] [] cpos] X.env = (false, eval (.Call (.Attribute e "items" apos) [] [] cpos) X.env) :: starEach [] X.env := by rfl) :
    PE X (.Call (.Name "list" p) [.Call (.Attribute e "items" apos) [] [] cpos] [] pos) (fun σ H Q => te σ H fun x H1 => rItL κ X.prog X.w x H1 Q) := by
  refine ⟨fun pins s σ H Q I hq => ?_⟩
  refine wpAny_Call_Name_kw (ld_blt I hg hm hv ?_)
  refine PyProof.Rows.callWith_type1 ?_ hs rfl
  rw [hs]
  show wpAny _ _ (spliced ((false, eval (.Call (.Attribute e "items" apos) [] [] cpos) X.env) :: backTo pos (starEach [] X.env))) _ _ s
  refine Calls.spliced_cons ?_
  refine wpAny_Call_method (T := "dict") (id := "dict.items") hbase rfl hline PySem.F.plainAttrs_dict PySem.F.slot_dict_items PySem.F.type_dict_items (thn (he.run pins s σ H _ I hq) fun u s1 ⟨x, H1, I1, rx, d, kvs, ex, n, q⟩ => ?_)
  subst ex
  obtain rfl : u = Value.ref d := rx
  obtain ⟨o, L, es, ep, ed, r, pl, sys, ln, _⟩ := n.raw
  have dr := rw_raw r I1.hok ed
  obtain ⟨t1, ob, t2, t3⟩ := nd_typeIs κ n I1.hok
  refine ⟨t1, fun a ea => by cases ea; exact ⟨ob, t2, t3⟩, ?_⟩
  have I2 : Inv X pins σ H1 { s1 with heap := s1.heap.push { cls := .type "dict_items", data := .fields #[.ref d] } } := I1.kept (t' := s1.toks) fun b ob q => Heap.get?_push_of_some _ q
  show wpAny _ _ (callWith cpos (.builtin "dict.items") [.ref d] [] []) _ X.xe s1
  refine method_meetsIn PySem.F.slot_dict_items PySem.F.entry_dict_items rfl (PySem.evalArgs_none ⟨rfl, t1, PySem.F.args_dict_items_1 _, _, meets_dict_items_raw d sys, ⟨es, ep, dr⟩, ?_⟩)
  refine Calls.spliced_nil ?_
  have lL : L.length = kvs.length := Paired.len pl
  refine it_list (I1.ok.hd hc) ⟨_, Heap.get?_push_size _ rfl, rfl, rfl⟩ (rw_raw r I2.hok ed) (by rw [r.len]; omega) fun h' tk acc c as hk hU hl g ea => ?_
  obtain ⟨H', k1, k2, k3, k4, J⟩ := laid (tk := tk) I2 (by omega) r hk hU hl g ea
  refine ⟨.ref _, H', J, rfl, q _ _ H' k2 k1 k3 ?_⟩
  exact pair_up κ k1 k4 pl
end
end Wk

set_option Elab.async false
set_option linter.all false
set_option maxRecDepth 100000
/-! W31: heaps: what one is; how it is made. -/
namespace Wk
open PySem L2 PySem.Spec PyProof.Rows
open Pz (Pt Ln)
/-! ### plain: rows and their sums -/
theorem wt_snoc (h : List Pz.Row) (r : Pz.Row) (V : List Pt) : Pz.wt (h ++ [r]) V = Pz.wt h V + if r.1 = V then r.2 else 0 := by
  unfold Pz.wt
  rw [Pz.pr_app, Pz.pr_cons, Pz.pr_nil]
  split <;> simp
theorem wt_none {h : List Pz.Row} {V : List Pt} (n : V ∉ h.map (·.1)) : Pz.wt h V = 0 := by
  unfold Pz.wt
  rw [Pz.pr_congr (ψ := fun _ => 0) fun r m => if_neg fun e => n (List.mem_map.mpr ⟨r, m, e⟩), Pz.pr_zero]
theorem wt_nodup : ∀ {h : List Pz.Row}, (h.map (·.1)).Nodup → ∀ r ∈ h, Pz.wt h r.1 = r.2
  | [], _, _, m => nomatch m
  | q :: h, nd, r, m => by
    obtain ⟨n1, n2⟩ := List.nodup_cons.mp nd
    have e : Pz.wt (q :: h) r.1 = (if q.1 = r.1 then q.2 else 0) + Pz.wt h r.1 := by
      unfold Pz.wt
      rw [Pz.pr_cons]
      split <;> simp
    rw [e]
    rcases List.mem_cons.mp m with rfl | m
    · rw [if_pos rfl, wt_none n1, Int.add_zero]
    · rw [if_neg fun z => n1 (List.mem_map.mpr ⟨r, m, z.symm⟩), wt_nodup n2 r m, Int.zero_add]
/-- rows in the form of a heap, alike to others -/
structure Norm (R rows : List Pz.Row) : Prop where
  nd : (R.map (·.1)).Nodup
  w : ∀ r ∈ R, r.2 = Pz.wt rows r.1 ∧ r.2 ≠ 0 ∧ r.1 ∈ rows.map (·.1)
  all : ∀ V, Pz.wt rows V ≠ 0 → V ∈ R.map (·.1)
theorem Norm.same {R rows : List Pz.Row} (h : Norm R rows) : Pz.Same R rows := fun V => by
  by_cases m : V ∈ R.map (·.1)
  · obtain ⟨r, mr, rfl⟩ := List.mem_map.mp m
    rw [wt_nodup h.nd r mr, (h.w r mr).1]
  · rw [wt_none m]
    by_cases z : Pz.wt rows V = 0
    · exact z.symm
    · exact absurd (h.all V z) m
/-- a heap's own rows: each plate once, no weight 0 -/
def Own (R : List Pz.Row) : Prop := (R.map (·.1)).Nodup ∧ ∀ r ∈ R, r.2 ≠ 0
theorem Norm.own {R rows : List Pz.Row} (h : Norm R rows) : Own R := ⟨h.nd, fun r m => (h.w r m).2.1⟩
theorem own_sub {R S : List Pz.Row} (hR : Own R) (hS : Own S) (e : Pz.Same R S) : ∀ r ∈ R, r ∈ S := fun r m => by
  have h1 : Pz.wt S r.1 = r.2 := by rw [← e r.1, wt_nodup hR.1 r m]
  have h2 : r.1 ∈ S.map (·.1) := by
    by_cases q : r.1 ∈ S.map (·.1)
    · exact q
    · rw [wt_none q] at h1
      exact absurd h1.symm (hR.2 r m)
  obtain ⟨s, ms, es⟩ := List.mem_map.mp h2
  have h3 := wt_nodup hS.1 s ms
  rw [es, h1] at h3
  rw [show r = s from Prod.ext es.symm h3]
  exact ms
theorem nodup_of_map {α β : Type} {f : α → β} : ∀ {l : List α}, (l.map f).Nodup → l.Nodup
  | [], _ => List.nodup_nil
  | a :: l, h => by
    obtain ⟨h1, h2⟩ := List.nodup_cons.mp h
    exact List.nodup_cons.mpr ⟨fun m => h1 (List.mem_map.mpr ⟨a, m, rfl⟩), nodup_of_map h2⟩
theorem own_len {R S : List Pz.Row} (hR : Own R) (hS : Own S) (e : Pz.Same R S) : R.length = S.length :=
  Nat.le_antisymm (Pz.len_sub (nodup_of_map hR.1) (own_sub hR hS e)) (Pz.len_sub (nodup_of_map hS.1) (own_sub hS hR e.symm))
/-! ### in the heap -/
/-- the pairs of a heap's dict -/
def kvR (R : List Pz.Row) : List (List Pt × V) := R.map fun r => (r.1, V.int r.2)
theorem kvR_keys (R : List Pz.Row) : (kvR R).map (·.1) = R.map (·.1) := by unfold kvR; rw [List.map_map]; rfl
/-- a heap stands at v -/
def HpAt (P : Program) (w : World) (C : Addr) : Rl (List Pz.Row) := fun H v R => ∃ a dx d, v = .ref a ∧ H a = some (.ins C dx [("weights", .ref d)]) ∧ ND kkV P w H d (kvR R) ∧ Own R
theorem mHp {P : Program} {w : World} {C : Addr} : Mono (HpAt P w C) := fun _ _ _ _ s ⟨a, dx, d, e, h, n, o⟩ => ⟨a, dx, d, e, s _ _ h, n.same s, o⟩
theorem SameX.tups {D : Addr} {H H' : Hp} (h : SameX D H H') (d : ∀ xs, H D ≠ some (.tup xs)) : TupSame H H' := fun b xs e => h _ _ (fun q => d xs (q ▸ e)) e
theorem ND.sameX {P : Program} {w : World} {H H' : Hp} {D d : Addr} {kvs : List (List Pt × V)} (n : ND kkV P w H d kvs) (s : SameX D H H') (ne : d ≠ D) (t : ∀ xs, H D ≠ some (.tup xs)) : ND kkV P w H' d kvs := by
  obtain ⟨o, xs, h⟩ := n
  exact ⟨o, xs, s _ _ ne h.at_, h.ex, h.dat, h.ents.mono (s.tups t), h.nd, h.sys, h.len⟩
/-- a loop over enumerate of a list -/
theorem for_en {K : PySem.W.Frag} {a : Addr} {xs : List V} {g : TG} {tb : TS} {D : Ends} {σ : L2.St} {H : Hp} (Pv : Nat → L2.St → Hp → Prop) (h0 : Pv 0 σ H) (hl : ∀ i σ H, i ≤ xs.length → Pv i σ H → SqL K H a xs)
    (hs : ∀ (i : Nat) (x : V) (T : Addr) (σ : L2.St) (H : Hp), xs[i]? = some x → Pv i σ H → H T = none → g (.ref T) σ (upd H T (.tup [.int (i : Nat), x])) fun σ2 H2 => tb { D with nx := Pv (i + 1), ct := Pv (i + 1), bk := D.nx } σ2 H2) (hd : ∀ σ H, Pv xs.length σ H → D.nx σ H) :
    ∃ W : Nat → Nat → L2.St → Hp → Prop, (∃ m, W 0 m σ H) ∧ ∀ i m σ H, W i m σ H →
      ((Ite K a).stop i H ∧ D.nx σ H) ∨ ((Ite K a).go i H ∧ ∃ N : L2.St → Hp → Prop, (∀ σ' H', N σ' H' → ∃ m', m' < m ∧ W (i + 1) m' σ' H') ∧ ∀ v H', (Ite K a).yld i H v H' → g v σ H' fun σ2 H2 => tb { D with nx := N, ct := N, bk := D.nx } σ2 H2) := by
  refine ⟨fun i m σ H => m = xs.length - i ∧ i ≤ xs.length ∧ Pv i σ H, ⟨_, rfl, Nat.zero_le _, h0⟩, ?_⟩
  rintro i m σ H ⟨rfl, hi, p⟩
  have q := hl i σ H hi p
  by_cases lt : i < xs.length
  · refine .inr ⟨⟨xs, xs[i], q, List.getElem?_eq_getElem lt⟩, Pv (i + 1), fun σ' H' p' => ⟨_, by omega, rfl, lt, p'⟩, fun v H' y => ?_⟩
    obtain ⟨T, x, rfl, hT, rfl, f⟩ := y
    exact hs i x T σ H (f xs q) p hT
  · have e : i = xs.length := by omega
    subst e
    exact .inl ⟨⟨xs, q, Nat.le_refl _⟩, hd σ H p⟩
/-- what the walk asks of the class -/
structure Tc (K : PySem.W.Frag) (mg : Str → Option Value) (C : Addr) : Prop where
  cl : Cls K C
  nW : NoAttr K C "weights"
  mgC : mg "Heap" = some (.ref C)
  most : ∃ t, mg "MOST_ROWS" = some (.int 400 t)
  sf : PySem.W.selfFirst K C = true
  ne : PySem.W.findIn K (.ref C) "__ne__" = some (some (.builtin "object.__ne__"))
  so : PySem.W.subIn K (.ref C) (.type "object") = some true
  si : PySem.W.subIn K (.ref C) (.type "int") = some false
  is_ : PySem.W.subIn K (.type "int") (.ref C) = some false
  i1 : ∃ fo, PySem.W.findIn K (.type "int") (PySem.dunder "mul") = some fo
  i2 : ∃ fo, PySem.W.findIn K (.type "int") (dunderR "mul") = some fo
  ck : PySem.W.findIn K (.ref C) "__class__" = some (some (.builtin "object.__class__"))
  cg : PySem.W.specialIn K (.builtin "object.__class__") "__get__" = some (some (.builtin "getset_descriptor.__get__"))
  ct : PySem.W.takesIn K (.builtin "object.__class__") = some true
  init : ∃ f fd, Fun K "__init__" "Heap.__init__" (inClass (topS 56) 0) f fd ∧ Mk K C f
  rows : ∃ f fd, Fun K "rows" "Heap.rows" (inClass (topS 56) 1) f fd ∧ Meth K C "rows" f
  eq : ∃ f fd, Fun K "__eq__" "Heap.__eq__" (inClass (topS 56) 5) f fd ∧ Meth K C "__eq__" f
  add : ∃ f fd, Fun K "__add__" "Heap.__add__" (inClass (topS 56) 6) f fd ∧ Meth K C "__add__" f
  sub : ∃ f fd, Fun K "__sub__" "Heap.__sub__" (inClass (topS 56) 7) f fd ∧ Meth K C "__sub__" f
  mul : ∃ f fd, Fun K "__mul__" "Heap.__mul__" (inClass (topS 56) 8) f fd ∧ Meth K C "__mul__" f
  rmul : ∃ f fd, Fun K "__rmul__" "Heap.__rmul__" (inClass (topS 56) 9) f fd ∧ Meth K C "__rmul__" f
end Wk

set_option Elab.async false
set_option linter.all false
set_option maxRecDepth 100000
/-! W32: Heap.__init__. -/
namespace Wk
open PySem L2 PySem.Spec PyProof.Rows
open Pz (Pt Ln)
section
variable {P : Program} {w : World} {K : PySem.W.Frag} {mg : Str → Option Value} {base : Heap} {C : Addr}
theorem pe_nsubP {X : Cx} {α : Type} [DecidableEq α] (κ : KK α) {o i : Expr} {td ty : TE} {pos : Pos} (hP : X.prog = P) (hw : X.w = w) (hu : X.A.units + 9 < cLine) (ho : PE X o td) (hi : PE X i ty) (hs : NoSl i) : PE X (.Subscript o i pos) (tSubN κ P w td ty) := by
  subst hP hw
  exact pe_nsub κ hu ho hi hs
theorem sc_init : FnScope ["self", "rows", "found", "number", "row", "plates", "plate"] ["self", "rows"] (defScope (inClass (topS 56) 0)) := ⟨rfl, rfl, rfl, by decide +kernel, rfl, by decide +kernel, by decide +kernel⟩
/-- rows that are let -/
def LetR (rows : List Pz.Row) : Prop := (∀ r ∈ rows, LetP r.1) ∧ rows.length ≤ ROWS
def sp_init (P : Program) (w : World) (C : Addr) : Sp := fun vs H Q _ => ∃ p dx v rows, vs = [.ref p, v] ∧ H p = some (.ins C dx []) ∧ rL (rPr (rT rP) rI) H v rows ∧ LetR rows ∧
  ∀ d R H', (∀ b o, b ≠ p → H b = some o → H' b = some o) → H' p = some (.ins C dx [("weights", .ref d)]) → ND kkV P w H' d (kvR R) → Norm R rows → Q .non H'
theorem keys_of {rows : List Pz.Row} {kvs : List (List Pt × L2.V)} (h : ∀ e ∈ kvs, e.2 = .int (Pz.wt rows e.1)) : kvs = kvR (kvs.map fun e => (e.1, Pz.wt rows e.1)) := by
  unfold kvR
  rw [List.map_map]
  conv => lhs; rw [← List.map_id kvs]
  refine List.map_congr_left fun e m => ?_
  show e = (e.1, V.int (Pz.wt rows e.1))
  rw [← h e m]
theorem valV_mem {α : Type} [DecidableEq α] {k : α} {z : L2.V} : ∀ {kvs : List (α × L2.V)}, valV kvs k = some z → (k, z) ∈ kvs
  | [], h => nomatch h
  | e :: kvs, h => by
    by_cases q : e.1 = k
    · rw [valV_pos q] at h
      have : e = (k, z) := Prod.ext q (Option.some.inj h)
      rw [this]; exact List.mem_cons_self
    · rw [valV_neg q] at h
      exact List.mem_cons_of_mem _ (valV_mem h)
theorem mem_put {α : Type} [DecidableEq α] {k : α} {y : L2.V} {kvs : List (α × L2.V)} {e : α × L2.V} (m : e ∈ putK kvs k y) : (e.1 = k ∧ e.2 = y) ∨ (e ∈ kvs ∧ e.1 ≠ k) := by
  unfold putK at m
  split at m
  · obtain ⟨q, mq, eq⟩ := List.mem_map.mp m
    split at eq
    · rename_i h
      rw [← eq]; exact .inl ⟨h, rfl⟩
    · rename_i h
      rw [← eq]; exact .inr ⟨mq, h⟩
  · rename_i h
    rcases List.mem_append.mp m with m' | m'
    · by_cases q : e.1 = k
      · exact absurd (List.any_eq_true.mpr ⟨e, m', decide_eq_true q⟩) h
      · exact .inr ⟨m', q⟩
    · rw [List.mem_singleton.mp m']; exact .inl ⟨rfl, rfl⟩
theorem key_put {α : Type} [DecidableEq α] {k j : α} {y : L2.V} {kvs : List (α × L2.V)} (h : j = k ∨ j ∈ kvs.map (·.1)) : j ∈ (putK kvs k y).map (·.1) := by
  have e : (valV (putK kvs k y) j).isSome = true := by
    rw [valV_put]
    split
    · rfl
    · rename_i n
      obtain ⟨q, mq, eq⟩ := List.mem_map.mp (h.resolve_left n)
      rw [← valV_any]
      exact List.any_eq_true.mpr ⟨q, mq, decide_eq_true eq⟩
  obtain ⟨u, hu⟩ := Option.isSome_iff_exists.mp e
  exact valV_in hu
theorem ok_init (T : Tx K mg) (c : Tc K mg C) : ∃ f fd, FnOk P w K mg base CX0 9 f fd ["self", "rows"] (sp_init P w C) ∧ Mk K C f ∧ Binds K fd ["self", "rows"] [] := by
  have G1 : Has P w K mg base "is_heap_row" 8 sp_row := ok_row T
  have G2 : Has P w K mg base "ascending" 3 sp_asc := ok_asc T
  obtain ⟨f, fd, F, M⟩ := c.init
  refine ⟨f, fd, F.ok sc_init (fun vs H Q E ⟨_, _, _, _, e, _⟩ => by rw [e]; rfl) fun cdv A outer s H vs Q E hr h => ?_, M, F.binds fun _ _ _ _ _ _ us hl => match us, hl with | [_, _], _ => rfl⟩
  obtain ⟨p, dx, v, rows, rfl, hp, ⟨a, vs, rfl, ha, pa⟩, ⟨lR, nR⟩, k⟩ := h
  have hu9 : (A.deeper (envOfC "Heap.__init__" (defScope (inClass (topS 56) 0)) s.heap.objs.size f cdv)).units + 9 < cLine := by have := hr.units; omega
  have hu8 : (A.deeper (envOfC "Heap.__init__" (defScope (inClass (topS 56) 0)) s.heap.objs.size f cdv)).units + 8 < cLine := by omega
  have m3 := hr.mono (show 3 ≤ 8 by decide)
  refine ⟨_, pss_cons (ps_set (i := 2) sc_init.nd rfl (Or.inr rfl) pe_dnewN)
    (pss_cons (ps_for PassesOwn.never rfl (pi_enum (by rfl) T.n_enumerate (pa_cons (pv 1) pa_nil))
        (pg_tup (by rfl) (pgs_cons (pg_name (i := 3) sc_init.nd rfl (Or.inl rfl)) (pgs_cons (pg_name (i := 4) sc_init.nd rfl (Or.inl rfl)) pgs_nil)))
      (pss_cons (ps_if (pt_not (pt_val (pe_has G1 hr (by rfl) (pa_cons (pv 4) pa_nil)))) pss_never pss_nil)
      (pss_one (ps_nput kkV hu9 (pv 2) (pIx 4) (pe_op op_add (pe_nget kkV hu9 (pv 2) (pa_cons (pIx 4) (pa_cons pe_int pa_nil))) (pIx 4)) rfl))))
    (pss_cons (ps_set (i := 5) sc_init.nd rfl (Or.inl rfl) (pe_has G2 m3 (by rfl) (pa_cons
        (pe_lc (own := [("plate", 6)]) (g := gName 6) (by rfl) sc_init.nd (pi_nkeys kkV (pv 2))
          (blkOk_by (own := [("plate", 6)]) (N := ["self", "rows", "found", "number", "row", "plates", "plate"]) (sc := defScope (inClass (topS 56) 0)) (by decide +kernel))
          (fun _ _ _ _ _ => pg_name (i := 6) sc_init.nd rfl (Or.inl rfl)) (fun _ _ _ _ _ => pts_one (pt_cmpR op_ne (pe_nsubP kkV rfl rfl hu9 (pv 2) (pv 6) (fun _ _ => rfl)) pe_int (nomark _)))
          (fun _ _ _ _ _ => pv 6)) pa_nil)))
    (pss_one (ps_fld (pv 0) (pe_dcN kkV (own := [("plate", 6)]) (g := gName 6) (tt := tYes) hu8 (by rfl) sc_init.nd (pi_list (pv 5))
        (blkOk_by (own := [("plate", 6)]) (N := ["self", "rows", "found", "number", "row", "plates", "plate"]) (sc := defScope (inClass (topS 56) 0)) (by decide +kernel))
        (fun _ _ _ _ _ => pg_name (i := 6) sc_init.nd rfl (Or.inl rfl)) (fun _ _ _ _ _ => pts_nil) (fun _ _ _ _ _ => pv 6)
        (fun _ _ _ _ _ => pe_nsubP kkV rfl rfl hu9 (pv 2) (pv 6) (fun _ _ => rfl))) rfl)))), ?_⟩
  have sz : sizeLine = 16777216 := rfl
  have rowsE : ROWS = 100000 := rfl
  have la := Paired.len pa
  intro D hD sysD
  have s0 : L2.Same H (upd H D (exO D dict0)) := same_new hD
  have n0 : ND kkV P w (upd H D (exO D dict0)) D [] := ⟨_, _, nd_new kkV sysD⟩
  have d0 : ∀ xs, (upd H D (exO D dict0)) D ≠ some (.tup xs) := fun xs => by rw [upd_same]; intro z; cases z
  generalize upd H D (exO D dict0) = H0 at *
  refine ⟨_, rfl, a, vs, rfl, SqL.of (s0 _ _ ha), ?_⟩
  have aD : a ≠ D := fun e => by rw [e, hD] at ha; exact nomatch ha
  refine for_en (K := K) (a := a) (xs := vs) (fun i σ H2 => ∃ (xn xr : Option L2.V) (kvs : List (List Pt × L2.V)), σ = [some (.ref p), some (.ref a), some (.ref D), xn, xr, none, none] ∧ SameX D H0 H2 ∧ ND kkV P w H2 D kvs ∧
      (∀ e ∈ kvs, e.2 = .int (Pz.wt (rows.take i) e.1) ∧ e.1 ∈ (rows.take i).map (·.1)) ∧ (∀ r ∈ rows.take i, r.1 ∈ kvs.map (·.1)) ∧ kvs.length ≤ i)
    ⟨none, none, [], rfl, fun _ _ _ e => e, n0, fun _ m => (nomatch m), fun _ m => by simp at m, Nat.zero_le _⟩ (fun i σ H2 _ ⟨_, _, _, _, x2, _⟩ => SqL.of (x2 _ _ aD (s0 _ _ ha))) ?_ ?_
  · rintro i y t σ H2 hi ⟨xn, xr, kvs, rfl, x2, nd, kv, ka, kl⟩ ht
    obtain ⟨r, hrr, ry⟩ := Paired.get pa hi
    have iR : i < rows.length := (List.getElem?_eq_some_iff.mp hrr).1
    have mr : r ∈ rows := List.mem_of_getElem? hrr
    have sn := same_new (o := .tup [.int (i : Nat), y]) ht
    have tu : TupSame H0 (upd H2 t (.tup [.int (i : Nat), y])) := fun b xs e => sn _ _ (x2.tups d0 b xs e)
    have ht2 : (upd H2 t (.tup [.int (i : Nat), y])) t = some (.tup [.int (i : Nat), y]) := upd_same
    have nd2 := nd.same sn
    have x3 := x2.trans sn
    generalize upd H2 t (.tup [.int (i : Nat), y]) = H3 at *
    have ry3 : rPr (rT rP) rI H3 y r := tPr (tT tP) tI _ _ _ _ tu (mPr (mT mP) mI _ _ _ _ s0 ry)
    refine ⟨t, _, rfl, SqT.of ht2, rfl, _, _, rfl, _, _, rfl, rfl, ?_⟩
    refine ⟨_, rfl, y, r, rfl, ry3, lR r mr, fun u H4 s4 r4 => ⟨true, r4, ?_⟩⟩
    obtain ⟨t', u1, u2, rfl, ht', rx, rw'⟩ := mPr (mT mP) mI _ _ _ _ s4 ry3
    have nd4 := nd2.same s4
    have x4 := x3.trans s4
    have hv0 : ((valV kvs r.1).getD (.int 0)) = .int (Pz.wt (rows.take i) r.1) := by
      cases e : valV kvs r.1 with
      | some z =>
        have m := valV_mem e
        exact (kv _ m).1
      | none =>
        have : r.1 ∉ (rows.take i).map (·.1) := fun m => by
          obtain ⟨q, mq, eq⟩ := List.mem_map.mp m
          have m2 := ka q mq
          rw [eq] at m2
          have : (kvs.any fun kv => decide (kv.1 = r.1)) = true := by
            obtain ⟨z, mz, ez⟩ := List.mem_map.mp m2
            exact List.any_eq_true.mpr ⟨z, mz, decide_eq_true ez⟩
          rw [valV_any, e] at this
          exact nomatch this
        rw [wt_none this]; rfl
    refine ⟨_, rfl, D, kvs, rfl, nd4, ?_⟩
    refine ⟨_, rfl, ⟨t', _, 0, u1, rfl, rfl, SqT.of ht', at2_0, ?_⟩⟩
    refine ⟨_, _, r.1, rfl, nd4, rx, ?_⟩
    refine ⟨_, rfl, ⟨t', _, 1, u2, rfl, rfl, SqT.of ht', at2_1, ?_⟩⟩
    refine ⟨_, r.2, hv0, rw', ?_⟩
    refine ⟨_, rfl, _, rfl, ⟨t', _, 0, u1, rfl, rfl, SqT.of ht', at2_0, ?_⟩⟩
    refine ⟨D, kvs, r.1, rfl, nd4, rx, by omega, fun o' n' => ?_⟩
    have tk : rows.take (i + 1) = rows.take i ++ [r] := by rw [List.take_add_one, hrr]; rfl
    refine ⟨_, _, putK kvs r.1 (.int (Pz.wt (rows.take i) r.1 + r.2)), rfl, x4.upd, n', fun e m => ?_, fun q m => ?_, ?_⟩
    · rw [tk, wt_snoc]
      rcases mem_put m with ⟨e1, e2⟩ | ⟨m', ne⟩
      · rw [e1, if_pos rfl]
        exact ⟨e2, by rw [List.map_append]; simp⟩
      · rw [if_neg (Ne.symm ne), Int.add_zero]
        exact ⟨(kv e m').1, by rw [List.map_append]; exact List.mem_append_left _ (kv e m').2⟩
    · rw [tk] at m
      rcases List.mem_append.mp m with m' | m'
      · exact key_put (.inr (ka q m'))
      · rw [List.mem_singleton.mp m']; exact key_put (.inl rfl)
    · have := length_putK kvs r.1 (L2.V.int (Pz.wt (rows.take i) r.1 + r.2))
      omega
  · rintro σ H2 ⟨xn, xr, kvs, rfl, x2, nd, kv, ka, kl⟩
    rw [la, List.take_length] at kv ka
    have sH2 : L2.Same H H2 := SameX.same s0 x2 hD
    have ndk : (kvs.map (·.1)).Nodup := by obtain ⟨_, _, q⟩ := nd; exact q.nd
    have vals : ∀ V ∈ kvs.map (·.1), valV kvs V = some (.int (Pz.wt rows V)) := fun V m => by
      obtain ⟨e, me, rfl⟩ := List.mem_map.mp m
      have : (kvs.any fun kv => decide (kv.1 = e.1)) = true := List.any_eq_true.mpr ⟨e, me, decide_eq_true rfl⟩
      rw [valV_any] at this
      obtain ⟨z, hz⟩ := Option.isSome_iff_exists.mp this
      rw [hz]
      exact congrArg some (kv _ (valV_mem hz)).1
    have letK : ∀ V ∈ kvs.map (·.1), LetP V ∧ V ∈ rows.map (·.1) := fun V m => by
      obtain ⟨e, me, rfl⟩ := List.mem_map.mp m
      obtain ⟨r, mr, er⟩ := List.mem_map.mp (kv e me).2
      exact ⟨er ▸ lR r mr, (kv e me).2⟩
    -- the plates that stay
    refine ⟨_, rfl, D, kvs, rfl, nd, fun o L ho pr => fun D2 hD2 => ?_⟩
    have pr1 := nd_refs pr
    have lL : L.length = kvs.length := Paired.len pr
    refine lcK (r := rT rP) (q := rT rP) (xs := kvs.map fun e : List Pt × L2.V => e.1) (f := fun V => if Pz.wt rows V ≠ 0 then some V else none) (mT mP) (tT tP) ho pr1 hD2 (by omega) ?_ ?_
    · intro y V H4 C' C0 m s4 rv c1 c0
      refine ⟨rfl, ?_⟩
      refine ⟨_, rfl, _, rfl, D, kvs, V, _, rfl, nd.same s4, rv, vals V m, ?_⟩
      refine ⟨rfl, _, rfl, ?_⟩
      by_cases q : Pz.wt rows V = 0
      · rw [decide_eq_true (show L2.V.int (Pz.wt rows V) = L2.V.int 0 by rw [q])]
        exact c0 _ (.refl _) (if_neg fun z => z q)
      · rw [decide_eq_false (show ¬ L2.V.int (Pz.wt rows V) = L2.V.int 0 from fun z => q (by injection z))]
        exact ⟨_, rfl, c1 _ _ V (.refl _) (if_pos q) rv⟩
    intro H3 ys s3 hy py
    have eF : (kvs.map fun e : List Pt × L2.V => e.1).filterMap (fun V => if Pz.wt rows V ≠ 0 then some V else none) = (kvs.map (·.1)).filter fun V => decide (Pz.wt rows V ≠ 0) := by
      rw [← List.filterMap_eq_filter]
      congr 1
      funext V
      by_cases q : Pz.wt rows V = 0 <;> simp [q, Option.guard]
    rw [eF] at py
    have memF : ∀ V, V ∈ (kvs.map (·.1)).filter (fun V => decide (Pz.wt rows V ≠ 0)) ↔ V ∈ kvs.map (·.1) ∧ Pz.wt rows V ≠ 0 := fun V => by rw [List.mem_filter]; simp
    have lF := List.length_filter_le (fun V => decide (Pz.wt rows V ≠ 0)) (kvs.map (·.1))
    rw [List.length_map] at lF
    refine ⟨_, _, rfl, ⟨D2, ys, rfl, hy, py⟩, fun V m => ⟨(letK V ((memF V).mp m).1).1.2.1, (letK V ((memF V).mp m).1).1.2.2⟩, by omega, fun u Qs H4 s4 pm rQ => ?_⟩
    obtain ⟨b, qs, rfl, hb, pq⟩ := rQ
    have lq := Paired.len pq
    have lQ := pm.length_eq
    have s34 := s3.trans s4
    have nd4 := nd.same s34
    -- self.weights
    refine ⟨_, rfl, b, rfl, ⟨_, SqL.of hb⟩, fun D3 hD3 sys3 => ?_⟩
    refine dcL (κ := kkV) (q := fun H v V => v = .int (Pz.wt rows V)) (r := rT rP) (f := fun V => V) (xs := Qs) (fun _ _ _ _ _ h => h) (mT mP) (SqL.of hb) pq hD3 sys3 (by omega) ?_ ?_
    · intro y V H5 C' m s5 rv cc
      refine ⟨rfl, _, rfl, _, rfl, _, rfl, D, kvs, V, _, rfl, nd4.same s5, rv, vals V ((memF V).mp (pm.mem_iff.mp m)).1, ?_⟩
      exact cc _ _ _ (.refl _) rv rfl
    intro H5 kw s5 n5 ka5 kb5
    have s25 := s34.trans s5
    have sH5 : L2.Same H H5 := sH2.trans s25
    refine ⟨_, rfl, p, C, dx, [], rfl, sH5 _ _ hp, c.cl, c.nW, by show 0 < 1000; decide, ?_⟩
    have hp5 := sH5 _ _ hp
    have pD : D3 ≠ p := fun e => by
      obtain ⟨o', xs', q⟩ := n5
      have := q.at_
      rw [e, hp5] at this
      exact nomatch this
    have vk : ∀ e ∈ kw, e.2 = .int (Pz.wt rows e.1) := fun e m => by
      obtain ⟨x, mx, e1, e2⟩ := ka5 e m
      rw [e2, e1]
    have inQ : ∀ e ∈ kw, e.1 ∈ Qs := fun e m => by
      obtain ⟨x, mx, e1, _⟩ := ka5 e m
      rw [e1]; exact mx
    have nd5 : (kw.map (·.1)).Nodup := by obtain ⟨_, _, q⟩ := n5; exact q.nd
    refine k D3 (kw.map fun e => (e.1, Pz.wt rows e.1)) _ (fun b o hb he => by rw [upd_ne hb]; exact sH5 _ _ he) upd_same ?_ ⟨?_, fun r m => ?_, fun V nz => ?_⟩
    · rw [← keys_of vk]
      exact n5.sameX (SameX.upd fun _ _ _ e => e) pD fun xs q => by rw [hp5] at q; exact nomatch q
    · rw [List.map_map]; exact nd5
    · obtain ⟨e, me, rfl⟩ := List.mem_map.mp m
      have m2 := (memF e.1).mp (pm.mem_iff.mp (inQ e me))
      exact ⟨rfl, m2.2, (letK e.1 m2.1).2⟩
    · have m1 : V ∈ rows.map (·.1) := by
        by_cases q : V ∈ rows.map (·.1)
        · exact q
        · exact absurd (wt_none q) nz
      obtain ⟨r, mr, rfl⟩ := List.mem_map.mp m1
      have m2 := kb5 r.1 (pm.mem_iff.mpr ((memF r.1).mpr ⟨ka r mr, nz⟩))
      rw [List.map_map]
      exact m2
end
end Wk

set_option Elab.async false
set_option linter.all false
set_option maxRecDepth 100000
/-! W33: Heap(..) as an expression; rows, ==, +, -, *. -/
namespace Wk
open PySem L2 PySem.Spec PyProof.Rows
open Pz (Pt Ln)
/-- a method that is proved -/
structure HasM (P : Program) (w : World) (K : PySem.W.Frag) (mg : Str → Option Value) (base : Heap) (C : Addr) (m : Str) (k : Nat) (ps : List Str) (sp : Sp) : Prop where
  ex : ∃ (f : Addr) (fd : FuncData), FnOk P w K mg base CX0 k f fd ps sp ∧ Meth K C m f ∧ Binds K fd ps []
abbrev rRow : Rl Pz.Row := rPr (rT rP) rI
theorem tRow : MonoT rRow := tPr (tT tP) tI
section
variable {X : Cx} {C : Addr}
/-- what is wanted of a new heap -/
def NewH (P : Program) (w : World) (C : Addr) (rows : List Pz.Row) (H : Hp) (Q : VK) : Prop := ∀ u R H', L2.Same H H' → HpAt P w C H' u R → Norm R rows → Q u H'
def tHeap (P : Program) (w : World) (C : Addr) (te : TE) : TE := fun σ H Q => te σ H fun v H1 => ∃ rows, rL rRow H1 v rows ∧ LetR rows ∧ NewH P w C rows H1 Q
theorem pe_heap {e : Expr} {te : TE} {p pos : Pos} (T : Tx X.K X.mg) (c : Tc X.K X.mg C) (hr : Room 10 X.A) (hg : Gl X "Heap") (ha : PE X e te)
    (he : starEach [e] X.env = (false, eval e X.env) :: starEach [] X.env := by rfl) : PE X (.Call (.Name "Heap" p) [e] [] pos) (tHeap X.prog X.w C te) := by
  obtain ⟨f, fd, F, M, b⟩ := ok_init (P := X.prog) (w := X.w) (base := X.base) T c
  refine ⟨fun pins s σ H Q I h => ?_⟩
  refine wpAny_Call_Name_kw (ld_glob I hg c.mgC ?_ (by decide))
  refine PySem.W.callWith_K (h₀ := X.base) I.ok.mod.kin M.kp (thn ((pa_cons ha pa_nil he).run pos pins s σ H (fun vs H1 => match vs with | [v] => ∃ rows, rL rRow H1 v rows ∧ LetR rows ∧ NewH X.prog X.w C rows H1 Q | _ => False) I h) fun us s1 z => ?_) he rfl
  obtain ⟨vs, H1, I1, r, q⟩ := z
  refine ⟨I1.kIn, ?_⟩
  match vs, r, q with
  | [v], r, ⟨rows, hv, lR, k⟩ =>
    refine run_make M F (show Room (9 + 1) X.A from hr) b .nil pass0 I1 r fun x dx hx hdx ne => ?_
    have s2 : L2.Same H1 (upd (upd H1 dx (.own x)) x (.ins C dx [])) := (same_new hdx).trans (same_new (by rw [upd_ne (Ne.symm ne)]; exact hx))
    refine ⟨x, dx, v, rows, rfl, upd_same, mL (mPr (mT mP) mI) _ _ _ _ s2 hv, lR, fun d R H' keep at' nd nm => ⟨rfl, ?_⟩⟩
    refine k _ R H' (fun b o hb => keep b o ?_ (s2 _ _ hb)) ⟨x, dx, d, rfl, at', nd, nm.own⟩ nm
    intro e'
    rw [e', hx] at hb
    exact nomatch hb
  | [], _, q => exact q.elim
  | _ :: _ :: _, _, q => exact q.elim
end
section
variable {P : Program} {w : World} {K : PySem.W.Frag} {mg : Str → Option Value} {base : Heap} {C : Addr}
theorem kv_rows {H : Hp} {ws : List V} : ∀ {R : List Pz.Row}, Paired (fun v (e : List Pt × V) => ∃ t k, v = .ref t ∧ H t = some (.tup [k, e.2]) ∧ kkV.rl H k e.1) ws (kvR R) → Paired (rRow H) ws R := by
  induction ws with
  | nil =>
    intro R h
    cases R with
    | nil => exact .nil
    | cons r R => exact nomatch h
  | cons v ws ih =>
    intro R h
    cases R with
    | nil => exact nomatch h
    | cons r R =>
      cases h with
      | cons a t =>
        obtain ⟨q, k, e, h1, h2⟩ := a
        exact .cons ⟨q, k, _, e, h1, h2, rfl⟩ (ih t)
theorem sc_mrows : FnScope ["self"] ["self"] (defScope (inClass (topS 56) 1)) := ⟨rfl, rfl, rfl, by decide +kernel, rfl, by decide +kernel, by decide +kernel⟩
def sp_mrows (P : Program) (w : World) (C : Addr) : Sp := fun vs H Q _ => ∃ v R, vs = [v] ∧ HpAt P w C H v R ∧ ∀ b H', H b = none → L2.Same H H' → rL rRow H' (.ref b) R → Q (.ref b) H'
theorem ok_mrows (T : Tx K mg) (c : Tc K mg C) : HasM P w K mg base C "rows" 1 ["self"] (sp_mrows P w C) := by
  obtain ⟨f, fd, F, M⟩ := c.rows
  refine ⟨f, fd, F.ok sc_mrows (fun vs H Q E ⟨_, _, e, _⟩ => by rw [e]; rfl) fun cdv A outer s H vs Q E hr h => ?_, M, F.binds fun _ _ _ _ _ _ us hl => match us, hl with | [_], _ => rfl⟩
  obtain ⟨v, R, rfl, ⟨a, dx, d, rfl, ha, nd, ow⟩, k⟩ := h
  refine ⟨_, pss_one (ps_ret (pe_itemsL kkV (by rfl) (pe_fld (pv 0) rfl) (by rfl) T.n_list (by decide +kernel))), ?_⟩
  refine ⟨_, rfl, a, C, dx, _, .ref d, rfl, ha, c.cl, c.nW, rfl, ?_⟩
  exact ⟨d, kvR R, rfl, nd, fun q ws H' hq sm at' pr => k q H' hq sm ⟨q, ws, rfl, at', kv_rows pr⟩⟩
theorem sc_meq : FnScope ["self", "other"] ["self", "other"] (defScope (inClass (topS 56) 5)) := ⟨rfl, rfl, rfl, by decide +kernel, rfl, by decide +kernel, by decide +kernel⟩
def sp_meq (P : Program) (w : World) (C : Addr) : Sp := fun vs H Q _ => ∃ v v2 R S, vs = [v, v2] ∧ HpAt P w C H v R ∧ HpAt P w C H v2 S ∧ Pz.Same R S ∧ Q (.bl true) H
theorem ok_meq (T : Tx K mg) (c : Tc K mg C) : HasM P w K mg base C "__eq__" 1 ["self", "other"] (sp_meq P w C) := by
  obtain ⟨f, fd, F, M⟩ := c.eq
  refine ⟨f, fd, F.ok sc_meq (fun vs H Q E ⟨_, _, _, _, e, _⟩ => by rw [e]; rfl) fun cdv A outer s H vs Q E hr h => ?_, M, F.binds fun _ _ _ _ _ _ us hl => match us, hl with | [_, _], _ => rfl⟩
  obtain ⟨v, v2, R, S, rfl, ⟨a, dx, d, rfl, ha, nd, ow⟩, ⟨b, dy, e, rfl, hb, ne, ow'⟩, sm, k⟩ := h
  have hu : (A.deeper (envOfC "Heap.__eq__" (defScope (inClass (topS 56) 5)) s.heap.objs.size f cdv)).units + 10 < cLine := by have := hr.units; omega
  refine ⟨_, pss_one (ps_ret (pe_and (pe_callB call_isi (by rfl) T.n_isinstance (by decide +kernel) (pa_cons (pv 1) (pa_cons (pe_glob (v := .ref C) (by rfl) c.mgC rfl) pa_nil)))
    (pe_one (pe_cmpR (op_eqN (κ := kkV) hu) (pe_fld (pv 0) rfl) (pe_fld (pv 1) rfl) (nomark _))))), ?_⟩
  refine ⟨_, rfl, .ref b, .ref C, .ref C, .ref C, true, rfl, .own C, .base (.ins hb c.cl c.ck c.cg c.ct c.so), if_pos (beq_self_eq_true _), true, rfl, iteT ?_⟩
  refine ⟨_, rfl, a, C, dx, _, .ref d, rfl, ha, c.cl, c.nW, rfl, ?_⟩
  refine ⟨_, rfl, b, C, dy, _, .ref e, rfl, hb, c.cl, c.nW, rfl, ?_⟩
  refine ⟨d, e, kvR R, kvR S, rfl, rfl, nd, ne, ?_, fun p m => ?_, k⟩
  · unfold kvR
    rw [List.length_map, List.length_map, own_len ow ow' sm]
  · obtain ⟨r, mr, rfl⟩ := List.mem_map.mp m
    exact ⟨r.2, rfl, List.mem_map.mpr ⟨r, own_sub ow ow' sm r mr, rfl⟩⟩
end
end Wk

set_option Elab.async false
set_option linter.all false
set_option maxRecDepth 100000
/-! W34: +, -, * of heaps. -/
namespace Wk
open PySem L2 PySem.Spec PyProof.Rows
open Pz (Pt Ln)
section
variable {P : Program} {w : World} {K : PySem.W.Frag} {mg : Str → Option Value} {base : Heap} {C : Addr}
theorem hp_ins {H : Hp} {v : V} {R : List Pz.Row} (h : HpAt P w C H v R) : ∃ a dx fs, v = .ref a ∧ H a = some (.ins C dx fs) ∧ (∀ m : Str, ¬ m = "weights" → fs.lookup m = none) := by
  obtain ⟨a, dx, d, e, h, _⟩ := h
  refine ⟨a, dx, _, e, h, fun m n => ?_⟩
  show (match m == ("weights" : Str) with | true => some (V.ref d) | false => none) = none
  rw [show (m == ("weights" : Str)) = false from beq_eq_false_iff_ne.mpr n]
def sp_madd (P : Program) (w : World) (C : Addr) : Sp := fun vs H Q _ => ∃ v v2 R S, vs = [v, v2] ∧ HpAt P w C H v R ∧ HpAt P w C H v2 S ∧ LetR (R ++ S) ∧ NewH P w C (R ++ S) H Q
theorem sc_madd : FnScope ["self", "other"] ["self", "other"] (defScope (inClass (topS 56) 6)) := ⟨rfl, rfl, rfl, by decide +kernel, rfl, by decide +kernel, by decide +kernel⟩
theorem ok_madd (T : Tx K mg) (c : Tc K mg C) : HasM P w K mg base C "__add__" 11 ["self", "other"] (sp_madd P w C) := by
  obtain ⟨fr, fdr, Fr, Mr, br⟩ := (ok_mrows (P := P) (w := w) (base := base) T c).ex
  obtain ⟨f, fd, F, M⟩ := c.add
  refine ⟨f, fd, F.ok sc_madd (fun vs H Q E ⟨_, _, _, _, e, _⟩ => by rw [e]; rfl) fun cdv A outer s H vs Q E hr h => ?_, M, F.binds fun _ _ _ _ _ _ us hl => match us, hl with | [_, _], _ => rfl⟩
  obtain ⟨v, v2, R, S, rfl, hv, hw, lR, k⟩ := h
  have m1 := hr.mono (show 1 ≤ 10 by decide)
  refine ⟨_, pss_one (ps_ret (pe_heap T c hr (by rfl) (pe_op op_cat (pe_meth0 (pv 0) c.cl Mr Fr m1 br .nil pass0) (pe_meth0 (pv 1) c.cl Mr Fr m1 br .nil pass0)))), ?_⟩
  have sz : sizeLine = 16777216 := rfl
  have rowsE : ROWS = 100000 := rfl
  obtain ⟨a, dx, fs, rfl, ha, na⟩ := hp_ins hv
  refine ⟨_, rfl, a, dx, fs, rfl, ha, na _ (by decide +kernel), ?_⟩
  refine ⟨_, R, rfl, hv, fun b H1 _ s1 r1 => ?_⟩
  have hw1 := mHp _ _ _ _ s1 hw
  obtain ⟨a2, dx2, fs2, rfl, ha2, na2⟩ := hp_ins hw1
  refine ⟨_, rfl, a2, dx2, fs2, rfl, ha2, na2 _ (by decide +kernel), ?_⟩
  refine ⟨_, S, rfl, hw1, fun b2 H2 _ s2 r2 => ?_⟩
  obtain ⟨b', xs, e, hb, pb⟩ := mL tRow.mono _ _ _ _ s2 r1
  cases e
  obtain ⟨b2', ys, e, hb2, pb2⟩ := r2
  cases e
  have l1 := Paired.len pb
  have l2 := Paired.len pb2
  have ll := lR.2
  rw [List.length_append] at ll
  refine ⟨b, b2, xs, ys, rfl, rfl, hb, hb2, by omega, fun q hq => ?_⟩
  have s3 := same_new (o := .lst (xs ++ ys)) hq
  refine ⟨R ++ S, ⟨q, _, rfl, upd_same, Paired.imp (Paired.append pb pb2) fun _ _ z => tRow.mono _ _ _ _ s3 z⟩, lR, fun u U H' s' hu nm => k u U H' (s1.trans (s2.trans (s3.trans s'))) hu nm⟩
/-- rows times a number -/
def mulR (R : List Pz.Row) (n : Int) : List Pz.Row := R.map fun r => (r.1, r.2 * n)
def SmW (R : List Pz.Row) : Prop := ∀ r ∈ R, r.2.natAbs < BIG
theorem let_mul {R : List Pz.Row} {n : Int} (h : LetR R) : LetR (mulR R n) := ⟨fun r m => by
  obtain ⟨q, mq, rfl⟩ := List.mem_map.mp m
  exact h.1 q mq, by unfold mulR; rw [List.length_map]; exact h.2⟩
def sp_mmul (P : Program) (w : World) (C : Addr) : Sp := fun vs H Q _ => ∃ v R n, vs = [v, .int n] ∧ HpAt P w C H v R ∧ LetR R ∧ SmW R ∧ n.natAbs < BIG ∧ NewH P w C (mulR R n) H Q
theorem sc_mmul : FnScope ["self", "n", "plate", "weight"] ["self", "n"] (defScope (inClass (topS 56) 8)) := ⟨rfl, rfl, rfl, by decide +kernel, rfl, by decide +kernel, by decide +kernel⟩
theorem ok_mmul (T : Tx K mg) (c : Tc K mg C) : HasM P w K mg base C "__mul__" 11 ["self", "n"] (sp_mmul P w C) := by
  obtain ⟨fr, fdr, Fr, Mr, br⟩ := (ok_mrows (P := P) (w := w) (base := base) T c).ex
  obtain ⟨f, fd, F, M⟩ := c.mul
  refine ⟨f, fd, F.ok sc_mmul (fun vs H Q E ⟨_, _, _, e, _⟩ => by rw [e]; rfl) fun cdv A outer s H vs Q E hr h => ?_, M, F.binds fun _ _ _ _ _ _ us hl => match us, hl with | [_, _], _ => rfl⟩
  obtain ⟨v, R, n, rfl, hv, lR, sR, sn, k⟩ := h
  have m1 := hr.mono (show 1 ≤ 10 by decide)
  refine ⟨_, pss_one (ps_ret (pe_heap T c hr (by rfl) (pe_lc (own := [("plate", 2), ("weight", 3)]) (g := gTup K 2 (gCons (gName 2) (gCons (gName 3) gNil))) (tt := tYes) (by rfl) sc_mmul.nd
      (pi_list (pe_meth0 (pv 0) c.cl Mr Fr m1 br .nil pass0))
      (blkOk_by (own := [("plate", 2), ("weight", 3)]) (N := ["self", "n", "plate", "weight"]) (sc := defScope (inClass (topS 56) 8)) (by decide +kernel))
      (fun _ _ _ _ _ => pg_tup (by rfl) (pgs_cons (pg_name (i := 2) sc_mmul.nd rfl (Or.inl rfl)) (pgs_cons (pg_name (i := 3) sc_mmul.nd rfl (Or.inl rfl)) pgs_nil)))
      (fun _ _ _ _ _ => pts_nil) (fun _ _ _ _ _ => pe_tup (pa_cons (pv 2) (pa_cons (pe_op op_mulN (pv 3) (pv 1)) pa_nil)))))), ?_⟩
  have sz : sizeLine = 16777216 := rfl
  have rowsE : ROWS = 100000 := rfl
  have ll := lR.2
  obtain ⟨a, dx, fs, rfl, ha, na⟩ := hp_ins hv
  refine ⟨_, rfl, a, dx, fs, rfl, ha, na _ (by decide +kernel), ?_⟩
  refine ⟨_, R, rfl, hv, fun b H1 _ s1 r1 => ?_⟩
  obtain ⟨b', xs, e, hb, pb⟩ := r1
  cases e
  have l1 := Paired.len pb
  refine ⟨b, rfl, ⟨_, SqL.of hb⟩, fun D hD => ?_⟩
  refine lcL (r := rRow) (q := rRow) (xs := R) (f := fun r => some (r.1, r.2 * n)) tRow.mono tRow (SqL.of hb) pb hD (by omega) ?_ ?_
  · intro x r H4 C' C0 m s4 rv c1 c0
    obtain ⟨t, y, z, rfl, ht, ry, rz⟩ := rv
    obtain rfl : z = .int r.2 := rz
    refine ⟨t, _, rfl, SqT.of ht, rfl, _, _, rfl, _, _, rfl, rfl, rfl, ?_⟩
    refine ⟨_, rfl, _, rfl, _, rfl, _, _, rfl, rfl, big_mul (sR r m) sn, by show 2 ≤ sizeLine; decide, fun p hp => ?_⟩
    have sp := same_new (o := .tup [y, .int (r.2 * n)]) hp
    exact c1 _ _ _ sp rfl ⟨p, y, _, rfl, upd_same, mT mP _ _ _ _ sp ry, rfl⟩
  · intro H2 ys s2 hy py
    rw [show (R.filterMap fun r => some (r.1, r.2 * n)) = mulR R n by rw [List.filterMap_eq_map']; rfl] at py
    exact ⟨mulR R n, ⟨D, ys, rfl, hy, py⟩, let_mul lR, fun u U H' s' hu nm => k u U H' (s1.trans (s2.trans s')) hu nm⟩
end
section
variable {X : Cx} {C : Addr} {a b : Expr} {ta tb : TE} {pos : Pos}
theorem new_ref {P : Program} {w : World} {rows : List Pz.Row} {H : Hp} {Q : VK} (h : NewH P w C rows H Q) : NewH P w C rows H (onlyRef Q) := fun u R H' s hu nm => by
  obtain ⟨a, dx, d, e, _⟩ := id hu
  exact ⟨a, e, h u R H' s hu nm⟩
/-- heap + heap -/
def rAddH (P : Program) (w : World) (C : Addr) : R2 := fun x y H Q => ∃ R S, HpAt P w C H x R ∧ HpAt P w C H y S ∧ LetR (R ++ S) ∧ NewH P w C (R ++ S) H Q
theorem op_addH (T : Tx X.K X.mg) (c : Tc X.K X.mg C) (hr : Room 11 X.A) : OpR X (binaryOp .Add) (rAddH X.prog X.w C) := by
  obtain ⟨f, fd, F, M, bd⟩ := (ok_madd (P := X.prog) (w := X.w) (base := X.base) T c).ex
  intro pins s σ H x y v u Q I rx ry h
  obtain ⟨R, S, hx, hy, l, k⟩ := h
  obtain ⟨a, dx, fs, rfl, ha, _⟩ := hp_ins hx
  obtain ⟨b, dy, gs, rfl, hb, _⟩ := hp_ins hy
  exact op_own (op := .Add) F hr c.sf M.at_ M.fn bd pass0 pins s σ H _ _ v u Q I rx ry ⟨a, b, dx, dy, fs, gs, rfl, rfl, ha, hb, _, _, R, S, rfl, hx, hy, l, new_ref k⟩
/-- heap * int -/
def rMulH (P : Program) (w : World) (C : Addr) : R2 := fun x y H Q => ∃ R n, HpAt P w C H x R ∧ y = .int n ∧ LetR R ∧ SmW R ∧ n.natAbs < BIG ∧ NewH P w C (mulR R n) H Q
theorem op_mulH (T : Tx X.K X.mg) (c : Tc X.K X.mg C) (hr : Room 11 X.A) : OpR X (binaryOp .Mult) (rMulH X.prog X.w C) := by
  obtain ⟨f, fd, F, M, bd⟩ := (ok_mmul (P := X.prog) (w := X.w) (base := X.base) T c).ex
  intro pins s σ H x y v u Q I rx ry h
  obtain ⟨R, n, hx, rfl, l, sR, sn, k⟩ := h
  obtain ⟨a, dx, fs, rfl, ha, _⟩ := hp_ins hx
  obtain ⟨fo, i1⟩ := c.i1
  obtain ⟨ro, i2⟩ := c.i2
  obtain ⟨g, _, _, Mg⟩ := c.rmul
  exact op_ownI (op := .Mult) F hr c.sf M.at_ M.fn Mg.at_ (.inr ⟨g, rfl⟩) i1 i2 c.is_ bd pass0 pins s σ H _ _ v u Q I rx ry ⟨a, dx, fs, n, rfl, rfl, ha, _, R, n, rfl, hx, l, sR, sn, new_ref k⟩
end
end Wk

set_option Elab.async false
set_option linter.all false
set_option maxRecDepth 100000
/-! W35: n * heap, heap - heap, heap != heap. -/
namespace Wk
open PySem L2 PySem.Spec PyProof.Rows
open Pz (Pt Ln)
section
variable {P : Program} {w : World} {K : PySem.W.Frag} {mg : Str → Option Value} {base : Heap} {C : Addr}
theorem sc_mrmul : FnScope ["self", "n"] ["self", "n"] (defScope (inClass (topS 56) 9)) := ⟨rfl, rfl, rfl, by decide +kernel, rfl, by decide +kernel, by decide +kernel⟩
theorem ok_mrmul (T : Tx K mg) (c : Tc K mg C) : HasM P w K mg base C "__rmul__" 12 ["self", "n"] (sp_mmul P w C) := by
  obtain ⟨f, fd, F, M⟩ := c.rmul
  refine ⟨f, fd, F.ok sc_mrmul (fun vs H Q E ⟨_, _, _, e, _⟩ => by rw [e]; rfl) fun cdv A outer s H vs Q E hr h => ?_, M, F.binds fun _ _ _ _ _ _ us hl => match us, hl with | [_, _], _ => rfl⟩
  obtain ⟨v, R, n, rfl, hv, lR, sR, sn, k⟩ := h
  exact ⟨_, pss_one (ps_ret (pe_op (op_mulH T c hr) (pv 0) (pv 1))), _, rfl, _, rfl, R, n, hv, rfl, lR, sR, sn, k⟩
theorem sc_msub : FnScope ["self", "other"] ["self", "other"] (defScope (inClass (topS 56) 7)) := ⟨rfl, rfl, rfl, by decide +kernel, rfl, by decide +kernel, by decide +kernel⟩
def sp_msub (P : Program) (w : World) (C : Addr) : Sp := fun vs H Q _ => ∃ v v2 R S, vs = [v, v2] ∧ HpAt P w C H v R ∧ HpAt P w C H v2 S ∧ LetR S ∧ SmW S ∧
  (∀ S', Norm S' (mulR S (-1)) → LetR (R ++ S') ∧ ∀ u U H', L2.Same H H' → HpAt P w C H' u U → Norm U (R ++ S') → Q u H')
theorem ok_msub (T : Tx K mg) (c : Tc K mg C) : HasM P w K mg base C "__sub__" 12 ["self", "other"] (sp_msub P w C) := by
  obtain ⟨f, fd, F, M⟩ := c.sub
  refine ⟨f, fd, F.ok sc_msub (fun vs H Q E ⟨_, _, _, _, e, _⟩ => by rw [e]; rfl) fun cdv A outer s H vs Q E hr h => ?_, M, F.binds fun _ _ _ _ _ _ us hl => match us, hl with | [_, _], _ => rfl⟩
  obtain ⟨v, v2, R, S, rfl, hv, hw, lS, sS, k⟩ := h
  refine ⟨_, pss_one (ps_ret (pe_op (op_addH T c hr) (pv 0) (pe_op (op_mulH T c hr) (pv 1) (pe_un un_neg pe_int)))), ?_⟩
  refine ⟨_, rfl, _, rfl, _, rfl, S, -1, hw, rfl, lS, sS, by decide +kernel, fun u S' H1 s1 hu nm => ?_⟩
  obtain ⟨lU, k⟩ := k S' nm
  exact ⟨R, S', mHp _ _ _ _ s1 hv, hu, lU, fun u2 U H2 s2 hu2 nm2 => k u2 U H2 (s1.trans s2) hu2 nm2⟩
end
section
variable {X : Cx} {C : Addr}
/-- int * heap -/
def rMulI (P : Program) (w : World) (C : Addr) : R2 := fun x y H Q => ∃ R n, x = .int n ∧ HpAt P w C H y R ∧ LetR R ∧ SmW R ∧ n.natAbs < BIG ∧ NewH P w C (mulR R n) H Q
theorem op_mulI (T : Tx X.K X.mg) (c : Tc X.K X.mg C) (hr : Room 12 X.A) : OpR X (binaryOp .Mult) (rMulI X.prog X.w C) := by
  obtain ⟨f, fd, F, M, bd⟩ := (ok_mrmul (P := X.prog) (w := X.w) (base := X.base) T c).ex
  obtain ⟨g, _, _, Mg⟩ := c.mul
  intro pins s σ H x y v u Q I rx ry h
  obtain ⟨R, n, rfl, hy, l, sR, sn, k⟩ := h
  obtain ⟨a, dx, fs, rfl, ha, _⟩ := hp_ins hy
  obtain ⟨t, rfl⟩ := rx
  cases ry
  obtain ⟨mA, J, _⟩ := ins_get I.hok ha
  obtain ⟨od, J, _⟩ := J.look
  refine looks_bin I.kIn J c.sf Mg.at_ M.at_ M.fn c.si ?_
  refine wpAny_mono (run_own ⟨hr, rfl⟩ F bd pass0 I (us := [.ref a, .int n t]) (vs := [.ref a, .int n]) (.cons rfl (.cons ⟨t, rfl⟩ .nil)) ?_) (fun v s' z => back_ref z) fun _ _ z => z
  exact ⟨_, R, n, rfl, hy, l, sR, sn, new_ref k⟩
/-- heap - heap -/
def rSubH (P : Program) (w : World) (C : Addr) : R2 := fun x y H Q => ∃ R S, HpAt P w C H x R ∧ HpAt P w C H y S ∧ LetR S ∧ SmW S ∧ (∀ S', Norm S' (mulR S (-1)) → LetR (R ++ S') ∧ ∀ u U H', L2.Same H H' → HpAt P w C H' u U → Norm U (R ++ S') → Q u H')
theorem op_subH (T : Tx X.K X.mg) (c : Tc X.K X.mg C) (hr : Room 12 X.A) : OpR X (binaryOp .Sub) (rSubH X.prog X.w C) := by
  obtain ⟨f, fd, F, M, bd⟩ := (ok_msub (P := X.prog) (w := X.w) (base := X.base) T c).ex
  intro pins s σ H x y v u Q I rx ry h
  obtain ⟨R, S, hx, hy, l, sS, k⟩ := h
  obtain ⟨a, dx, fs, rfl, ha, _⟩ := hp_ins hx
  obtain ⟨b, dy, gs, rfl, hb, _⟩ := hp_ins hy
  refine op_own (op := .Sub) F hr c.sf M.at_ M.fn bd pass0 pins s σ H _ _ v u Q I rx ry ⟨a, b, dx, dy, fs, gs, rfl, rfl, ha, hb, _, _, R, S, rfl, hx, hy, l, sS, fun S' nm => ⟨(k S' nm).1, fun u U H' sm hu nu => ?_⟩⟩
  obtain ⟨e, _, _, ee, _⟩ := id hu
  exact ⟨e, ee, (k S' nm).2 u U H' sm hu nu⟩
/-- heap != heap, the two alike -/
def rNeH (P : Program) (w : World) (C : Addr) : R2 := fun x y H Q => ∃ R S, HpAt P w C H x R ∧ HpAt P w C H y S ∧ Pz.Same R S ∧ Q (.bl false) H
theorem op_neH (T : Tx X.K X.mg) (c : Tc X.K X.mg C) (hr : Room 2 X.A) : OpR X (compareOp .NotEq) (rNeH X.prog X.w C) := by
  obtain ⟨f, fd, F, M, bd⟩ := (ok_meq (P := X.prog) (w := X.w) (base := X.base) T c).ex
  intro pins s σ H x y v u Q I rx ry h
  obtain ⟨R, S, hx, hy, sm, q⟩ := h
  obtain ⟨a, dx, fs, rfl, ha, _⟩ := hp_ins hx
  obtain ⟨b, dy, gs, rfl, hb, _⟩ := hp_ins hy
  exact op_ownNe F (show Room (1 + 1) X.A from hr) M.at_ M.fn c.ne c.so bd pass0 pins s σ H _ _ v u Q I rx ry ⟨a, b, dx, dy, fs, gs, rfl, rfl, ha, hb, _, _, R, S, rfl, hx, hy, sm, true, rfl, q⟩
end
end Wk

set_option Elab.async false
set_option linter.all false
set_option maxRecDepth 100000
/-! W36: look, led_heap, mirrored, scaled_heap. -/
namespace Wk
open PySem L2 PySem.Spec PyProof.Rows
open Pz (Pt Ln)
/-! ### plain -/
theorem hull_sub {L : List Pt} (hc : ∀ p ∈ L, Pz.Can p) : ∀ v ∈ Pz.hullM L, v ∈ L := fun v m => by
  obtain ⟨as, mem⟩ := Pz.sortP_spec hc
  exact (mem v).mp (Pz.hullA_sub as (fun p mp => (hc p ((mem p).mp mp)).pos) v m)
theorem hull_len {L : List Pt} (hc : ∀ p ∈ L, Pz.Can p) (n : L ≠ []) : (Pz.hullM L).length ≤ L.length := Pz.len_sub (Pz.hullM_pl hc n).nodup (hull_sub hc)
theorem hull_let {L : List Pt} (h : Let L) (n : L ≠ []) : LetP (Pz.hullM L) := by
  have hc : ∀ p ∈ L, Pz.Can p := fun p m => (h.1 p m).1
  exact ⟨Pz.hullM_pl hc n, fun q m => (h.1 q (hull_sub hc q m)).2, Nat.le_trans (hull_len hc n) h.2⟩
theorem map_let {V : List Pt} {m : Pz.Mp} (l : LetM V) (sm : SzM m) (om : m.Ok) : LetP (Pz.mapM m V) := by
  obtain ⟨h1, h2⟩ := let_map (f := Pz.ledP m) l.2.1 l.2.2 fun p mp => ⟨(Pz.led_ev om (l.1 p mp).1.pos).1, sm_of (Pz.led_ev om (l.1 p mp).1.pos).1 (led_sz sm (l.1 p mp).2) mid30⟩
  exact hull_let h1 h2
/-- x, y -> -x, -y -/
def mpMirror : Pz.Mp := ⟨-1, 0, 0, -1, 0, 0, 1⟩
/-- x, y -> 2x/3, 2y/3 -/
def mpTwo : Pz.Mp := ⟨2, 0, 0, 2, 0, 0, 3⟩
theorem ok_mirrorM : mpMirror.Ok := ⟨by decide, by decide⟩
theorem ok_twoM : mpTwo.Ok := ⟨by decide, by decide⟩
theorem sz_mirror : SzM mpMirror := by unfold SzM mpMirror; decide
theorem sz_two : SzM mpTwo := by unfold SzM mpTwo; decide
theorem mi_led (p : Pt) : scM p (-1) 1 = Pz.ledP mpMirror p := by
  unfold scM Pz.ledP mpMirror
  congr 1 <;> simp <;> omega
theorem two_led (p : Pt) : scM p 2 3 = Pz.ledP mpTwo p := by
  unfold scM Pz.ledP mpTwo
  congr 1 <;> simp <;> omega
theorem mi_map (V : List Pt) : miM V = Pz.mapM mpMirror V := by
  unfold miM Pz.mapM
  congr 1
  exact List.map_congr_left fun p _ => mi_led p
/-- the rows, each plate led -/
def mapR (m : Pz.Mp) (R : List Pz.Row) : List Pz.Row := R.map fun r => (Pz.mapM m r.1, r.2)
/-- rows whose plates are let to be led -/
def LetMR (R : List Pz.Row) : Prop := (∀ r ∈ R, LetM r.1) ∧ R.length ≤ ROWS
theorem let_mapR {R : List Pz.Row} {m : Pz.Mp} (l : LetMR R) (sm : SzM m) (om : m.Ok) : LetR (mapR m R) := ⟨fun r mr => by
  obtain ⟨q, mq, rfl⟩ := List.mem_map.mp mr
  exact map_let (l.1 q mq) sm om, by unfold mapR; rw [List.length_map]; exact l.2⟩
section
variable {P : Program} {w : World} {K : PySem.W.Frag} {mg : Str → Option Value} {base : Heap} {C : Addr}
theorem sc_look : FnScope ["heap", "p", "plate", "weight"] ["heap", "p"] (defScope (topS 57)) := ⟨rfl, rfl, rfl, by decide +kernel, rfl, by decide +kernel, by decide +kernel⟩
def lookM (R : List Pz.Row) (p : Pt) : Int := ((R.filter fun r => Pz.hasM r.1 p).map (·.2)).sum
def sp_look (P : Program) (w : World) (C : Addr) : Sp := fun vs H Q _ => ∃ v v2 R p, vs = [v, v2] ∧ HpAt P w C H v R ∧ rP H v2 p ∧ Sm p ∧ (∀ r ∈ R, (∀ q ∈ r.1, Sm q) ∧ r.1 ≠ [] ∧ r.1.length ≤ MANY) ∧ R.length ≤ ROWS ∧ ∀ H', L2.Same H H' → Q (.int (lookM R p)) H'
theorem ok_look (T : Tx K mg) (c : Tc K mg C) : Has P w K mg base "look" 6 (sp_look P w C) := by
  have G1 : Has P w K mg base "has_place" 5 sp_has_place := ok_has_place T
  obtain ⟨fr, fdr, Fr, Mr, br⟩ := (ok_mrows (P := P) (w := w) (base := base) T c).ex
  refine has_of T.look sc_look (fun _ _ _ _ _ _ us hl => match us, hl with | [_, _], _ => rfl) (fun _ _ _ _ ⟨_, _, _, _, e, _⟩ => by rw [e]; rfl) fun f cdv A outer s H vs Q E hr h => ?_
  obtain ⟨v, v2, R, p, rfl, hv, hp, sp, lR, nR, k⟩ := h
  have m1 := hr.mono (show 1 ≤ 5 by decide)
  refine ⟨_, pss_one (ps_ret (pe_callB (cr_sum rfl) (by rfl) T.n_sum (by decide +kernel) (pa_cons
      (pe_lc (own := [("plate", 2), ("weight", 3)]) (g := gTup K 2 (gCons (gName 2) (gCons (gName 3) gNil))) (by rfl) sc_look.nd
        (pi_list (pe_meth0 (pv 0) c.cl Mr Fr m1 br .nil pass0))
        (blkOk_by (own := [("plate", 2), ("weight", 3)]) (N := ["heap", "p", "plate", "weight"]) (sc := defScope (topS 57)) (by decide +kernel))
        (fun _ _ _ _ _ => pg_tup (by rfl) (pgs_cons (pg_name (i := 2) sc_look.nd rfl (Or.inl rfl)) (pgs_cons (pg_name (i := 3) sc_look.nd rfl (Or.inl rfl)) pgs_nil)))
        (fun _ _ _ _ _ => pts_one (pt_val (pe_has G1 hr (by rfl) (pa_cons (pv 2) (pa_cons (pv 1) pa_nil))))) (fun _ _ _ _ _ => pv 3)) pa_nil))), ?_⟩
  have sz : sizeLine = 16777216 := rfl
  have rowsE : ROWS = 100000 := rfl
  obtain ⟨a, dx, fs, rfl, ha, na⟩ := hp_ins hv
  refine ⟨_, rfl, a, dx, fs, rfl, ha, na _ (by decide +kernel), ?_⟩
  refine ⟨_, R, rfl, hv, fun b H1 _ s1 r1 => ?_⟩
  obtain ⟨b', xs, e, hb, pb⟩ := r1
  cases e
  have l1 := Paired.len pb
  have hp1 := mP _ _ _ _ s1 hp
  refine ⟨b, rfl, ⟨_, SqL.of hb⟩, fun D hD => ?_⟩
  refine lcL (r := rRow) (q := rI) (xs := R) (f := fun r => if Pz.hasM r.1 p = true then some r.2 else none) tRow.mono tI (SqL.of hb) pb hD (by omega) ?_ ?_
  · intro x r H4 C' C0 m s4 rv c1 c0
    obtain ⟨t, y, z, rfl, ht, ry, rz⟩ := rv
    obtain rfl : z = .int r.2 := rz
    refine ⟨t, _, rfl, SqT.of ht, rfl, _, _, rfl, _, _, rfl, rfl, rfl, ?_⟩
    refine ⟨_, rfl, _, rfl, _, _, r.1, p, rfl, ry, mP _ _ _ _ s4 hp1, ⟨(lR r m).1, sp, (lR r m).2.1, (lR r m).2.2⟩, fun u5 H5 s5 r5 => ⟨_, r5, ?_⟩⟩
    show (if Pz.hasM r.1 p = true then _ else _)
    by_cases q : Pz.hasM r.1 p = true
    · rw [if_pos q]
      exact ⟨_, rfl, c1 _ _ _ s5 (if_pos q) rfl⟩
    · rw [if_neg q]
      exact c0 _ s5 (if_neg q)
  · intro H2 ys s2 hy py
    have e : R.filterMap (fun r => if Pz.hasM r.1 p = true then some r.2 else none) = (R.filter fun r => Pz.hasM r.1 p).map (·.2) := by
      rw [← List.filterMap_eq_map', List.filterMap_filter]
    rw [e] at py
    have ey : ys = ((R.filter fun r => Pz.hasM r.1 p).map (·.2)).map V.int := by
      generalize (R.filter fun r => Pz.hasM r.1 p).map (·.2) = ns at py
      clear hy
      induction py with
      | nil => rfl
      | cons r _ ih => rw [ih, List.map_cons, r]
    subst ey
    exact ⟨D, _, rfl, SqL.of hy, k _ (s1.trans s2)⟩
/-- what a heap led by a map asks -/
def sp_ledh (P : Program) (w : World) (C : Addr) : Sp := fun vs H Q _ => ∃ v v2 R m, vs = [v, v2] ∧ HpAt P w C H v R ∧ rM H v2 m ∧ LetMR R ∧ SzM m ∧ m.Ok ∧ NewH P w C (mapR m R) H Q
theorem sc_ledh : FnScope ["heap", "rule", "plate", "weight"] ["heap", "rule"] (defScope (topS 59)) := ⟨rfl, rfl, rfl, by decide +kernel, rfl, by decide +kernel, by decide +kernel⟩
theorem ok_ledh (T : Tx K mg) (c : Tc K mg C) : Has P w K mg base "led_heap" 11 (sp_ledh P w C) := by
  have G1 : Has P w K mg base "led" 7 sp_led := ok_led T
  obtain ⟨fr, fdr, Fr, Mr, br⟩ := (ok_mrows (P := P) (w := w) (base := base) T c).ex
  refine has_of T.led_heap sc_ledh (fun _ _ _ _ _ _ us hl => match us, hl with | [_, _], _ => rfl) (fun _ _ _ _ ⟨_, _, _, _, e, _⟩ => by rw [e]; rfl) fun f cdv A outer s H vs Q E hr h => ?_
  obtain ⟨v, v2, R, m, rfl, hv, hm, lR, sm, om, k⟩ := h
  have m1 := hr.mono (show 1 ≤ 10 by decide)
  have m7 := hr.mono (show 7 ≤ 10 by decide)
  refine ⟨_, pss_one (ps_ret (pe_heap T c hr (by rfl) (pe_lc (own := [("plate", 2), ("weight", 3)]) (g := gTup K 2 (gCons (gName 2) (gCons (gName 3) gNil))) (tt := tYes) (by rfl) sc_ledh.nd
      (pi_list (pe_meth0 (pv 0) c.cl Mr Fr m1 br .nil pass0))
      (blkOk_by (own := [("plate", 2), ("weight", 3)]) (N := ["heap", "rule", "plate", "weight"]) (sc := defScope (topS 59)) (by decide +kernel))
      (fun _ _ _ _ _ => pg_tup (by rfl) (pgs_cons (pg_name (i := 2) sc_ledh.nd rfl (Or.inl rfl)) (pgs_cons (pg_name (i := 3) sc_ledh.nd rfl (Or.inl rfl)) pgs_nil)))
      (fun _ _ _ _ _ => pts_nil) (fun _ _ _ _ _ => pe_tup (pa_cons (pe_has G1 m7 (by rfl) (pa_cons (pv 2) (pa_cons (pv 1) pa_nil))) (pa_cons (pv 3) pa_nil)))))), ?_⟩
  have sz : sizeLine = 16777216 := rfl
  have rowsE : ROWS = 100000 := rfl
  have ll := lR.2
  obtain ⟨a, dx, fs, rfl, ha, na⟩ := hp_ins hv
  refine ⟨_, rfl, a, dx, fs, rfl, ha, na _ (by decide +kernel), ?_⟩
  refine ⟨_, R, rfl, hv, fun b H1 _ s1 r1 => ?_⟩
  obtain ⟨b', xs, e, hb, pb⟩ := r1
  cases e
  have l1 := Paired.len pb
  have hm1 := tM.mono _ _ _ _ s1 hm
  refine ⟨b, rfl, ⟨_, SqL.of hb⟩, fun D hD => ?_⟩
  refine lcL (r := rRow) (q := rRow) (xs := R) (f := fun r => some (Pz.mapM m r.1, r.2)) tRow.mono tRow (SqL.of hb) pb hD (by omega) ?_ ?_
  · intro x r H4 C' C0 mm s4 rv c1 c0
    obtain ⟨t, y, z, rfl, ht, ry, rz⟩ := rv
    obtain rfl : z = .int r.2 := rz
    refine ⟨t, _, rfl, SqT.of ht, rfl, _, _, rfl, _, _, rfl, rfl, rfl, ?_⟩
    refine ⟨_, rfl, _, rfl, _, _, r.1, m, rfl, ry, tM.mono _ _ _ _ s4 hm1, ⟨lR.1 r mm, sm, om⟩, fun u5 H5 s5 r5 => ?_⟩
    refine ⟨_, rfl, by show 2 ≤ sizeLine; decide, fun p hp => ?_⟩
    have sp := same_new (o := .tup [u5, .int r.2]) hp
    exact c1 _ _ _ (s5.trans sp) rfl ⟨p, u5, _, rfl, upd_same, mT mP _ _ _ _ sp r5, rfl⟩
  · intro H2 ys s2 hy py
    rw [show (R.filterMap fun r => some (Pz.mapM m r.1, r.2)) = mapR m R by rw [List.filterMap_eq_map']; rfl] at py
    exact ⟨mapR m R, ⟨D, ys, rfl, hy, py⟩, let_mapR lR sm om, fun u U H' s' hu nm => k u U H' (s1.trans (s2.trans s')) hu nm⟩
def sp_mirh (P : Program) (w : World) (C : Addr) : Sp := fun vs H Q _ => ∃ v R, vs = [v] ∧ HpAt P w C H v R ∧ LetMR R ∧ (∀ r ∈ R, LetV r.1) ∧ NewH P w C (mapR mpMirror R) H Q
theorem sc_mirh : FnScope ["heap", "plate", "weight"] ["heap"] (defScope (topS 60)) := ⟨rfl, rfl, rfl, by decide +kernel, rfl, by decide +kernel, by decide +kernel⟩
theorem ok_mirh (T : Tx K mg) (c : Tc K mg C) : Has P w K mg base "mirrored" 11 (sp_mirh P w C) := by
  have G1 : Has P w K mg base "mirror" 7 sp_mirror := ok_mirror T
  obtain ⟨fr, fdr, Fr, Mr, br⟩ := (ok_mrows (P := P) (w := w) (base := base) T c).ex
  refine has_of T.mirrored sc_mirh (fun _ _ _ _ _ _ us hl => match us, hl with | [_], _ => rfl) (fun _ _ _ _ ⟨_, _, e, _⟩ => by rw [e]; rfl) fun f cdv A outer s H vs Q E hr h => ?_
  obtain ⟨v, R, rfl, hv, lR, vR, k⟩ := h
  have m1 := hr.mono (show 1 ≤ 10 by decide)
  have m7 := hr.mono (show 7 ≤ 10 by decide)
  refine ⟨_, pss_one (ps_ret (pe_heap T c hr (by rfl) (pe_lc (own := [("plate", 1), ("weight", 2)]) (g := gTup K 2 (gCons (gName 1) (gCons (gName 2) gNil))) (tt := tYes) (by rfl) sc_mirh.nd
      (pi_list (pe_meth0 (pv 0) c.cl Mr Fr m1 br .nil pass0))
      (blkOk_by (own := [("plate", 1), ("weight", 2)]) (N := ["heap", "plate", "weight"]) (sc := defScope (topS 60)) (by decide +kernel))
      (fun _ _ _ _ _ => pg_tup (by rfl) (pgs_cons (pg_name (i := 1) sc_mirh.nd rfl (Or.inl rfl)) (pgs_cons (pg_name (i := 2) sc_mirh.nd rfl (Or.inl rfl)) pgs_nil)))
      (fun _ _ _ _ _ => pts_nil) (fun _ _ _ _ _ => pe_tup (pa_cons (pe_has G1 m7 (by rfl) (pa_cons (pv 1) pa_nil)) (pa_cons (pv 2) pa_nil)))))), ?_⟩
  have sz : sizeLine = 16777216 := rfl
  have rowsE : ROWS = 100000 := rfl
  have ll := lR.2
  obtain ⟨a, dx, fs, rfl, ha, na⟩ := hp_ins hv
  refine ⟨_, rfl, a, dx, fs, rfl, ha, na _ (by decide +kernel), ?_⟩
  refine ⟨_, R, rfl, hv, fun b H1 _ s1 r1 => ?_⟩
  obtain ⟨b', xs, e, hb, pb⟩ := r1
  cases e
  have l1 := Paired.len pb
  refine ⟨b, rfl, ⟨_, SqL.of hb⟩, fun D hD => ?_⟩
  refine lcL (r := rRow) (q := rRow) (xs := R) (f := fun r => some (miM r.1, r.2)) tRow.mono tRow (SqL.of hb) pb hD (by omega) ?_ ?_
  · intro x r H4 C' C0 mm s4 rv c1 c0
    obtain ⟨t, y, z, rfl, ht, ry, rz⟩ := rv
    obtain rfl : z = .int r.2 := rz
    refine ⟨t, _, rfl, SqT.of ht, rfl, _, _, rfl, _, _, rfl, rfl, rfl, ?_⟩
    refine ⟨_, rfl, _, r.1, rfl, ry, ⟨vR r mm, (lR.1 r mm).2.2⟩, fun u5 H5 s5 r5 => ?_⟩
    refine ⟨_, rfl, by show 2 ≤ sizeLine; decide, fun p hp => ?_⟩
    have sp := same_new (o := .tup [u5, .int r.2]) hp
    exact c1 _ _ _ (s5.trans sp) rfl ⟨p, u5, _, rfl, upd_same, mT mP _ _ _ _ sp r5, rfl⟩
  · intro H2 ys s2 hy py
    rw [show (R.filterMap fun r => some (miM r.1, r.2)) = mapR mpMirror R by rw [List.filterMap_eq_map']; exact List.map_congr_left fun r _ => by rw [mi_map]] at py
    exact ⟨mapR mpMirror R, ⟨D, ys, rfl, hy, py⟩, let_mapR lR sz_mirror ok_mirrorM, fun u U H' s' hu nm => k u U H' (s1.trans (s2.trans s')) hu nm⟩
end
end Wk

set_option Elab.async false
set_option linter.all false
set_option maxRecDepth 100000
/-! W37: scaled_heap. -/
namespace Wk
open PySem L2 PySem.Spec PyProof.Rows
open Pz (Pt Ln)
theorem pi_tupK {X : Cx} {K : PySem.W.Frag} (hK : X.K = K) {tg l : Expr} {tl : TE} (hl : PE X l tl) : PI X tg l (iTup K tl) := hK ▸ pi_tup hl
/-- the scope of the comprehension in scaled_heap -/
def lcSc : Scope := { kind := .function, names := [(".0", .local), ("plate", .local), ("weight", .local), ("hull", .globalImplicit), ("m", .cell), ("n", .cell)], isGenerator := false, isCoroutine := false }
section
variable {P : Program} {w : World} {K : PySem.W.Frag} {mg : Str → Option Value} {base : Heap} {C : Addr}
theorem sc_sch : FnScope ["heap", "m", "n", "plate", "weight", "p"] ["heap", "m", "n"] (defScope (topS 58)) := ⟨rfl, rfl, rfl, by decide +kernel, rfl, by decide +kernel, by decide +kernel⟩
def sp_sch (P : Program) (w : World) (C : Addr) : Sp := fun vs H Q _ => ∃ v R, vs = [v, .int 2, .int 3] ∧ HpAt P w C H v R ∧ LetMR R ∧ NewH P w C (mapR mpTwo R) H Q
theorem ok_sch (T : Tx K mg) (c : Tc K mg C) : Has P w K mg base "scaled_heap" 11 (sp_sch P w C) := by
  have G1 : Has P w K mg base "scaled" 3 sp_scaled := ok_scaled T
  have G2 : Has P w K mg base "hull" 6 sp_hull := ok_hull T
  obtain ⟨fr, fdr, Fr, Mr, br⟩ := (ok_mrows (P := P) (w := w) (base := base) T c).ex
  refine has_of T.scaled_heap sc_sch (fun _ _ _ _ _ _ us hl => match us, hl with | [_, _, _], _ => rfl) (fun _ _ _ _ ⟨_, _, e, _⟩ => by rw [e]; rfl) fun f cdv A outer s H vs Q E hr h => ?_
  obtain ⟨v, R, rfl, hv, lR, k⟩ := h
  have m1 := hr.mono (show 1 ≤ 10 by decide)
  have m3 := hr.mono (show 3 ≤ 10 by decide)
  have m6 := hr.mono (show 6 ≤ 10 by decide)
  refine ⟨_, pss_one (ps_ret (pe_heap T c hr (by rfl) (pe_lc (own := [("plate", 3), ("weight", 4)]) (g := gTup K 2 (gCons (gName 3) (gCons (gName 4) gNil))) (tt := tYes) (by rfl) sc_sch.nd
      (pi_list (pe_meth0 (pv 0) c.cl Mr Fr m1 br .nil pass0))
      (blkOk_by (own := [("plate", 3), ("weight", 4)]) (N := ["heap", "m", "n", "plate", "weight", "p"]) (sc := defScope (topS 58)) (by decide +kernel))
      (fun _ _ _ _ _ => pg_tup (by rfl) (pgs_cons (pg_name (i := 3) sc_sch.nd rfl (Or.inl rfl)) (pgs_cons (pg_name (i := 4) sc_sch.nd rfl (Or.inl rfl)) pgs_nil)))
      (fun _ _ _ _ _ => pts_nil) (fun _ _ _ _ _ => pe_tup (pa_cons (pe_has G2 m6 (by rfl) (pa_cons
        (pe_lc (own := [("p", 5)]) (g := gName 5) (tt := tYes) (by rfl) sc_sch.nd (pi_tupK (K := K) rfl (pv 3))
          (blkOk_by (own := [("p", 5)]) (N := ["heap", "m", "n", "plate", "weight", "p"]) (sc := lcSc) (by decide +kernel))
          (fun _ _ _ _ _ => pg_name (i := 5) sc_sch.nd rfl (Or.inl rfl)) (fun _ _ _ _ _ => pts_nil)
          (fun _ _ _ _ _ => pe_has G1 m3 (by rfl) (pa_cons (pv 5) (pa_cons (pv 1) (pa_cons (pv 2) pa_nil))))) pa_nil)) (pa_cons (pv 4) pa_nil)))))), ?_⟩
  have sz : sizeLine = 16777216 := rfl
  have rowsE : ROWS = 100000 := rfl
  have many : MANY = 300 := rfl
  have ll := lR.2
  obtain ⟨a, dx, fs, rfl, ha, na⟩ := hp_ins hv
  refine ⟨_, rfl, a, dx, fs, rfl, ha, na _ (by decide +kernel), ?_⟩
  refine ⟨_, R, rfl, hv, fun b H1 _ s1 r1 => ?_⟩
  obtain ⟨b', xs, e, hb, pb⟩ := r1
  cases e
  have l1 := Paired.len pb
  refine ⟨b, rfl, ⟨_, SqL.of hb⟩, fun D hD => ?_⟩
  refine lcL (r := rRow) (q := rRow) (xs := R) (f := fun r => some (Pz.mapM mpTwo r.1, r.2)) tRow.mono tRow (SqL.of hb) pb hD (by omega) ?_ ?_
  · intro x r H4 C' C0 mm s4 rv c1 c0
    obtain ⟨t, y, z, rfl, ht, ry, rz⟩ := rv
    obtain rfl : z = .int r.2 := rz
    obtain ⟨e, us, rfl, he, pe⟩ := ry
    have lM := lR.1 r mm
    have le := Paired.len pe
    have l3 := lM.2.1
    refine ⟨t, _, rfl, SqT.of ht, rfl, _, _, rfl, _, _, rfl, rfl, rfl, ?_⟩
    refine ⟨_, rfl, e, rfl, ⟨_, SqT.of he⟩, fun D2 hD2 => ?_⟩
    refine lcT (r := rP) (q := rP) (xs := r.1) (f := fun p => some (scM p 2 3)) mP tP (SqT.of he) pe hD2 (by omega) ?_ ?_
    · intro x p H5 C2 C3 mp s5 rv c1' c0'
      refine ⟨rfl, _, rfl, _, rfl, _, rfl, _, _, _, p, 2, 3, rfl, rv, rfl, rfl, ⟨lM.sm p mp, by decide +kernel, by decide +kernel, by decide⟩, fun u6 H6 s6 r6 => ?_⟩
      exact c1' _ _ _ s6 rfl r6
    · intro H5 ys s5 hy py
      rw [show (r.1.filterMap fun p => some (scM p 2 3)) = r.1.map (Pz.ledP mpTwo) by rw [List.filterMap_eq_map']; exact List.map_congr_left fun p _ => two_led p] at py
      refine ⟨_, _, rfl, rL.s ⟨D2, ys, rfl, hy, py⟩, let_map (f := Pz.ledP mpTwo) lM.2.1 lM.2.2 fun p mp => ⟨(Pz.led_ev ok_twoM (lM.1 p mp).1.pos).1, sm_of (Pz.led_ev ok_twoM (lM.1 p mp).1.pos).1 (led_sz sz_two (lM.1 p mp).2) mid30⟩, fun u6 H6 s6 r6 => ?_⟩
      refine ⟨_, rfl, by show 2 ≤ sizeLine; decide, fun p hp => ?_⟩
      have sp := same_new (o := .tup [u6, .int r.2]) hp
      exact c1 _ _ _ (s5.trans (s6.trans sp)) rfl ⟨p, u6, _, rfl, upd_same, mT mP _ _ _ _ sp r6, rfl⟩
  · intro H2 ys s2 hy py
    rw [show (R.filterMap fun r => some (Pz.mapM mpTwo r.1, r.2)) = mapR mpTwo R by rw [List.filterMap_eq_map']; rfl] at py
    exact ⟨mapR mpTwo R, ⟨D, ys, rfl, hy, py⟩, let_mapR lR sz_two ok_twoM, fun u U H' s' hu nm => k u U H' (s1.trans (s2.trans s')) hu nm⟩
end
end Wk

set_option Elab.async false
set_option linter.all false
set_option maxRecDepth 100000
/-! W38: over. -/
namespace Wk
open PySem L2 PySem.Spec PyProof.Rows
open Pz (Pt Ln)
/-- what one row meets of others -/
def metG (r : Pz.Row) (s : Pz.Row) : Option Pz.Row := (Pz.meetM r.1 s.1).map fun V => (V, r.2 * s.2)
theorem over_snoc (R S : List Pz.Row) (r : Pz.Row) : Pz.overR (R ++ [r]) S = Pz.overR R S ++ S.filterMap (metG r) := by
  unfold Pz.overR Pz.overG
  rw [List.flatMap_append]
  congr 1
  rw [List.flatMap_cons, List.flatMap_nil, List.append_nil]
  rfl
/-- heaps that may be laid over one another -/
structure FitH (R S : List Pz.Row) : Prop where
  fit : ∀ r ∈ R, ∀ s ∈ S, Fit r.1 s.1
  wr : SmW R
  ws : SmW S
  let_ : LetR (Pz.overR R S)
  few : R.length * S.length ≤ 400
section
variable {P : Program} {w : World} {K : PySem.W.Frag} {mg : Str → Option Value} {base : Heap} {C : Addr}
theorem sc_over : FnScope ["one", "other", "found", "plate", "weight", "mate", "times", "both"] ["one", "other"] (defScope (topS 63)) := ⟨rfl, rfl, rfl, by decide +kernel, rfl, by decide +kernel, by decide +kernel⟩
def sp_over (P : Program) (w : World) (C : Addr) : Sp := fun vs H Q _ => ∃ v v2 R S, vs = [v, v2] ∧ HpAt P w C H v R ∧ HpAt P w C H v2 S ∧ FitH R S ∧ NewH P w C (Pz.overR R S) H Q
theorem ok_over (T : Tx K mg) (c : Tc K mg C) : Has P w K mg base "over" 11 (sp_over P w C) := by
  have G1 : Has P w K mg base "meet" 8 sp_meet := ok_meet T
  obtain ⟨fr, fdr, Fr, Mr, br⟩ := (ok_mrows (P := P) (w := w) (base := base) T c).ex
  refine has_of T.over sc_over (fun _ _ _ _ _ _ us hl => match us, hl with | [_, _], _ => rfl) (fun _ _ _ _ ⟨_, _, _, _, e, _⟩ => by rw [e]; rfl) fun f cdv A outer s H vs Q E hr h => ?_
  obtain ⟨v, v2, R, S, rfl, hv, hw, F, k⟩ := h
  have m1 := hr.mono (show 1 ≤ 10 by decide)
  have m8 := hr.mono (show 8 ≤ 10 by decide)
  obtain ⟨tm, most⟩ := c.most
  refine ⟨_, pss_cons (ps_set (i := 2) sc_over.nd rfl (Or.inl rfl) (pe_lst pa_nil))
    (pss_cons (ps_for PassesOwn.never rfl (pi_list (pe_meth0 (pv 0) c.cl Mr Fr m1 br .nil pass0))
        (pg_tup (by rfl) (pgs_cons (pg_name (i := 3) sc_over.nd rfl (Or.inl rfl)) (pgs_cons (pg_name (i := 4) sc_over.nd rfl (Or.inl rfl)) pgs_nil)))
      (pss_one (ps_for PassesOwn.never rfl (pi_list (pe_meth0 (pv 1) c.cl Mr Fr m1 br .nil pass0))
          (pg_tup (by rfl) (pgs_cons (pg_name (i := 5) sc_over.nd rfl (Or.inl rfl)) (pgs_cons (pg_name (i := 6) sc_over.nd rfl (Or.inl rfl)) pgs_nil)))
        (pss_cons (ps_set (i := 7) sc_over.nd rfl (Or.inl rfl) (pe_has G1 m8 (by rfl) (pa_cons (pv 3) (pa_cons (pv 5) pa_nil))))
        (pss_one (ps_if (pt_cmpR op_notN (pv 7) pe_non (nomark _))
          (pss_one (ps_expr (pe_bm PySem.F.plainAttrs_list PySem.F.slot_list_append PySem.F.type_list_append mt_append (pv 2) (pa_cons (pe_tup (pa_cons (pv 7) (pa_cons (pe_op op_mulN (pv 4) (pv 6)) pa_nil))) pa_nil)))) pss_nil))))))
    (pss_cons (ps_if (pt_cmpR op_gt (pe_callB call_len_seq (by rfl) T.n_len PySem.boot_len (pa_cons (pv 2) pa_nil)) (pe_glob (v := .int 400) (by rfl) most ⟨tm, rfl⟩) (nomark _)) pss_never pss_nil)
    (pss_one (ps_ret (pe_heap T c hr (by rfl) (pv 2)))))), ?_⟩
  have sz : sizeLine = 16777216 := rfl
  have few := F.few
  refine ⟨by show 0 ≤ sizeLine; decide, fun D hD => ?_⟩
  have s0 : L2.Same H (upd H D (.lst [])) := same_new hD
  have D0 : (upd H D (.lst [])) D = some (.lst []) := upd_same
  generalize upd H D (.lst []) = H0 at *
  obtain ⟨a, dx, fs, rfl, ha, na⟩ := hp_ins hv
  refine ⟨_, rfl, a, dx, fs, rfl, s0 _ _ ha, na _ (by decide +kernel), ?_⟩
  refine ⟨_, R, rfl, mHp _ _ _ _ s0 hv, fun b H1 hb0 s1 r1 => ?_⟩
  obtain ⟨b', xs, e, hb, pb⟩ := r1
  cases e
  have bD : b ≠ D := fun e => by rw [e, D0] at hb0; exact nomatch hb0
  have l1 := Paired.len pb
  have D1 := s1 _ _ D0
  have s01 := s0.trans s1
  refine ⟨b, rfl, ⟨_, SqL.of hb⟩, ?_⟩
  refine for_list (K := K) (a := b) (xs := xs) (fun i σ H2 => ∃ (xp xw xm xt xb : Option L2.V) (ys : List L2.V), σ = [some (.ref a), some v2, some (.ref D), xp, xw, xm, xt, xb] ∧ SameX D H1 H2 ∧ H2 D = some (.lst ys) ∧ Paired (rRow H2) ys (Pz.overR (R.take i) S) ∧ ys.length ≤ i * S.length)
    ⟨none, none, none, none, none, [], rfl, fun _ _ _ e => e, D1, .nil, Nat.zero_le _⟩ (fun i σ H2 _ ⟨_, _, _, _, _, _, _, x2, _⟩ => SqL.of (x2 _ _ bD hb)) ?_ ?_
  · rintro i y σ H2 hi ⟨xp, xw, xm, xt, xb, ys, rfl, x2, hy, py, ly⟩
    obtain ⟨r, hrr, ry⟩ := Paired.get pb hi
    have iR : i < R.length := (List.getElem?_eq_some_iff.mp hrr).1
    have mr : r ∈ R := List.mem_of_getElem? hrr
    obtain ⟨t, p1, p2, rfl, ht, rp, rw'⟩ := tRow _ _ _ _ (x2.tup D1) ry
    obtain rfl : p2 = .int r.2 := rw'
    have sH2 : L2.Same H H2 := SameX.same s01 x2 hD
    refine ⟨t, _, rfl, SqT.of ht, rfl, _, _, rfl, _, _, rfl, rfl, ?_⟩
    have hw2 := mHp _ _ _ _ sH2 hw
    obtain ⟨a2, dx2, fs2, rfl, ha2, na2⟩ := hp_ins hw2
    refine ⟨_, rfl, a2, dx2, fs2, rfl, ha2, na2 _ (by decide +kernel), ?_⟩
    refine ⟨_, S, rfl, hw2, fun b2 H3 hb3 s3 r3 => ?_⟩
    obtain ⟨b2', zs, e, hb2, pb2⟩ := r3
    cases e
    have b2D : b2 ≠ D := fun e => by rw [e, hy] at hb3; exact nomatch hb3
    have l2 := Paired.len pb2
    have D3 := s3 _ _ hy
    have rp3 := mT mP _ _ _ _ s3 rp
    refine ⟨b2, rfl, ⟨_, SqL.of hb2⟩, ?_⟩
    refine for_list (K := K) (a := b2) (xs := zs) (fun j σ H4 => ∃ (xm xt xb : Option L2.V) (us : List L2.V), σ = [some (.ref a), some (.ref a2), some (.ref D), some p1, some (.int r.2), xm, xt, xb] ∧ SameX D H3 H4 ∧ H4 D = some (.lst us) ∧
        Paired (rRow H4) us (Pz.overR (R.take i) S ++ (S.take j).filterMap (metG r)) ∧ us.length ≤ i * S.length + j)
      ⟨xm, xt, xb, ys, rfl, fun _ _ _ e => e, D3, by simpa using Paired.imp py fun _ _ q => tRow.mono _ _ _ _ s3 q, by omega⟩ (fun j σ H4 _ ⟨_, _, _, _, _, x4, _⟩ => SqL.of (x4 _ _ b2D hb2)) ?_ ?_
    · rintro j z σ H4 hj ⟨xm, xt, xb, us, rfl, x4, hu, pu, lu⟩
      obtain ⟨q, hq, rz⟩ := Paired.get pb2 hj
      have jS : j < S.length := (List.getElem?_eq_some_iff.mp hq).1
      have mq : q ∈ S := List.mem_of_getElem? hq
      have t4 := x4.tup D3
      obtain ⟨t2, q1, q2, rfl, ht2, rq, rq'⟩ := tRow _ _ _ _ t4 rz
      obtain rfl : q2 = .int q.2 := rq'
      have rp4 := tT tP _ _ _ _ t4 rp3
      have lim : i * S.length + j < 400 := by
        have : (i + 1) * S.length ≤ R.length * S.length := Nat.mul_le_mul_right _ iR
        rw [Nat.succ_mul] at this
        omega
      refine ⟨t2, _, rfl, SqT.of ht2, rfl, _, _, rfl, _, _, rfl, rfl, ?_⟩
      refine ⟨_, rfl, _, rfl, _, _, r.1, q.1, rfl, rp4, rq, F.fit r mr q mq, fun u5 H5 s5 r5 => ?_⟩
      have tk : (S.take (j + 1)).filterMap (metG r) = (S.take j).filterMap (metG r) ++ (match metG r q with | some z => [z] | none => []) := by rw [take_filterMap (f := metG r) hq]; cases metG r q <;> rfl
      have hu5 := s5 _ _ hu
      cases e : Pz.meetM r.1 q.1 with
      | none =>
        rw [e] at r5
        obtain rfl : u5 = .non := r5
        refine ⟨_, rfl, rfl, _, rfl, ?_⟩
        rw [decide_eq_true (show L2.V.non = L2.V.non from rfl)]
        refine ⟨_, _, _, us, rfl, x4.trans s5, hu5, ?_, by omega⟩
        rw [tk, show metG r q = none by unfold metG; rw [e]; rfl, List.append_nil]
        exact Paired.imp pu fun _ _ q => tRow.mono _ _ _ _ s5 q
      | some V =>
        rw [e] at r5
        obtain ⟨t5, vs5, rfl, ht5, pt5⟩ := id r5
        refine ⟨_, rfl, rfl, _, rfl, ?_⟩
        rw [decide_eq_false (show ¬ L2.V.ref t5 = L2.V.non from fun z => nomatch z)]
        refine ⟨_, rfl, .inl ⟨rfl, _, SqL.of hu5⟩, ?_⟩
        refine ⟨_, rfl, _, rfl, _, rfl, _, _, rfl, rfl, big_mul (F.wr r mr) (F.ws q mq), by show 2 ≤ sizeLine; decide, fun t6 ht6 => ?_⟩
        have s6 := same_new (o := .tup [.ref t5, .int (r.2 * q.2)]) ht6
        have e6 : (upd H5 t6 (.tup [.ref t5, .int (r.2 * q.2)])) t6 = some (.tup [.ref t5, .int (r.2 * q.2)]) := upd_same
        have hu6 := s6 _ _ hu5
        have r6 := mT mP _ _ _ _ s6 r5
        generalize upd H5 t6 (.tup [.ref t5, .int (r.2 * q.2)]) = H6 at *
        refine ⟨D, us, .ref t6, rfl, rfl, hu6, by omega, ?_⟩
        have tu : TupSame H6 (upd H6 D (.lst (us ++ [.ref t6]))) := tup_upd hu6
        refine ⟨_, _, _, us ++ [.ref t6], rfl, (x4.trans (s5.trans s6)).upd, upd_same, ?_, by simp; omega⟩
        rw [tk, show metG r q = some (V, r.2 * q.2) by unfold metG; rw [e]; rfl, ← List.append_assoc]
        exact PySem.Paired.snoc (Paired.imp pu fun _ _ q => tRow _ _ _ _ tu (tRow.mono _ _ _ _ (s5.trans s6) q)) (tRow _ _ _ _ tu ⟨t6, _, _, rfl, e6, r6, rfl⟩)
    · rintro σ H4 ⟨xm, xt, xb, us, rfl, x4, hu, pu, lu⟩
      rw [l2, List.take_length] at pu
      have tk : R.take (i + 1) = R.take i ++ [r] := by rw [List.take_add_one, hrr]; rfl
      refine ⟨_, _, _, _, _, us, rfl, fun c o n e => x4 _ _ n (s3 _ _ (x2 _ _ n e)), hu, ?_, by rw [Nat.succ_mul]; omega⟩
      rw [tk, over_snoc]
      exact pu
  · rintro σ H2 ⟨xp, xw, xm, xt, xb, ys, rfl, x2, hy, py, ly⟩
    rw [l1, List.take_length] at py
    have ly' : ys.length ≤ 400 := by rw [l1] at ly; omega
    refine ⟨_, rfl, D, ys, rfl, .inl (SqL.of hy), _, _, rfl, rfl, _, rfl, ?_⟩
    rw [decide_eq_false (show ¬ (400 : Int) < (ys.length : Int) by omega)]
    refine ⟨_, rfl, _, ⟨D, ys, rfl, hy, py⟩, F.let_, fun u U H' s' hu nm => k u U H' ((SameX.same s01 x2 hD).trans s') hu nm⟩
end
end Wk

set_option Elab.async false
set_option linter.all false
set_option maxRecDepth 100000
/-! W39: the law's source of numbers: how it stands; picks. -/
namespace Wk
open PySem L2 PySem.Spec PyProof.Rows
open Pz (Pt Ln)
abbrev kC : Key := .inr "cells"
abbrev kL : Key := .inr "left"
abbrev kM : Key := .inr "mixed"
abbrev kT : Key := .inr "turn"
theorem kne : (kC ≠ kL ∧ kC ≠ kM ∧ kC ≠ kT) ∧ (kL ≠ kM ∧ kL ≠ kT) ∧ kM ≠ kT := by decide +kernel
def srcK (L : Addr) (l m t : Int) : List (Key × V) := [(kC, .ref L), (kL, .int l), (kM, .int m), (kT, .int t)]
theorem src_C (L : Addr) (l m t : Int) : valV (srcK L l m t) kC = some (.ref L) := valV_pos rfl
theorem src_L (L : Addr) (l m t : Int) : valV (srcK L l m t) kL = some (.int l) := by
  obtain ⟨⟨h1, h2, h3⟩, ⟨h4, h5⟩, h6⟩ := kne
  unfold srcK
  rw [valV_neg h1, valV_pos rfl]
theorem src_M (L : Addr) (l m t : Int) : valV (srcK L l m t) kM = some (.int m) := by
  obtain ⟨⟨h1, h2, h3⟩, ⟨h4, h5⟩, h6⟩ := kne
  unfold srcK
  rw [valV_neg h2, valV_neg h4, valV_pos rfl]
theorem src_T (L : Addr) (l m t : Int) : valV (srcK L l m t) kT = some (.int t) := by
  obtain ⟨⟨h1, h2, h3⟩, ⟨h4, h5⟩, h6⟩ := kne
  unfold srcK
  rw [valV_neg h3, valV_neg h5, valV_neg h6, valV_pos rfl]
theorem put_there {kvs : List (Key × V)} {k : Key} {y z : V} (h : valV kvs k = some z) : putK kvs k y = kvs.map fun kv => if kv.1 = k then (kv.1, y) else kv := by
  unfold putK
  rw [if_pos (by rw [valV_any, h]; rfl)]
theorem put_L (L : Addr) (l m t l' : Int) : putK (srcK L l m t) kL (.int l') = srcK L l' m t := by
  obtain ⟨⟨h1, h2, h3⟩, ⟨h4, h5⟩, h6⟩ := kne
  rw [put_there (src_L L l m t)]
  unfold srcK
  simp only [List.map, if_neg h1, if_pos, if_neg h4.symm, if_neg h5.symm]
theorem put_T (L : Addr) (l m t t' : Int) : putK (srcK L l m t) kT (.int t') = srcK L l m t' := by
  obtain ⟨⟨h1, h2, h3⟩, ⟨h4, h5⟩, h6⟩ := kne
  rw [put_there (src_T L l m t)]
  unfold srcK
  simp only [List.map, if_neg h3, if_neg h5, if_neg h6, if_pos]
/-- the source at D, its cells at L, at most n numbers drawn without cells -/
def Src (D L : Addr) (n : Nat) (H : Hp) : Prop := ∃ (ns : List Int) (l m t : Int), H D = some (.dK (srcK L l m t)) ∧ H L = some (.lst (ns.map V.int)) ∧ (∀ z ∈ ns, 0 ≤ z) ∧ 0 ≤ l ∧ 0 ≤ m ∧ m < 2 ^ 32 ∧ 0 ≤ t ∧ t ≤ (n : Int)
theorem Src.up {D L : Addr} {n k : Nat} {H : Hp} (h : Src D L n H) (l : n ≤ k) : Src D L k H := by
  obtain ⟨ns, l0, m, t, a, b, c, d, e, f, g, i⟩ := h
  exact ⟨ns, l0, m, t, a, b, c, d, e, f, g, by omega⟩
/-- all else stays -/
def SameY (D L : Addr) (H H' : Hp) : Prop := ∀ a o, a ≠ D → a ≠ L → H a = some o → H' a = some o
theorem SameY.refl {D L : Addr} {H : Hp} : SameY D L H H := fun _ _ _ _ e => e
theorem SameY.trans {D L : Addr} {H H' H'' : Hp} (s : SameY D L H H') (s' : SameY D L H' H'') : SameY D L H H'' := fun a o h1 h2 e => s' a o h1 h2 (s a o h1 h2 e)
theorem SameY.of {D L : Addr} {H H' : Hp} (s : L2.Same H H') : SameY D L H H' := fun a o _ _ e => s a o e
theorem SameY.updD {D L : Addr} {H H' : Hp} {o : HO} (s : SameY D L H H') : SameY D L H (upd H' D o) := fun a u h1 h2 e => by rw [upd_ne h1]; exact s a u h1 h2 e
theorem SameY.updL {D L : Addr} {H H' : Hp} {o : HO} (s : SameY D L H H') : SameY D L H (upd H' L o) := fun a u h1 h2 e => by rw [upd_ne h2]; exact s a u h1 h2 e
theorem Src.same {D L : Addr} {n : Nat} {H H' : Hp} (h : Src D L n H) (s : L2.Same H H') : Src D L n H' := by
  obtain ⟨ns, l0, m, t, a, b, r⟩ := h
  exact ⟨ns, l0, m, t, s _ _ a, s _ _ b, r⟩
/-- a store elsewhere -/
theorem Src.upd {D L A : Addr} {n : Nat} {H : Hp} {o : HO} (h : Src D L n H) (h1 : A ≠ D) (h2 : A ≠ L) : Src D L n (upd H A o) := by
  obtain ⟨ns, l0, m, t, a, b, r⟩ := h
  exact ⟨ns, l0, m, t, by rw [upd_ne h1.symm]; exact a, by rw [upd_ne h2.symm]; exact b, r⟩
theorem SameY.tup {D L : Addr} {n : Nat} {H H' : Hp} (h : Src D L n H) (s : SameY D L H H') : TupSame H H' := fun b xs e => by
  obtain ⟨ns, l0, m, t, a, c, r⟩ := h
  exact s b _ (fun q => by rw [q, a] at e; cases e) (fun q => by rw [q, c] at e; cases e) e
theorem Src.free {D L A : Addr} {n : Nat} {H : Hp} (h : Src D L n H) (e : H A = none) : A ≠ D ∧ A ≠ L := by
  obtain ⟨ns, l0, m, t, a, b, r⟩ := h
  exact ⟨fun q => (by rw [q, a] at e; cases e), fun q => (by rw [q, b] at e; cases e)⟩
theorem SameY.hp {D L : Addr} {n : Nat} {H H' : Hp} {P : Program} {w : World} {C : Addr} {v : V} {R : List Pz.Row} (h : Src D L n H) (s : SameY D L H H') (x : HpAt P w C H v R) : HpAt P w C H' v R := by
  obtain ⟨a, dx, d, e, ha, nd, ow⟩ := x
  have tu := s.tup h
  obtain ⟨ns, l0, m, t, hD, hL, r⟩ := h
  refine ⟨a, dx, d, e, s a _ (fun q => by rw [q, hD] at ha; cases ha) (fun q => by rw [q, hL] at ha; cases ha) ha, ?_, ow⟩
  obtain ⟨o, xs, z⟩ := nd
  refine ⟨o, xs, s d _ (fun q => ?_) (fun q => ?_) z.at_, z.ex, z.dat, z.ents.mono tu, z.nd, z.sys, z.len⟩
  · have := z.at_; rw [q, hD] at this; cases this
  · have := z.at_; rw [q, hL] at this; cases this
/-- * of ints of together less than a hundred million bits -/
def CMulX (i j : Int) : Prop := i.natAbs.log2 + j.natAbs.log2 < 100000000
theorem op_mulX {X : Cx} : OpR X (binaryOp .Mult) (L2.rI CMulX fun i j => .int (i * j)) := opI fun i j _ _ _ _ _ hc q => mul_int q (by
  have bits : ∀ x : Int, Builtin.Int.intBits x ≤ x.natAbs.log2 + 1 := fun x => by
    unfold Builtin.Int.intBits
    split <;> omega
  have h1 := bits i
  have h2 := bits j
  have h3 : i.natAbs.log2 + j.natAbs.log2 < 100000000 := hc
  have line : bitsLine = 134217728 := by decide
  unfold IntMulOk
  intro z
  rw [Bool.and_eq_true] at z
  obtain ⟨_, z2⟩ := z
  unfold Builtin.Int.intTooBig at z2
  have z3 := of_decide_eq_true z2
  rw [line] at z3
  omega)
theorem log_lt {x : Int} {n : Nat} (h : x.natAbs < 2 ^ n) : x.natAbs.log2 ≤ n := by
  by_cases h0 : n = 0
  · subst h0
    have : x.natAbs = 0 := by simpa using h
    rw [this]; decide
  · exact Nat.le_of_lt (PySem.Flt.log2_lt_of (by omega) h)
end Wk

set_option Elab.async false
set_option linter.all false
set_option maxRecDepth 100000
/-! W40: _law_pick. -/
namespace Wk
open PySem L2 PySem.Spec PyProof.Rows
open Pz (Pt Ln)
section
variable {P : Program} {w : World} {K : PySem.W.Frag} {mg : Str → Option Value} {base : Heap}
theorem dget_of {H : Hp} {D : Addr} {kvs : List (Key × V)} {k : Key} {v : V} (h : H D = some (.dK kvs)) (e : valV kvs k = some v) : DGet H D (kV k) (some v) := e ▸ DGet.k h
theorem src_small (L : Addr) (l m t : Int) : (srcK L l m t).length < sizeLine := by show 4 < sizeLine; decide
theorem dput_L {H : Hp} {D L : Addr} {l m t l' : Int} (h : H D = some (.dK (srcK L l m t))) : DPut H D (kV kL) (.int l') (upd H D (.dK (srcK L l' m t))) := by
  have := DPut.k (k := kL) (v := .int l') h (src_small L l m t)
  rw [put_L] at this
  exact this
theorem dput_T {H : Hp} {D L : Addr} {l m t t' : Int} (h : H D = some (.dK (srcK L l m t))) : DPut H D (kV kT) (.int t') (upd H D (.dK (srcK L l m t'))) := by
  have := DPut.k (k := kT) (v := .int t') h (src_small L l m t)
  rw [put_T] at this
  exact this
def DRAWS : Nat := 1000000
theorem sc_pick : FnScope ["_law_source", "_law_most", "_law_digits", "_law_left", "_law_laps", "_law_mixed"] ["_law_source", "_law_most"] (defScope (topS 66)) := ⟨rfl, rfl, rfl, by decide +kernel, rfl, by decide +kernel, by decide +kernel⟩
def sp_pick : Sp := fun vs H Q _ => ∃ D L n k, vs = [.ref D, .int k] ∧ Src D L n H ∧ 0 ≤ k ∧ k < 2 ^ 32 ∧ n < DRAWS ∧ ∀ j H', 0 ≤ j → (j < k ∨ (j = 0 ∧ k < 2)) → SameY D L H H' → Src D L (n + 1) H' → Q (.int j) H'
theorem ok_pick (T : Tx K mg) : Has P w K mg base "_law_pick" 1 sp_pick := by
  refine has_of T._law_pick sc_pick (fun _ _ _ _ _ _ us hl => match us, hl with | [_, _], _ => rfl) (fun _ _ _ _ ⟨_, _, _, _, e, _⟩ => by rw [e]; rfl) fun f cdv A outer s H vs Q E hr h => ?_
  obtain ⟨D, L, n, k, rfl, src, k0, kb, hn, q⟩ := h
  have hu : (A.deeper (envOfC "_law_pick" (defScope (topS 66)) s.heap.objs.size f cdv)).units + 1 < cLine := by have := hr.units; omega
  have dr : DRAWS = 1000000 := rfl
  -- what stands behind the loop
  obtain ⟨tt, ht, run⟩ : ∃ t, PSs (cxOf CX0 P w K mg base ["_law_source", "_law_most", "_law_digits", "_law_left", "_law_laps", "_law_mixed"] "_law_pick" (defScope (topS 66)) f cdv A outer s H E).nox ((defBody (topS 66)).drop 3) t ∧
      ∀ (H' : Hp) (ns' : List Int) (l' m t0 : Int) (z : Ends), z.rt = Q → 2 ≤ k → H' D = some (.dK (srcK L l' m t0)) → H' L = some (.lst (ns'.map V.int)) → (∀ z ∈ ns', 0 ≤ z) → 0 ≤ l' → 0 ≤ m → m < 2 ^ 32 → 0 ≤ t0 → t0 ≤ (n : Int) → SameY D L H H' →
        t z [some (.ref D), some (.int k), some (.ref L), none, none, none] H' := by
    refine ⟨_, pss_cons (ps_set (i := 3) sc_pick.nd rfl (Or.inl rfl) (pe_dget hu (pv 0) pe_str (fun _ _ => rfl)))
      (pss_cons (ps_if (pt_cmpR op_gt (pv 3) pe_int (nomark _))
          (pss_cons (ps_dput hu (pv 0) pe_str (pe_op op_fdivW (pv 3) (pv 1)) rfl)
          (pss_one (ps_ret (pe_op op_mod (pe_callTy call_int1 (by rfl) T.n_int (by decide +kernel) (pa_cons (pv 3) pa_nil)) (pv 1))))) pss_nil)
      (pss_cons (ps_dput hu (pv 0) pe_str (pe_op op_add (pe_dget hu (pv 0) pe_str (fun _ _ => rfl)) pe_int) rfl)
      (pss_cons (ps_set (i := 4) sc_pick.nd rfl (Or.inl rfl) (pe_dget hu (pv 0) pe_str (fun _ _ => rfl)))
      (pss_cons (ps_set (i := 5) sc_pick.nd rfl (Or.inl rfl) (pe_op op_mod (pe_callTy call_int1 (by rfl) T.n_int (by decide +kernel) (pa_cons (pe_op op_add (pe_dget hu (pv 0) pe_str (fun _ _ => rfl)) (pe_op op_mulX (pv 4) pe_int)) pa_nil)) pe_int))
      (pss_cons (ps_set (i := 5) sc_pick.nd rfl (Or.inl rfl) (pe_op op_mod (pe_callTy call_int1 (by rfl) T.n_int (by decide +kernel) (pa_cons (pe_op op_add (pe_op op_mulX (pv 5) (pv 5)) (pe_op op_mulX (pv 4) pe_int)) pa_nil)) pe_int))
      (pss_one (ps_ret (pe_op op_mod (pe_callTy call_int1 (by rfl) T.n_int (by decide +kernel) (pa_cons (pe_op op_fdivW (pv 5) pe_int) pa_nil)) (pv 1))))))))), ?_⟩
    intro H' ns' l' m t0 z ez k2 hD hL ns0 l0 m0 mb t0' tb sy
    have DL : D ≠ L := fun z => by rw [z, hL] at hD; cases hD
    have kd : CDivW l' k := ⟨by omega, Nat.lt_of_le_of_lt (log_lt (n := 32) (by omega)) (by decide)⟩
    refine ⟨_, rfl, D, _, rfl, dget_of hD (src_L ..), ?_⟩
    refine ⟨_, rfl, _, _, rfl, rfl, _, rfl, ?_⟩
    refine ite2 (fun e => ?_) (fun e => ?_)
    · refine ⟨_, rfl, _, rfl, _, _, rfl, rfl, kd, ?_⟩
      refine ⟨_, rfl, D, _, rfl, dput_L hD, ?_⟩
      refine ⟨_, rfl, .inl ⟨_, rfl, _, rfl, _, _, rfl, rfl, by omega, ?_⟩⟩
      rw [ez]
      refine q _ _ (Int.emod_nonneg _ (by omega)) (.inl (Int.emod_lt_of_pos _ (by omega))) sy.updD ⟨ns', l' / k, m, t0, upd_same, by rw [upd_ne DL.symm]; exact hL, ns0, Int.ediv_nonneg l0 (by omega), m0, mb, t0', by omega⟩
    · refine ⟨_, rfl, D, _, rfl, dget_of hD (src_T ..), _, _, rfl, rfl, ?_⟩
      refine ⟨_, rfl, D, _, rfl, dput_T hD, ?_⟩
      have hD3 : (upd H' D (.dK (srcK L l' m (t0 + 1)))) D = some (.dK (srcK L l' m (t0 + 1))) := upd_same
      have src3 : Src D L (n + 1) (upd H' D (.dK (srcK L l' m (t0 + 1)))) := ⟨ns', l', m, t0 + 1, hD3, by rw [upd_ne DL.symm]; exact hL, ns0, l0, m0, mb, by omega, by omega⟩
      have sy3 := sy.updD (o := .dK (srcK L l' m (t0 + 1)))
      generalize upd H' D (.dK (srcK L l' m (t0 + 1))) = H3 at *
      refine ⟨_, rfl, D, _, rfl, dget_of hD3 (src_T ..), ?_⟩
      have b1 : (t0 + 1).natAbs.log2 ≤ 32 := log_lt (by omega)
      have m1 : CMulX (t0 + 1) 104729 := Nat.lt_of_le_of_lt (Nat.add_le_add_right b1 _) (by decide +kernel)
      refine ⟨_, rfl, D, _, rfl, dget_of hD3 (src_M ..), _, rfl, _, _, rfl, rfl, m1, _, _, rfl, rfl, .inl ⟨_, rfl, _, _, rfl, rfl, (by show (0 : Int) < 998244353; decide), ?_⟩⟩
      have x0 := Int.emod_nonneg (m + (t0 + 1) * 104729) (show (998244353 : Int) ≠ 0 by decide)
      have x1 := Int.emod_lt_of_pos (m + (t0 + 1) * 104729) (show (0 : Int) < 998244353 by decide)
      have b2 : ((m + (t0 + 1) * 104729) % 998244353).natAbs.log2 ≤ 32 := log_lt (by omega)
      have m2 : CMulX ((m + (t0 + 1) * 104729) % 998244353) ((m + (t0 + 1) * 104729) % 998244353) := Nat.lt_of_le_of_lt (Nat.add_le_add b2 b2) (by decide)
      have m3 : CMulX (t0 + 1) 17 := Nat.lt_of_le_of_lt (Nat.add_le_add_right b1 _) (by decide +kernel)
      refine ⟨_, rfl, _, rfl, _, _, rfl, rfl, m2, _, rfl, _, _, rfl, rfl, m3, _, _, rfl, rfl, .inl ⟨_, rfl, _, _, rfl, rfl, (by show (0 : Int) < 2147483647; decide), ?_⟩⟩
      refine ⟨_, rfl, _, _, rfl, rfl, ⟨by decide, by decide +kernel⟩, .inl ⟨_, rfl, _, rfl, _, _, rfl, rfl, by omega, ?_⟩⟩
      rw [ez]
      exact q _ _ (Int.emod_nonneg _ (by omega)) (.inl (Int.emod_lt_of_pos _ (by omega))) sy3 src3
  refine ⟨_, pss_cons (ps_if (pt_cmpR op_lt (pv 1) pe_int (nomark _)) (pss_one (ps_ret pe_int)) pss_nil)
    (pss_cons (ps_set (i := 2) sc_pick.nd rfl (Or.inl rfl) (pe_dget hu (pv 0) pe_str (fun _ _ => rfl)))
    (pss_cons (ps_while PassesOwn.never (PW.pt (pw_and (pt_cmpR op_lt (pe_dget hu (pv 0) pe_str (fun _ _ => rfl)) pe_int (nomark _))
          (pw_and1 (pt_cmpR op_gt (pe_callB call_len_seq (by rfl) T.n_len PySem.boot_len (pa_cons (pv 2) pa_nil)) pe_int (nomark _)))))
        (pss_one (ps_dput hu (pv 0) pe_str (pe_bm0 PySem.F.plainAttrs_list PySem.F.slot_list_pop PySem.F.type_list_pop mt_pop (pv 2)) rfl))) ht)), ?_⟩
  refine ⟨_, rfl, _, _, rfl, rfl, _, rfl, ?_⟩
  refine ite2 (fun e => ?_) (fun e => ?_)
  · exact q 0 H (by decide) (.inr ⟨rfl, of_decide_eq_true e⟩) .refl (src.up (Nat.le_succ _))
  have k2 : 2 ≤ k := by
    have : ¬ k < 2 := fun z => e (decide_eq_true z)
    omega
  obtain ⟨ns, l, m, t, hD, hL, ns0, l0, m0, mb, t0, tb⟩ := id src
  have DL : D ≠ L := fun z => by rw [z, hL] at hD; cases hD
  refine ⟨_, rfl, D, _, rfl, dget_of hD (src_C ..), ?_⟩
  -- the loop
  refine ⟨fun c σ' H' => ∃ (ns' : List Int) (l' : Int), c = ns'.length ∧ σ' = [some (.ref D), some (.int k), some (.ref L), none, none, none] ∧ H' D = some (.dK (srcK L l' m t)) ∧ H' L = some (.lst (ns'.map V.int)) ∧ (∀ z ∈ ns', 0 ≤ z) ∧ 0 ≤ l' ∧ SameY D L H H',
    ⟨_, ns, l, rfl, rfl, hD, hL, ns0, l0, .refl⟩, ?_⟩
  rintro c σ' H' ⟨ns', l', rfl, rfl, hD', hL', ns0', l0', sy⟩
  refine ⟨_, rfl, D, _, rfl, dget_of hD' (src_L ..), ?_⟩
  refine ⟨_, _, rfl, rfl, _, rfl, ?_⟩
  refine ite2 (fun e => ?_) (fun e => run H' ns' l' m t _ rfl k2 hD' hL' ns0' l0' m0 mb t0 tb sy)
  refine ⟨_, rfl, L, _, rfl, .inl (SqL.of hL'), _, _, rfl, rfl, _, rfl, ?_⟩
  refine ite2 (fun e => ?_) (fun e => run H' ns' l' m t _ rfl k2 hD' hL' ns0' l0' m0 mb t0 tb sy)
  have pos : 0 < ns'.length := by
    have := of_decide_eq_true e
    rw [List.length_map] at this
    omega
  refine ⟨_, fun σ5 H5 h5 => h5, ?_⟩
  refine ⟨_, rfl, .inl ⟨rfl, _, SqL.of hL'⟩, L, _, .int (ns'[ns'.length - 1]'(by omega)), rfl, rfl, hL', ?_, ?_⟩
  · rw [List.length_map, List.getElem?_map, List.getElem?_eq_getElem (by omega)]; rfl
  have hD2 : (upd H' L (.lst ((ns'.map V.int).dropLast))) D = some (.dK (srcK L l' m t)) := by rw [upd_ne DL]; exact hD'
  refine ⟨_, rfl, D, _, rfl, dput_L hD2, ?_⟩
  refine ⟨ns'.dropLast.length, by rw [List.length_dropLast]; omega, ns'.dropLast, _, rfl, rfl, upd_same, ?_, fun z m => ns0' z (List.dropLast_subset _ m), ns0' _ (List.getElem_mem _), sy.updL.updD⟩
  rw [upd_ne DL.symm, upd_same, List.map_dropLast]
end
end Wk

set_option Elab.async false
set_option linter.all false
set_option maxRecDepth 100000
/-! W41: _law_open_cells, _law_common, _law_place. -/
namespace Wk
open PySem L2 PySem.Spec PyProof.Rows
open Pz (Pt Ln)
section
variable {P : Program} {w : World} {K : PySem.W.Frag} {mg : Str → Option Value} {base : Heap}
theorem sc_open : FnScope ["_law_script", "_law_mixed", "_law_cell", "_law_digits"] ["_law_script"] (defScope (topS 65)) := ⟨rfl, rfl, rfl, by decide +kernel, rfl, by decide +kernel, by decide +kernel⟩
def sp_open (K : PySem.W.Frag) : Sp := fun vs H Q _ => ∃ (a : Addr) (ns : List Int), vs = [.ref a] ∧ SqL K H a (ns.map V.int) ∧ ns.length ≤ 63 ∧ (∀ z ∈ ns, z.natAbs.log2 ≤ 1048576) ∧ ∀ D L H', L2.Same H H' → Src D L 0 H' → Q (.ref D) H'
theorem merge4 (L : Addr) (l m t : Int) : mergeK [] (srcK L l m t) = srcK L l m t := by
  obtain ⟨⟨h1, h2, h3⟩, ⟨h4, h5⟩, h6⟩ := kne
  have e : ∀ (kvs : List (Key × V)) (k : Key) (v : V), valV kvs k = none → putK kvs k v = kvs ++ [(k, v)] := fun kvs k v h => by
    unfold putK
    rw [if_neg (by rw [valV_any, h]; decide)]
  unfold mergeK srcK
  simp only [List.foldl]
  rw [e [] kC _ rfl, e _ kL _ (by rw [List.nil_append, valV_neg h1]; rfl), e _ kM _ (by simp only [List.nil_append, List.cons_append]; rw [valV_neg h2, valV_neg h4]; rfl),
    e _ kT _ (by simp only [List.nil_append, List.cons_append]; rw [valV_neg h3, valV_neg h5, valV_neg h6]; rfl)]
  rfl
theorem ok_open (T : Tx K mg) : Has P w K mg base "_law_open_cells" 1 (sp_open K) := by
  refine has_of T._law_open_cells sc_open (fun _ _ _ _ _ _ us hl => match us, hl with | [_], _ => rfl) (fun _ _ _ _ ⟨_, _, e, _⟩ => by rw [e]; rfl) fun f cdv A outer s H vs Q E hr h => ?_
  obtain ⟨a, ns, rfl, hs, hl, hb, k⟩ := h
  refine ⟨_, pss_cons (ps_set (i := 1) sc_open.nd rfl (Or.inl rfl) pe_int)
    (pss_cons (ps_for PassesOwn.never rfl (pi_list (pv 0)) (pg_name (i := 2) sc_open.nd rfl (Or.inl rfl))
      (pss_one (ps_set (i := 1) sc_open.nd rfl (Or.inl rfl) (pe_op op_mod (pe_callTy call_int1 (by rfl) T.n_int (by decide +kernel) (pa_cons (pe_op op_add (pe_op op_add (pe_op op_mulX (pv 1) pe_int) (pe_op op_mulX (pv 2) pe_int)) pe_int) pa_nil)) pe_int))))
    (pss_cons (ps_setLc (i := 3) (own := [("_law_cell", 2)]) (g := gName 2) (tt := tYes) (by rfl) sc_open.nd rfl rfl (sw_true rfl rfl rfl (by decide +kernel)) (pi_list (pv 0))
      (blkOk_by (own := [("_law_cell", 2)]) (N := ["_law_script", "_law_mixed", "_law_cell", "_law_digits"]) (sc := defScope (topS 65)) (by decide +kernel))
      (fun _ _ _ _ _ => pg_name (i := 2) sc_open.nd rfl (Or.inl rfl)) (fun _ _ _ _ _ => pts_nil) (fun _ _ _ _ _ => pe_callB call_abs (by rfl) T.n_abs (by decide +kernel) (pa_cons (pv 2) pa_nil)))
    (pss_one (ps_ret (pe_disp (pps_cons pe_str (pe_revL (pv 3)) (pps_cons pe_str pe_int (pps_cons pe_str (pv 1) (pps_cons pe_str pe_int pps_nil)))) (by rfl) (by rfl) (by simp) (by decide)))))), ?_⟩
  have sz : sizeLine = 16777216 := rfl
  have ll : (ns.map V.int).length = ns.length := List.length_map ..
  refine ⟨_, rfl, a, rfl, ⟨_, hs⟩, ?_⟩
  refine for_list (K := K) (a := a) (xs := ns.map V.int) (fun i σ H2 => H2 = H ∧ ∃ (m : Int) (x : Option V), σ = [some (.ref a), some (.int m), x, none] ∧ 0 ≤ m ∧ m < 2 ^ 32) ⟨rfl, 11, none, rfl, by decide, by decide⟩ (fun i σ H2 _ ⟨e, _⟩ => e ▸ hs) ?_ ?_
  · rintro i y σ H2 hi ⟨rfl, m, x, rfl, m0, mb⟩
    obtain ⟨z, hz, rfl⟩ : ∃ z, ns[i]? = some z ∧ y = .int z := by
      rw [List.getElem?_map] at hi
      obtain ⟨z, h1, h2⟩ := Option.map_eq_some_iff.mp hi
      exact ⟨z, h1, h2.symm⟩
    have b1 : m.natAbs.log2 ≤ 32 := log_lt (by omega)
    have c1 : CMulX m 69069 := Nat.lt_of_le_of_lt (Nat.add_le_add_right b1 _) (by decide +kernel)
    have c2 : CMulX z 31 := Nat.lt_of_le_of_lt (Nat.add_le_add_right (hb z (List.mem_of_getElem? hz)) _) (by decide +kernel)
    refine ⟨_, rfl, _, _, rfl, rfl, c1, _, rfl, _, _, rfl, rfl, c2, _, _, rfl, rfl, _, _, rfl, rfl, .inl ⟨_, rfl, _, _, rfl, rfl, (by show (0 : Int) < 2147483629; decide), ?_⟩⟩
    refine ⟨rfl, _, _, rfl, Int.emod_nonneg _ (by decide), Int.lt_trans (Int.emod_lt_of_pos _ (by decide)) (by decide)⟩
  · rintro σ H2 ⟨rfl, m, x, rfl, m0, mb⟩
    refine ⟨_, rfl, a, rfl, ⟨_, hs⟩, fun d hd => ?_⟩
    have pr : Paired (rI H2) (ns.map V.int) ns := by
      clear hs hl hb k ll
      induction ns with
      | nil => exact .nil
      | cons z ns ih => exact .cons rfl ih
    refine lcL (r := rI) (q := rI) (xs := ns) (f := fun z : Int => some (if z < 0 then -z else z)) mI tI hs pr hd (by omega) ?_ ?_
    · intro v z H4 C C0 mz s4 rv c1 c0
      obtain rfl : v = .int z := rv
      exact ⟨rfl, _, rfl, z, rfl, c1 _ _ _ (.refl _) rfl rfl⟩
    intro H4 ys s4 hy py
    have ey : ys = (ns.map fun z => if z < 0 then -z else z).map V.int := by
      rw [show (ns.filterMap fun z : Int => some (if z < 0 then -z else z)) = ns.map fun z => if z < 0 then -z else z by rw [List.filterMap_eq_map']] at py
      generalize (ns.map fun z : Int => if z < 0 then -z else z) = bs at py
      clear hy
      induction py with
      | nil => rfl
      | cons r _ ih => rw [ih, List.map_cons, r]
    subst ey
    intro D hD
    have s5 : L2.Same H4 (upd H4 D (.dK [])) := same_new hD
    have e5 : (upd H4 D (.dK [])) D = some (.dK []) := upd_same
    have f5 : ∀ o, L2.Same H4 (upd (upd H4 D (.dK [])) D o) := fun o => same_at s5 hD
    have hy5 := s5 _ _ hy
    generalize upd H4 D (.dK []) = H5 at *
    refine ⟨_, rfl, d, _, rfl, SqL.of hy5, fun L hL => ?_⟩
    have eL : (upd H5 L (.lst ((ns.map fun z => if z < 0 then -z else z).map V.int).reverse)) L = some (.lst (((ns.map fun z => if z < 0 then -z else z).reverse).map V.int)) := by rw [upd_same, List.map_reverse]
    have LD : L ≠ D := fun q => by rw [q, e5] at hL; cases hL
    refine ⟨_, rfl, by rw [upd_ne LD.symm]; exact e5, srcK L 1 m 0, rfl, by show 4 ≤ 15; decide, ?_⟩
    rw [merge4]
    refine k D L _ (fun b o e => ?_) ⟨_, 1, m, 0, upd_same, by rw [upd_ne LD]; exact eL, fun z mz => ?_, by decide, m0, mb, by decide, by decide⟩
    · have b1 : b ≠ D := fun q => by have z := s4 _ _ e; rw [q, hD] at z; exact nomatch z
      have b2 := s5 _ _ (s4 _ _ e)
      have b3 : b ≠ L := fun q => by rw [q, hL] at b2; exact nomatch b2
      rw [upd_ne b1, upd_ne b3]
      exact b2
    · rw [List.mem_reverse] at mz
      obtain ⟨x, _, rfl⟩ := List.mem_map.mp mz
      show 0 ≤ (if x < 0 then -x else x)
      split <;> omega
theorem sc_gcd : FnScope ["_law_a", "_law_b"] ["_law_a", "_law_b"] (defScope (topS 68)) := ⟨rfl, rfl, rfl, by decide +kernel, rfl, by decide +kernel, by decide +kernel⟩
def sp_gcd : Sp := sp2 rI rI (fun _ _ => True) rI fun a b => (Int.gcd a b : Int)
theorem abs_cast (a : Int) : (if a < 0 then -a else a) = ((a.natAbs : Nat) : Int) := by split <;> omega
theorem ok_gcd (T : Tx K mg) : Has P w K mg base "_law_common" 1 sp_gcd := by
  refine has_of T._law_common sc_gcd (fun _ _ _ _ _ _ us hl => match us, hl with | [_, _], _ => rfl) sp2_len fun f cdv A outer s H vs Q E hr h => ?_
  obtain ⟨v1, v2, a, b, rfl, rfl, rfl, _, k⟩ := h
  refine ⟨_, pss_cons (ps_par (i := 0) (j := 1) (by rfl) sc_gcd.nd rfl rfl (by decide) rfl rfl (pa_cons (pe_callB call_abs (by rfl) T.n_abs (by decide +kernel) (pa_cons (pv 0) pa_nil)) (pa_cons (pe_callB call_abs (by rfl) T.n_abs (by decide +kernel) (pa_cons (pv 1) pa_nil)) pa_nil)) (by rfl))
    (pss_cons (ps_while PassesOwn.never (pt_cmpR op_ne (pv 1) pe_int (nomark _))
        (pss_one (ps_par (i := 0) (j := 1) (by rfl) sc_gcd.nd rfl rfl (by decide) rfl rfl (pa_cons (pv 1) (pa_cons (pe_op op_mod (pv 0) (pv 1)) pa_nil)) (by rfl))))
    (pss_one (ps_ret (pv 0)))), ?_⟩
  refine ⟨_, rfl, a, rfl, _, rfl, b, rfl, _, _, rfl, ?_⟩
  refine ⟨fun m σ H2 => H2 = H ∧ ∃ x y : Nat, m = y ∧ σ = [some (.int (x : Int)), some (.int (y : Int))] ∧ Nat.gcd x y = Int.gcd a b, ⟨_, rfl, a.natAbs, b.natAbs, rfl, by
      show [some (V.int (if a < 0 then -a else a)), some (V.int (if b < 0 then -b else b))] = _
      rw [abs_cast, abs_cast], rfl⟩, ?_⟩
  rintro y σ H2 ⟨rfl, x, _, rfl, rfl, g⟩
  refine ⟨_, rfl, rfl, _, rfl, ?_⟩
  by_cases y0 : y = 0
  · subst y0
    rw [decide_eq_true (show V.int ((0 : Nat) : Int) = V.int 0 from rfl)]
    refine ⟨_, rfl, k _ _ (.refl _) ?_⟩
    show V.int (x : Int) = V.int (Int.gcd a b : Int)
    rw [← g, Nat.gcd_zero_right]
  · rw [decide_eq_false (show ¬ V.int (y : Int) = V.int 0 from fun z => y0 (by injection z with z; omega))]
    refine ⟨_, fun σ5 H5 h5 => h5, ?_⟩
    refine ⟨_, rfl, _, rfl, _, rfl, _, _, rfl, rfl, (by show (0 : Int) < (y : Int); omega), _, _, rfl, ?_⟩
    refine ⟨x % y, Nat.mod_lt _ (by omega), rfl, y, x % y, rfl, ?_, ?_⟩
    · show [some (V.int (y : Int)), some (V.int ((x : Int) % (y : Int)))] = _
      rw [Int.natCast_emod]
    · rw [← g, Nat.gcd_comm x y, Nat.gcd_rec y x, Nat.gcd_comm]
theorem sc_lplace : FnScope ["_law_x", "_law_y", "_law_d", "_law_n"] ["_law_x", "_law_y", "_law_d"] (defScope (topS 69)) := ⟨rfl, rfl, rfl, by decide +kernel, rfl, by decide +kernel, by decide +kernel⟩
theorem ok_lplace (T : Tx K mg) : Has P w K mg base "_law_place" 2 sp_place := by
  have G1 : Has P w K mg base "_law_common" 1 sp_gcd := ok_gcd T
  refine has_of T._law_place sc_lplace (fun _ _ _ _ _ _ us hl => match us, hl with | [_, _, _], _ => rfl) sp3_len fun f cdv A outer s H vs Q E hr h => ?_
  obtain ⟨v1, v2, v3, x, y, d, rfl, rfl, rfl, rfl, ⟨d0, db⟩, k⟩ := h
  refine ⟨_, pss_cons (ps_set (i := 3) sc_lplace.nd rfl (Or.inl rfl) (pe_op op_mulX (pe_has G1 hr (by rfl) (pa_cons (pe_has G1 hr (by rfl) (pa_cons (pv 0) (pa_cons (pv 1) pa_nil))) (pa_cons (pv 2) pa_nil)))
      (pe_ifExp (pt_cmpR op_gt (pv 2) pe_int (nomark _)) pe_int (pe_op op_sub pe_int pe_int))))
    (pss_one (ps_ret (pe_tup (pa_cons (pe_op op_fdivZ (pv 0) (pv 3)) (pa_cons (pe_op op_fdivZ (pv 1) (pv 3)) (pa_cons (pe_op op_fdivZ (pv 2) (pv 3)) pa_nil)))))), ?_⟩
  refine ⟨_, rfl, _, rfl, _, _, x, y, rfl, rfl, rfl, trivial, fun u1 H1 s1 r1 => ?_⟩
  obtain rfl : u1 = .int (Int.gcd x y : Int) := r1
  refine ⟨_, rfl, _, _, _, d, rfl, rfl, rfl, trivial, fun u2 H2 s2 r2 => ?_⟩
  obtain rfl : u2 = .int (Int.gcd (Int.gcd x y) d : Int) := r2
  have s12 := s1.trans s2
  have gl : Int.gcd (Int.gcd x y) d ≤ d.natAbs := gcd_le d0
  have lg : ((Int.gcd (Int.gcd x y) d : Nat) : Int).natAbs.log2 ≤ 8000 := log_lt (n := 8000) (by rw [Int.natAbs_natCast]; exact Nat.lt_of_le_of_lt gl db)
  refine ⟨_, rfl, _, _, rfl, rfl, _, rfl, ?_⟩
  refine ite2 (fun e => ?_) (fun e => ?_)
  · have dp : 0 < d := of_decide_eq_true e
    obtain ⟨g1, g2, g3, g4⟩ := place_div (x := x) (y := y) (g := (Int.gcd (Int.gcd x y) d : Int) * 1) d0 db (by rw [if_pos dp, Int.mul_one])
    refine ⟨_, _, rfl, rfl, Nat.lt_of_le_of_lt (Nat.add_le_add_right lg _) (by decide +kernel), ?_⟩
    refine ⟨_, rfl, _, rfl, _, _, rfl, rfl, g1, _, rfl, _, rfl, _, _, rfl, rfl, g1, _, rfl, _, rfl, _, _, rfl, rfl, g1, by show 3 ≤ sizeLine; decide, fun p hp => ?_⟩
    exact k _ _ (same_new' s12 hp) ⟨p, rfl, by rw [← g2, ← g3, ← g4]; exact upd_same⟩
  · have dp : ¬ 0 < d := fun z => e (decide_eq_true z)
    obtain ⟨g1, g2, g3, g4⟩ := place_div (x := x) (y := y) (g := (Int.gcd (Int.gcd x y) d : Int) * (0 - 1)) d0 db (by rw [if_neg dp]; omega)
    refine ⟨_, _, rfl, rfl, _, _, rfl, rfl, Nat.lt_of_le_of_lt (Nat.add_le_add_right lg _) (by decide +kernel), ?_⟩
    refine ⟨_, rfl, _, rfl, _, _, rfl, rfl, g1, _, rfl, _, rfl, _, _, rfl, rfl, g1, _, rfl, _, rfl, _, _, rfl, rfl, g1, by show 3 ≤ sizeLine; decide, fun p hp => ?_⟩
    exact k _ _ (same_new' s12 hp) ⟨p, rfl, by rw [← g2, ← g3, ← g4]; exact upd_same⟩
theorem sc_lfirst : FnScope ["_law_p", "_law_q"] ["_law_p", "_law_q"] (defScope (topS 70)) := ⟨rfl, rfl, rfl, by decide +kernel, rfl, by decide +kernel, by decide +kernel⟩
theorem ok_lfirst (T : Tx K mg) : Has P w K mg base "_law_first" 1 sp_first := by
  refine has_of T._law_first sc_lfirst (fun _ _ _ _ _ _ us hl => match us, hl with | [_, _], _ => rfl) sp2_len fun f cdv A outer s H vs Q E hr h => ?_
  obtain ⟨v1, v2, p, q, rfl, hp, hq, ⟨⟨⟨px, py, pd⟩, p0⟩, ⟨qx, qy, qd⟩, q0⟩, k⟩ := h
  refine ⟨_, pss_cons (ps_if (pt_cmpR op_ne (pe_op op_mulW (pX 0) (pD 1)) (pe_op op_mulW (pX 1) (pD 0)) (nomark _))
        (pss_one (ps_ret (pe_cmpR op_lt (pe_op op_mulW (pX 0) (pD 1)) (pe_op op_mulW (pX 1) (pD 0)) (nomark _)))) pss_nil)
    (pss_one (ps_ret (pe_cmpR op_lt (pe_op op_mulW (pY 0) (pD 1)) (pe_op op_mulW (pY 1) (pD 0)) (nomark _)))), ?_⟩
  have lt : Pz.Lt p q ↔ p.x * q.d < q.x * p.d ∨ (p.x * q.d = q.x * p.d ∧ p.y * q.d < q.y * p.d) := by unfold Pz.Lt Pz.dX Pz.dY; omega
  refine ⟨_, _, rfl, hp, _, _, rfl, hq, _, _, rfl, rfl, mulS px qd, _, _, rfl, hq, _, _, rfl, hp, _, _, rfl, rfl, mulS qx pd, rfl, _, rfl, ?_⟩
  by_cases e : p.x * q.d = q.x * p.d
  · rw [decide_eq_true (show V.int (p.x * q.d) = V.int (q.x * p.d) by rw [e])]
    refine ⟨_, _, rfl, hp, _, _, rfl, hq, _, _, rfl, rfl, mulS py qd, _, _, rfl, hq, _, _, rfl, hp, _, _, rfl, rfl, mulS qy pd, _, _, rfl, rfl, k _ _ (.refl _) ?_⟩
    show V.bl _ = V.bl _
    congr 1
    exact decide_eq_decide.mpr (by rw [lt]; omega)
  · rw [decide_eq_false (show ¬ V.int (p.x * q.d) = V.int (q.x * p.d) from fun z => e (by injection z))]
    refine ⟨_, _, rfl, hp, _, _, rfl, hq, _, _, rfl, rfl, mulS px qd, _, _, rfl, hq, _, _, rfl, hp, _, _, rfl, rfl, mulS qx pd, _, _, rfl, rfl, k _ _ (.refl _) ?_⟩
    show V.bl _ = V.bl _
    congr 1
    exact decide_eq_decide.mpr (by rw [lt]; omega)
end
end Wk

set_option Elab.async false
set_option linter.all false
set_option maxRecDepth 100000
/-! W42: _law_step, _law_turn, _law_places. -/
namespace Wk
open PySem L2 PySem.Spec PyProof.Rows
open Pz (Pt Ln)
theorem step_det (p q r : Pt) : Pz.dX p q * Pz.dY p r - Pz.dY p q * Pz.dX p r = p.d * Pz.det p q r := by
  simp only [Pz.dX, Pz.dY, Pz.det]; grind
/-- the new place behind those that come ahead of it -/
theorem asc_in {S : List Pt} {p : Pt} (ha : Pz.Asc S) (hc : ∀ q ∈ S, Pz.Can q) (hp : Pz.Can p) (n : p ∉ S) :
    Pz.Asc ((S.filter fun q => decide (Pz.Lt q p)) ++ [p] ++ S.drop (S.filter fun q => decide (Pz.Lt q p)).length) := by
  induction S with
  | nil => exact List.pairwise_singleton _ _
  | cons s S ih =>
    obtain ⟨h1, h2⟩ := List.pairwise_cons.mp ha
    have cs := hc s (by simp)
    have cS : ∀ q ∈ S, Pz.Can q := fun q m => hc q (List.mem_cons_of_mem _ m)
    by_cases l : Pz.Lt s p
    · rw [List.filter_cons_of_pos (by simpa using l)]
      have := ih h2 cS fun m => n (List.mem_cons_of_mem _ m)
      simp only [List.cons_append, List.length_cons, List.drop_succ_cons]
      refine List.pairwise_cons.mpr ⟨fun x m => ?_, this⟩
      rcases List.mem_append.mp m with m | m
      · rcases List.mem_append.mp m with m | m
        · exact h1 x (List.mem_filter.mp m).1
        · rw [List.mem_singleton.mp m]; exact l
      · exact h1 x (List.mem_of_mem_drop m)
    · have lp : Pz.Lt p s := by
        rcases Pz.Lt.total hp cs with k | k | k
        · exact k
        · exact absurd (k ▸ List.mem_cons_self) n
        · exact absurd k l
      have none : (s :: S).filter (fun q => decide (Pz.Lt q p)) = [] := by
        refine List.filter_eq_nil_iff.mpr fun x m => ?_
        intro z
        have z := of_decide_eq_true z
        rcases List.mem_cons.mp m with e | m
        · rw [e] at z; exact l z
        · exact l (Pz.Lt.trans cs.pos (cS x m).pos hp.pos (h1 x m) z)
      rw [none]
      simp only [List.nil_append, List.length_nil, List.drop_zero, List.cons_append]
      refine List.pairwise_cons.mpr ⟨fun x m => ?_, ha⟩
      rcases List.mem_cons.mp m with e | m
      · rw [e]; exact lp
      · exact Pz.Lt.trans hp.pos cs.pos (cS x m).pos lp (h1 x m)
theorem filter_take {S : List Pt} {p : Pt} (ha : Pz.Asc S) (hc : ∀ q ∈ S, Pz.Can q) (hp : Pz.Can p) : (S.filter fun q => decide (Pz.Lt q p)) = S.take (S.filter fun q => decide (Pz.Lt q p)).length := by
  induction S with
  | nil => rfl
  | cons s S ih =>
    obtain ⟨h1, h2⟩ := List.pairwise_cons.mp ha
    have cs := hc s (by simp)
    have cS : ∀ q ∈ S, Pz.Can q := fun q m => hc q (List.mem_cons_of_mem _ m)
    by_cases l : Pz.Lt s p
    · rw [List.filter_cons_of_pos (by simpa using l), List.length_cons, List.take_succ_cons, ← ih h2 cS]
    · have none : (s :: S).filter (fun q => decide (Pz.Lt q p)) = [] := by
        refine List.filter_eq_nil_iff.mpr fun x m => ?_
        intro z
        have z := of_decide_eq_true z
        rcases List.mem_cons.mp m with e | m
        · rw [e] at z; exact l z
        · exact l (Pz.Lt.trans cs.pos (cS x m).pos hp.pos (h1 x m) z)
      rw [none]; rfl
theorem mem_in {S : List Pt} {p x : Pt} (ha : Pz.Asc S) (hc : ∀ q ∈ S, Pz.Can q) (hp : Pz.Can p) : x ∈ (S.filter fun q => decide (Pz.Lt q p)) ++ [p] ++ S.drop (S.filter fun q => decide (Pz.Lt q p)).length ↔ x = p ∨ x ∈ S := by
  have e := filter_take ha hc hp
  have : x ∈ S ↔ x ∈ S.take (S.filter fun q => decide (Pz.Lt q p)).length ∨ x ∈ S.drop (S.filter fun q => decide (Pz.Lt q p)).length := by
    rw [← List.mem_append, List.take_append_drop]
  rw [this, ← e]
  simp only [List.mem_append, List.mem_singleton]
  constructor
  · rintro ((h | h) | h)
    · exact .inr (.inl h)
    · exact .inl h
    · exact .inr (.inr h)
  · rintro (h | h | h)
    · exact .inl (.inr h)
    · exact .inl (.inl h)
    · exact .inr h
section
variable {P : Program} {w : World} {K : PySem.W.Frag} {mg : Str → Option Value} {base : Heap}
theorem sc_lstep : FnScope ["_law_p", "_law_q"] ["_law_p", "_law_q"] (defScope (topS 72)) := ⟨rfl, rfl, rfl, by decide +kernel, rfl, by decide +kernel, by decide +kernel⟩
def sp_lstep : Sp := sp2 rP rP (fun p q => Sm p ∧ Sm q) rU fun p q => (Pz.dX p q, Pz.dY p q)
theorem ok_lstep (T : Tx K mg) : Has P w K mg base "_law_step" 1 sp_lstep := by
  refine has_of T._law_step sc_lstep (fun _ _ _ _ _ _ us hl => match us, hl with | [_, _], _ => rfl) sp2_len fun f cdv A outer s H vs Q E hr h => ?_
  obtain ⟨v1, v2, p, q, rfl, hp, hq, ⟨⟨⟨px, py, pd⟩, p0⟩, ⟨qx, qy, qd⟩, q0⟩, k⟩ := h
  refine ⟨_, pss_one (ps_ret (pe_tup (pa_cons (pe_op op_sub (pe_op op_mulW (pX 1) (pD 0)) (pe_op op_mulW (pX 0) (pD 1))) (pa_cons (pe_op op_sub (pe_op op_mulW (pY 1) (pD 0)) (pe_op op_mulW (pY 0) (pD 1))) pa_nil)))), ?_⟩
  refine ⟨_, _, rfl, hq, _, _, rfl, hp, _, _, rfl, rfl, mulS qx pd, _, _, rfl, hp, _, _, rfl, hq, _, _, rfl, rfl, mulS px qd, _, _, rfl, rfl, ?_⟩
  refine ⟨_, _, rfl, hq, _, _, rfl, hp, _, _, rfl, rfl, mulS qy pd, _, _, rfl, hp, _, _, rfl, hq, _, _, rfl, rfl, mulS py qd, _, _, rfl, rfl, by show 2 ≤ sizeLine; decide, fun t ht => ?_⟩
  exact k _ _ (same_new ht) ⟨t, rfl, upd_same⟩
theorem sc_lturn : FnScope ["_law_p", "_law_q", "_law_r", "_law_one", "_law_other", "_law_n"] ["_law_p", "_law_q", "_law_r"] (defScope (topS 73)) := ⟨rfl, rfl, rfl, by decide +kernel, rfl, by decide +kernel, by decide +kernel⟩
theorem d_sz {p q : Pt} (hp : Sm p) (hq : Sm q) : (Pz.dX p q).natAbs ≤ LIM * LIM + LIM * LIM ∧ (Pz.dY p q).natAbs ≤ LIM * LIM + LIM * LIM := by
  obtain ⟨⟨px, py, pd⟩, _⟩ := hp
  obtain ⟨⟨qx, qy, qd⟩, _⟩ := hq
  exact ⟨Pz.abs_sub (lim_mul qx pd) (lim_mul px qd), Pz.abs_sub (lim_mul qy pd) (lim_mul py qd)⟩
theorem ok_lturn (T : Tx K mg) : Has P w K mg base "_law_turn" 2 sp_turn := by
  have G1 : Has P w K mg base "_law_step" 1 sp_lstep := ok_lstep T
  refine has_of T._law_turn sc_lturn (fun _ _ _ _ _ _ us hl => match us, hl with | [_, _, _], _ => rfl) sp3_len fun f cdv A outer s H vs Q E hr h => ?_
  obtain ⟨v1, v2, v3, p, q, r, rfl, hp, hq, hr', ⟨sp, sq, sr⟩, k⟩ := h
  refine ⟨_, pss_cons (ps_par (i := 3) (j := 4) (by rfl) sc_lturn.nd rfl rfl (by decide) rfl rfl (pa_cons (pe_has G1 hr (by rfl) (pa_cons (pv 0) (pa_cons (pv 1) pa_nil))) (pa_cons (pe_has G1 hr (by rfl) (pa_cons (pv 0) (pa_cons (pv 2) pa_nil))) pa_nil)) (by rfl))
    (pss_cons (ps_set (i := 5) sc_lturn.nd rfl (Or.inl rfl) (pe_op op_sub (pe_op op_mulW (pU0 3) (pU1 4)) (pe_op op_mulW (pU1 3) (pU0 4))))
    (pss_one (ps_ret (pe_op op_sub (pe_callTy call_int1 (by rfl) T.n_int (by decide +kernel) (pa_cons (pe_cmpR op_gt (pv 5) pe_int (nomark _)) pa_nil)) (pe_callTy call_int1 (by rfl) T.n_int (by decide +kernel) (pa_cons (pe_cmpR op_lt (pv 5) pe_int (nomark _)) pa_nil)))))), ?_⟩
  refine ⟨_, rfl, _, rfl, _, _, _, _, rfl, hp, hq, ⟨sp, sq⟩, fun u1 H1 s1 r1 => ?_⟩
  refine ⟨_, rfl, _, rfl, _, _, _, _, rfl, mP _ _ _ _ s1 hp, mP _ _ _ _ s1 hr', ⟨sp, sr⟩, fun u2 H2 s2 r2 => ⟨_, _, rfl, ?_⟩⟩
  have r1 := mU _ _ _ _ s2 r1
  obtain ⟨ax, ay⟩ := d_sz sp sq
  obtain ⟨bx, by'⟩ := d_sz sp sr
  refine ⟨_, _, rfl, r1, _, _, rfl, r2, _, _, rfl, rfl, mulB ax by', _, _, rfl, r1, _, _, rfl, r2, _, _, rfl, rfl, mulB ay bx, _, _, rfl, rfl, ?_⟩
  refine ⟨_, rfl, _, _, rfl, rfl, .inr ⟨_, rfl, _, rfl, _, _, rfl, rfl, .inr ⟨_, rfl, _, _, rfl, rfl, ?_⟩⟩⟩
  refine k _ _ (s1.trans s2) ?_
  have e : turnM p q r = sgn (Pz.dX p q * Pz.dY p r - Pz.dY p q * Pz.dX p r) := by rw [step_det, sgn_scale sp.2]; rfl
  show V.int _ = V.int _
  rw [e]
  rfl
theorem sc_lplaces : FnScope ["_law_places_here", "_law_found", "_law_p", "_law_ahead", "_law_q"] ["_law_places_here"] (defScope (topS 71)) := ⟨rfl, rfl, rfl, by decide +kernel, rfl, by decide +kernel, by decide +kernel⟩
def sp_lplaces : Sp := sp1 (rL rP) Let (rL rP) Pz.sortP
theorem any_eqv (S : List Pt) (p : Pt) : ((S.map dP).any fun z => PyData.eqv z (dP p)) = decide (p ∈ S) := by
  induction S with
  | nil => simp
  | cons s S ih =>
    rw [List.map_cons, List.any_cons, ih, eqv_P]
    by_cases e : s = p
    · subst e; simp
    · rw [decide_eq_false e, Bool.false_or]
      exact decide_eq_decide.mpr (by rw [List.mem_cons]; exact ⟨.inr, fun z => z.resolve_left fun q => e q.symm⟩)
theorem ok_lplaces (T : Tx K mg) : Has P w K mg base "_law_places" 2 sp_lplaces := by
  have G1 : Has P w K mg base "_law_first" 1 sp_first := ok_lfirst T
  refine has_of T._law_places sc_lplaces (fun _ _ _ _ _ _ us hl => match us, hl with | [_], _ => rfl) sp1_len fun f cdv A outer s H vs Q E hr h => ?_
  obtain ⟨v, L, rfl, ⟨a, vs, rfl, ha, pa⟩, ⟨lL, nL⟩, k⟩ := h
  have hu : (A.deeper (envOfC "_law_places" (defScope (topS 71)) s.heap.objs.size f cdv)).units + 65 < cLine := by have := hr.un; omega
  refine ⟨_, pss_cons (ps_set (i := 1) sc_lplaces.nd rfl (Or.inl rfl) (pe_lst pa_nil))
    (pss_cons (ps_for PassesOwn.never rfl (pi_list (pv 0)) (pg_name (i := 2) sc_lplaces.nd rfl (Or.inr rfl))
      (pss_one (ps_if (pt_cmpR (op_notInD hu) (pv 2) (pv 1) (by rfl))
        (pss_cons (ps_setLc (i := 3) (own := [("_law_q", 4)]) (g := gName 4) (by rfl) sc_lplaces.nd rfl rfl (sw_true rfl rfl rfl (by decide +kernel)) (pi_list (pv 1))
            (blkOk_by (own := [("_law_q", 4)]) (N := ["_law_places_here", "_law_found", "_law_p", "_law_ahead", "_law_q"]) (sc := defScope (topS 71)) (by decide +kernel))
            (fun _ _ _ _ _ => pg_name (i := 4) sc_lplaces.nd rfl (Or.inl rfl)) (fun _ _ _ _ _ => pts_one (pt_val (pe_has G1 hr (by rfl) (pa_cons (pv 4) (pa_cons (pv 2) pa_nil))))) (fun _ _ _ _ _ => pv 4))
        (pss_one (ps_set (i := 1) sc_lplaces.nd rfl (Or.inl rfl) (pe_op op_cat (pe_op op_cat (pv 3) (pe_lst (pa_cons (pv 2) pa_nil)))
            (pe_slice sl_list (pv 1) (po_some (pe_callB call_len_seq (by rfl) T.n_len PySem.boot_len (pa_cons (pv 3) pa_nil))) po_none))))) pss_nil)))
    (pss_one (ps_ret (pv 1)))), ?_⟩
  have sz : sizeLine = 16777216 := rfl
  have many : MANY = 300 := rfl
  have la := Paired.len pa
  refine ⟨by show 0 ≤ sizeLine; decide, fun d hd => ?_⟩
  have s0 : L2.Same H (upd H d (.lst [])) := same_new hd
  refine ⟨_, rfl, a, rfl, ⟨_, SqL.of (s0 _ _ ha)⟩, ?_⟩
  refine for_list (K := K) (a := a) (xs := vs) (fun i σ H2 => ∃ (b : Addr) (xp xa : Option L2.V) (fs : List L2.V) (S : List Pt), σ = [some (.ref a), some (.ref b), xp, xa, none] ∧ L2.Same H H2 ∧ H2 b = some (.lst fs) ∧ Paired (rP H2) fs S ∧ Pz.Asc S ∧ (∀ x, x ∈ S ↔ x ∈ L.take i) ∧ S.length ≤ i)
    ⟨d, none, none, [], [], rfl, s0, upd_same, .nil, List.Pairwise.nil, fun x => by simp, Nat.zero_le _⟩ (fun i σ H2 _ ⟨_, _, _, _, _, _, s2, _⟩ => SqL.of (s2 _ _ ha)) ?_ ?_
  · rintro i y σ H2 hi ⟨b, xp, xa, fs, S, rfl, s2, hb, pb, asc, mem, lS⟩
    obtain ⟨p, hp, ry0⟩ := Paired.get pa hi
    have ry := mP _ _ _ _ s2 ry0
    have iL : i < L.length := (List.getElem?_eq_some_iff.mp hp).1
    have mp := lL p (List.mem_of_getElem? hp)
    have tk : L.take (i + 1) = L.take i ++ [p] := by rw [List.take_add_one, hp]; rfl
    have cS : ∀ q ∈ S, Pz.Can q ∧ Sm q := fun q m => lL q (List.mem_of_mem_take ((mem q).mp m))
    have lf := Paired.len pb
    refine ⟨_, rfl, _, rfl, dP p, S.map dP, dp_P ry, .lst (SqL.of hb) (dp_Ps pb), shaped_P _, shaped_L _, _, rfl, ?_⟩
    rw [any_eqv]
    by_cases m : p ∈ S
    · rw [decide_eq_true m]
      refine ⟨b, _, _, fs, S, rfl, s2, hb, pb, asc, fun x => ?_, by omega⟩
      rw [tk, List.mem_append, ← mem x, List.mem_singleton]
      exact ⟨.inl, fun z => z.elim id fun e => e ▸ m⟩
    · rw [decide_eq_false m]
      refine ⟨_, rfl, b, rfl, ⟨_, SqL.of hb⟩, fun D hD => ?_⟩
      refine lcL (r := rP) (q := rP) (xs := S) (f := fun q => if decide (Pz.Lt q p) = true then some q else none) mP tP (SqL.of hb) pb hD (by omega) ?_ ?_
      · intro x q H4 C C0 mq s4 rv c1 c0
        refine ⟨rfl, _, rfl, _, rfl, _, _, q, p, rfl, rv, mP _ _ _ _ s4 ry, ⟨(cS q mq).2, mp.2⟩, fun u5 H5 s5 r5 => ⟨_, r5, ?_⟩⟩
        show (if decide (Pz.Lt q p) = true then _ else _)
        by_cases l : decide (Pz.Lt q p) = true
        · rw [if_pos l]
          exact ⟨_, rfl, c1 _ _ q s5 (if_pos l) (mP _ _ _ _ s5 rv)⟩
        · rw [if_neg l]
          exact c0 _ s5 (if_neg l)
      intro H4 zs s4 hz pz
      rw [show S.filterMap (fun q => if decide (Pz.Lt q p) = true then some q else none) = S.filter fun q => decide (Pz.Lt q p) by rw [← List.filterMap_eq_filter]; rfl] at pz
      have lz := Paired.len pz
      have lfl := List.length_filter_le (fun q => decide (Pz.Lt q p)) S
      refine ⟨_, rfl, _, rfl, by show 1 ≤ sizeLine; decide, fun t1 ht1 => ?_⟩
      have s5 := same_new (o := .lst [y]) ht1
      refine ⟨D, t1, _, _, rfl, rfl, s5 _ _ hz, upd_same, by simp; omega, fun t2 ht2 => ?_⟩
      have s6 := same_new (o := .lst (zs ++ [y])) ht2
      have s46 := s4.trans (s5.trans s6)
      have s56 := s5.trans s6
      have e6 : (upd (upd H4 t1 (.lst [y])) t2 (.lst (zs ++ [y]))) t2 = some (.lst (zs ++ [y])) := upd_same
      generalize upd (upd H4 t1 (.lst [y])) t2 (.lst (zs ++ [y])) = H6 at *
      refine ⟨_, rfl, _, rfl, D, zs, rfl, .inl (SqL.of (s56 _ _ hz)), ?_⟩
      refine ⟨_, rfl, b, fs, rfl, SqL.of (s46 _ _ hb), fun t3 ht3 => ?_⟩
      have s7 := same_new (o := .lst (cutV fs (some (zs.length : Int)) none)) ht3
      have e7 : (upd H6 t3 (.lst (cutV fs (some (zs.length : Int)) none))) t3 = some (.lst (fs.drop zs.length)) := by rw [cut_drop]; exact upd_same
      refine ⟨t2, t3, _, _, rfl, rfl, s7 _ _ e6, e7, by simp; omega, fun t4 ht4 => ?_⟩
      have s8 := same_new (o := .lst (zs ++ [y] ++ fs.drop zs.length)) ht4
      have s78 := s7.trans s8
      have cS' : ∀ q ∈ S, Pz.Can q := fun q m => (cS q m).1
      refine ⟨t4, _, _, _, _, rfl, s2.trans (s46.trans s78), upd_same, ?_, asc_in asc cS' mp.1 m, fun x => ?_, ?_⟩
      · have pd := Paired.drop' zs.length (Paired.imp pb fun _ _ r => mP _ _ _ _ (s46.trans s78) r)
        rw [show S.drop (S.filter fun q => decide (Pz.Lt q p)).length = S.drop zs.length by rw [lz]]
        exact Paired.append (Paired.append (Paired.imp pz fun _ _ r => mP _ _ _ _ (s56.trans s78) r) (.cons (mP _ _ _ _ ((s4.trans s56).trans s78) ry) .nil)) pd
      · rw [mem_in asc cS' mp.1, tk, List.mem_append, ← mem x, List.mem_singleton]
        exact ⟨fun z => z.elim .inr .inl, fun z => z.elim .inr .inl⟩
      · simp; omega
  · rintro σ H2 ⟨b, xp, xa, fs, S, rfl, s2, hb, pb, asc, mem, lS⟩
    rw [la, List.take_length] at mem
    refine ⟨_, rfl, k _ _ s2 ⟨b, fs, rfl, hb, ?_⟩⟩
    rw [← Pz.asc_uniq (fun p m => (lL p m).1) asc mem]
    exact pb
end
end Wk

set_option Elab.async false
set_option linter.all false
set_option maxRecDepth 100000
/-! W43: _law_chain, _law_hull. -/
namespace Wk
open PySem L2 PySem.Spec PyProof.Rows
open Pz (Pt Ln)
theorem sgn_lt1 {z : Int} : sgn z < 1 ↔ z ≤ 0 := by rw [← sgn_nonpos]; omega
section
variable {P : Program} {w : World} {K : PySem.W.Frag} {mg : Str → Option Value} {base : Heap}
theorem sc_lchain : FnScope ["_law_places_here", "_law_found", "_law_p"] ["_law_places_here"] (defScope (topS 74)) := ⟨rfl, rfl, rfl, by decide +kernel, rfl, by decide +kernel, by decide +kernel⟩
def sp_lchain : Sp := sp1 (rL rP) (fun L => (∀ p ∈ L, Sm p) ∧ L.length ≤ MANY) (rL rP) fun L => (chainM L).dropLast
theorem ok_lchain (T : Tx K mg) : Has P w K mg base "_law_chain" 3 sp_lchain := by
  have G1 : Has P w K mg base "_law_turn" 2 sp_turn := ok_lturn T
  refine has_of T._law_chain sc_lchain (fun _ _ _ _ _ _ us hl => match us, hl with | [_], _ => rfl) sp1_len fun f cdv A outer s H vs Q E hr h => ?_
  obtain ⟨v, L, rfl, ⟨a, vs, rfl, ha, pl⟩, ⟨sm, ll⟩, k⟩ := h
  refine ⟨_, pss_cons (ps_set (i := 1) sc_lchain.nd rfl (Or.inl rfl) (pe_lst pa_nil))
    (pss_cons (ps_for PassesOwn.never rfl (pi_list (pv 0)) (pg_name (i := 2) sc_lchain.nd rfl (Or.inl rfl))
      (pss_cons (ps_while PassesOwn.never
          (PW.pt (pw_and (pt_cmpR op_gt (pe_callB call_len_seq (by rfl) T.n_len PySem.boot_len (pa_cons (pv 1) pa_nil)) pe_int (nomark _))
            (pw_and1 (pt_cmpR op_lt (pe_has G1 hr (by rfl) (pa_cons (pe_ix ix_list (pv 1) (pe_un un_neg pe_int) (fun _ _ => rfl)) (pa_cons (pe_ix ix_list (pv 1) (pe_un un_neg pe_int) (fun _ _ => rfl)) (pa_cons (pv 2) pa_nil)))) pe_int (nomark _)))))
          (pss_one (ps_set (i := 1) sc_lchain.nd rfl (Or.inl rfl) (pe_slice sl_list (pv 1) po_none (po_some (pe_un un_neg pe_int))))))
      (pss_one (ps_set (i := 1) sc_lchain.nd rfl (Or.inl rfl) (pe_op op_cat (pv 1) (pe_lst (pa_cons (pv 2) pa_nil)))))))
    (pss_one (ps_ret (pe_slice sl_list (pv 1) po_none (po_some (pe_un un_neg pe_int)))))), ?_⟩
  have sz : sizeLine = 16777216 := rfl
  have many : MANY = 300 := rfl
  refine ⟨by show 0 ≤ sizeLine; decide, fun l0 hl0 => ?_⟩
  have sm0 : L2.Same H (upd H l0 (.lst [])) := same_new hl0
  refine ⟨_, rfl, a, rfl, ⟨_, SqL.of (sm0 _ _ ha)⟩, ?_⟩
  have lenL := Paired.len pl
  refine for_list (K := K) (a := a) (xs := vs) (fun i σ H2 => ∃ (l : Addr) (x : Option V) (ys : List V), σ = [some (.ref a), some (.ref l), x] ∧ L2.Same H H2 ∧ H2 l = some (.lst ys) ∧ Paired (rP H2) ys (chainM (L.take i)))
    ⟨l0, none, [], rfl, sm0, upd_same, by simpa [chainM, Pz.chainR] using Paired.nil⟩ (fun i σ H2 _ ⟨_, _, _, _, s2, _⟩ => SqL.of (s2 _ _ ha)) ?_ ?_
  · rintro i y σ H2 hi ⟨l, x0, ys, rfl, s2, hl2, py⟩
    obtain ⟨p, hp, rp0⟩ := Paired.get pl hi
    have pL : p ∈ L := List.mem_of_getElem? hp
    have rp2 : rP H2 y p := mP _ _ _ _ s2 rp0
    have tk : L.take (i + 1) = L.take i ++ [p] := by rw [List.take_add_one, hp]; rfl
    refine ⟨fun m σ' H' => ∃ (l : Addr) (S : List Pt) (zs : List V), m = S.length ∧ σ' = [some (.ref a), some (.ref l), some y] ∧ L2.Same H2 H' ∧ H' l = some (.lst zs) ∧ Paired (rP H') zs S.reverse ∧ Pz.push p S = Pz.push p (Pz.chainR (L.take i)) ∧ (∀ q ∈ S, Sm q) ∧ S.length ≤ L.length,
      ⟨_, l, _, ys, rfl, rfl, .refl _, hl2, py, rfl, fun q hq => sm q (List.mem_of_mem_take (chainR_mem hq)), Nat.le_trans (chainR_len _) (by rw [List.length_take]; omega)⟩, ?_⟩
    rintro m σ' H' ⟨l, S, zs, rfl, rfl, s3, hz, pz, ep, sS, lS⟩
    have lz := Paired.len pz
    rw [List.length_reverse] at lz
    have rp3 : rP H' y p := mP _ _ _ _ s3 rp2
    refine ⟨_, rfl, l, zs, rfl, .inl (SqL.of hz), _, _, rfl, rfl, _, rfl, ?_⟩
    -- behind the loop: found + [p]
    have out : ∀ H5 t1 t2, L2.Same H' H5 → Pz.push p S = p :: S → H5 t1 = none → (upd H5 t1 (.lst [y])) t2 = none → ∃ (l : Addr) (x : Option V) (ys : List V), [some (V.ref a), some (V.ref t2), some y] = [some (V.ref a), some (V.ref l), x] ∧ L2.Same H (upd (upd H5 t1 (.lst [y])) t2 (.lst (zs ++ [y]))) ∧
        (upd (upd H5 t1 (.lst [y])) t2 (.lst (zs ++ [y]))) l = some (.lst ys) ∧ Paired (rP (upd (upd H5 t1 (.lst [y])) t2 (.lst (zs ++ [y])))) ys (chainM (L.take (i + 1))) := fun H5 t1 t2 s5 e h1 h2 => by
      have s7 := (same_new (o := .lst [y]) h1).trans (same_new (o := .lst (zs ++ [y])) h2)
      refine ⟨t2, some y, zs ++ [y], rfl, s2.trans (s3.trans (s5.trans s7)), upd_same, ?_⟩
      have : chainM (L.take (i + 1)) = S.reverse ++ [p] := by
        unfold chainM
        rw [tk, chainR_snoc, ← ep, e]
        simp
      rw [this]
      exact PySem.Paired.snoc (Paired.imp pz fun _ _ r => mP _ _ _ _ (s5.trans s7) r) (mP _ _ _ _ (s5.trans s7) rp3)
    refine ite2 (fun e => ?_) (fun e => ?_)
    · have h2 : 1 < (zs.length : Int) := of_decide_eq_true e
      match S, lz, pz, ep, sS, lS, out with
      | [], lz, _, _, _, _, _ => simp at lz; rw [lz] at h2; simp at h2
      | [_], lz, _, _, _, _, _ => simp at lz; rw [lz] at h2; simp at h2
      | b :: a' :: r, lz, pz, ep, sS, lS, out =>
        have e1 : (b :: a' :: r).reverse = r.reverse ++ [a'] ++ [b] := by simp
        have pz' := pz
        rw [e1] at pz'
        obtain ⟨z1, vb, rfl, p1, rb⟩ := paired_snoc pz'
        obtain ⟨z2, va, rfl, p2, ra⟩ := paired_snoc p1
        have ez : z2 ++ [va] ++ [vb] = z2 ++ [va, vb] := by simp
        rw [ez] at hz
        refine ⟨_, rfl, _, rfl, l, _, _, va, rfl, rfl, SqL.of hz, atI_back _ _ _, _, rfl, _, rfl, l, _, _, vb, rfl, rfl, SqL.of hz, atI_last2 _ _ _, _, rfl, ?_⟩
        refine ⟨_, _, _, a', b, p, rfl, ra, rb, rp3, ⟨sS a' (by simp), sS b (by simp), sm p pL⟩, fun u H4 s4 r4 => ?_⟩
        have hz4 := s4 _ _ hz
        refine ⟨_, _, r4, rfl, _, rfl, ?_⟩
        refine ite2 (fun e' => ?_) (fun e' => ?_)
        · have t : Pz.det a' b p ≤ 0 := sgn_lt1.mp (of_decide_eq_true e')
          refine ⟨_, fun σ5 H5 h5 => h5, ?_⟩
          refine ⟨_, rfl, _, rfl, _, rfl, l, _, rfl, SqL.of hz4, fun q hq => ?_⟩
          have s5 := same_new (o := .lst (cutV (z2 ++ [va, vb]) none (some (-1)))) hq
          refine ⟨(a' :: r).length, by simp, q, a' :: r, z2 ++ [va], rfl, rfl, s3.trans (s4.trans s5), ?_, ?_, ?_, fun q hq => sS q (List.mem_cons_of_mem _ hq), by simp at lS ⊢; omega⟩
          · rw [upd_same, cut_dropLast, show z2 ++ [va, vb] = (z2 ++ [va]) ++ [vb] by simp, List.dropLast_concat]
          · have : (a' :: r).reverse = r.reverse ++ [a'] := by simp
            rw [this]
            exact Paired.imp p1 fun _ _ q => mP _ _ _ _ (s4.trans s5) q
          · rw [← ep, Pz.push.eq_1, if_pos t]
        · have t : ¬ Pz.det a' b p ≤ 0 := fun q => e' (decide_eq_true (sgn_lt1.mpr q))
          refine ⟨_, rfl, _, rfl, by show 1 ≤ sizeLine; decide, fun t1 ht1 => ?_⟩
          have s6 := same_new (o := .lst [y]) ht1
          refine ⟨l, t1, _, _, rfl, rfl, s6 _ _ hz4, upd_same, ?_, fun t2 ht2 => ?_⟩
          · simp at lz lS ⊢; omega
          · have o := out H4 t1 t2 s4 (by rw [Pz.push.eq_1, if_neg t]) ht1 ht2
            rw [ez] at o
            exact o
    · have h2 : ¬ 1 < (zs.length : Int) := fun q => e (decide_eq_true q)
      have sh : Pz.push p S = p :: S := by
        match S, lz with
        | [], _ => rw [Pz.push]
        | [b], _ => rw [Pz.push]
        | b :: a' :: r, lz => exfalso; simp at lz; omega
      refine ⟨_, rfl, _, rfl, by show 1 ≤ sizeLine; decide, fun t1 ht1 => ?_⟩
      have s6 := same_new (o := .lst [y]) ht1
      exact ⟨l, t1, _, _, rfl, rfl, s6 _ _ hz, upd_same, by simp; omega, fun t2 ht2 => out H' t1 t2 (.refl _) sh ht1 ht2⟩
  · rintro σ H2 ⟨l, x0, ys, rfl, s2, hl2, py⟩
    rw [lenL, List.take_length] at py
    refine ⟨_, rfl, _, rfl, _, rfl, l, ys, rfl, SqL.of hl2, fun t ht => ?_⟩
    have s3 := same_new (o := .lst (cutV ys none (some (-1)))) ht
    refine k _ _ (s2.trans s3) ⟨t, ys.dropLast, rfl, by rw [cut_dropLast]; exact upd_same, ?_⟩
    exact Paired.dropLast (Paired.imp py fun _ _ r => mP _ _ _ _ s3 r)
theorem sc_lhull : FnScope ["_law_places_here", "_law_every"] ["_law_places_here"] (defScope (topS 75)) := ⟨rfl, rfl, rfl, by decide +kernel, rfl, by decide +kernel, by decide +kernel⟩
def sp_lhull : Sp := sp1 (rL rP) Let (rT rP) Pz.hullM
theorem ok_lhull (T : Tx K mg) : Has P w K mg base "_law_hull" 4 sp_lhull := by
  have G1 : Has P w K mg base "_law_places" 2 sp_lplaces := ok_lplaces T
  have G2 : Has P w K mg base "_law_chain" 3 sp_lchain := ok_lchain T
  refine has_of T._law_hull sc_lhull (fun _ _ _ _ _ _ us hl => match us, hl with | [_], _ => rfl) sp1_len fun f cdv A outer s H vs Q E hr h => ?_
  obtain ⟨v, L, rfl, hv, hL, k⟩ := h
  have m2 := hr.mono (show 2 ≤ 3 by decide)
  refine ⟨_, pss_cons (ps_set (i := 1) sc_lhull.nd rfl (Or.inl rfl) (pe_has G1 m2 (by rfl) (pa_cons (pv 0) pa_nil)))
    (pss_cons (ps_if (pt_cmpR op_lt (pe_callB call_len_seq (by rfl) T.n_len PySem.boot_len (pa_cons (pv 1) pa_nil)) pe_int (nomark _))
      (pss_one (ps_ret (pe_callTy call_tuple_of (by rfl) T.n_tuple (by decide +kernel) (pa_cons (pv 1) pa_nil)))) pss_nil)
    (pss_one (ps_ret (pe_callTy call_tuple_of (by rfl) T.n_tuple (by decide +kernel) (pa_cons (pe_op op_cat (pe_has G2 hr (by rfl) (pa_cons (pv 1) pa_nil)) (pe_has G2 hr (by rfl) (pa_cons (pe_revL (pv 1)) pa_nil))) pa_nil))))), ?_⟩
  have sz : sizeLine = 16777216 := rfl
  have many : MANY = 300 := rfl
  have lS := let_sort hL
  refine ⟨_, rfl, _, L, rfl, hv, hL, fun u H1 s1 r1 => ?_⟩
  obtain ⟨a, vs, rfl, ha, pl⟩ := r1
  have lv := Paired.len pl
  have eH : Pz.hullM L = if (Pz.sortP L).length = 1 then Pz.sortP L else (chainM (Pz.sortP L)).dropLast ++ (chainM (Pz.sortP L).reverse).dropLast := hullA_chain _
  refine ⟨_, rfl, a, vs, rfl, .inl (SqL.of ha), _, _, rfl, rfl, _, rfl, ?_⟩
  refine ite2 (fun e => ?_) (fun e => ?_)
  · have l1 : (vs.length : Int) < 2 := of_decide_eq_true e
    refine ⟨_, rfl, a, vs, rfl, .inl ⟨SqL.of ha, fun t ht => ?_⟩⟩
    refine k _ _ (same_new' s1 ht) ⟨t, vs, rfl, upd_same, ?_⟩
    have : Pz.hullM L = Pz.sortP L := by
      rw [eH]
      by_cases q : (Pz.sortP L).length = 1
      · rw [if_pos q]
      · have : Pz.sortP L = [] := List.length_eq_zero_iff.mp (by omega)
        rw [this]; rfl
    rw [this]
    exact Paired.imp pl fun _ _ r => mP _ _ _ _ (same_new ht) r
  · have l1 : ¬ (vs.length : Int) < 2 := fun q => e (decide_eq_true q)
    have nS := lS.2
    have cl : ∀ M : List Pt, M.length ≤ (Pz.sortP L).length → (chainM M).dropLast.length ≤ MANY := fun M h => by
      have := chainR_len M
      rw [List.length_dropLast]
      unfold chainM
      rw [List.length_reverse]
      omega
    refine ⟨_, rfl, _, _, rfl, ⟨a, vs, rfl, ha, pl⟩, ⟨fun q mq => (lS.1 q mq).2, nS⟩, fun u3 H3 s3 r3 => ?_⟩
    obtain ⟨b, ws, rfl, hb, pb⟩ := r3
    refine ⟨_, rfl, a, vs, rfl, SqL.of (s3 _ _ ha), fun d hd => ?_⟩
    have s4 := same_new (o := .lst vs.reverse) hd
    refine ⟨_, _, rfl, ⟨d, _, rfl, upd_same, Paired.rev (Paired.imp pl fun _ _ r => mP _ _ _ _ (s3.trans s4) r)⟩, ⟨fun q mq => (lS.1 q (List.mem_reverse.mp mq)).2, by rw [List.length_reverse]; exact nS⟩, fun u5 H5 s5 r5 => ?_⟩
    obtain ⟨c, zs, rfl, hc, pc⟩ := r5
    have s45 := s4.trans s5
    have w1 : ws.length = (chainM (Pz.sortP L)).dropLast.length := Paired.len pb
    have w2 : zs.length = (chainM (Pz.sortP L).reverse).dropLast.length := Paired.len pc
    have w3 := cl (Pz.sortP L) (Nat.le_refl _)
    have w4 := cl (Pz.sortP L).reverse (by rw [List.length_reverse]; exact Nat.le_refl _)
    refine ⟨b, c, ws, zs, rfl, rfl, s45 _ _ hb, hc, by omega, fun x hx => ?_⟩
    have s6 := same_new (o := .lst (ws ++ zs)) hx
    refine ⟨x, _, rfl, .inl ⟨SqL.of upd_same, fun t ht => ?_⟩⟩
    have s7 := same_new (o := .tup (ws ++ zs)) ht
    refine k _ _ (s1.trans (s3.trans (s45.trans (s6.trans s7)))) ⟨t, _, rfl, upd_same, ?_⟩
    rw [eH, if_neg (by omega)]
    exact Paired.append (Paired.imp pb fun _ _ r => mP _ _ _ _ (s45.trans (s6.trans s7)) r) (Paired.imp pc fun _ _ r => mP _ _ _ _ (s6.trans s7) r)
end
end Wk

set_option Elab.async false
set_option linter.all false
set_option maxRecDepth 100000
/-! W44: what the law draws: places, pools, plates. -/
namespace Wk
open PySem L2 PySem.Spec PyProof.Rows
open Pz (Pt Ln)
/-- a place that is drawn -/
def LetD (p : Pt) : Prop := Pz.Can p ∧ Pz.Sz 9 p
theorem LetD.sm {p : Pt} (h : LetD p) : Sm p := sm_of h.1 h.2 (by decide +kernel)
section
variable {P : Program} {w : World} {K : PySem.W.Frag} {mg : Str → Option Value} {base : Heap}
theorem sc_dplace : FnScope ["_law_source", "_law_wide", "_law_d"] ["_law_source", "_law_wide"] (defScope (topS 76)) := ⟨rfl, rfl, rfl, by decide +kernel, rfl, by decide +kernel, by decide +kernel⟩
def sp_dplace : Sp := fun vs H Q _ => ∃ D L n, vs = [.ref D, .int 3] ∧ Src D L n H ∧ n + 3 < DRAWS ∧ ∀ u p H', SameY D L H H' → Src D L (n + 3) H' → rP H' u p → LetD p → Q u H'
theorem pick5 {j : Int} {H : Hp} {t : Addr} {a b c d e : V} {Q : VK} (h0 : 0 ≤ j) (h5 : j < 5) (ht : H t = some (.lst [a, b, c, d, e])) (k : ∀ v, v ∈ [a, b, c, d, e] → Q v H) : rIxL K (.ref t) (.int j) H Q := by
  obtain ⟨n, rfl⟩ : ∃ n : Nat, j = (n : Int) := ⟨j.toNat, by omega⟩
  have hn : n < [a, b, c, d, e].length := by show n < 5; omega
  exact ⟨t, _, _, _, rfl, rfl, SqL.of ht, atI_nat (List.getElem?_eq_getElem hn), k _ (List.getElem_mem hn)⟩
theorem ok_dplace (T : Tx K mg) : Has P w K mg base "_law_draw_place" 3 sp_dplace := by
  have G1 : Has P w K mg base "_law_pick" 1 sp_pick := ok_pick T
  have G2 : Has P w K mg base "_law_place" 2 sp_place := ok_lplace T
  refine has_of T._law_draw_place sc_dplace (fun _ _ _ _ _ _ us hl => match us, hl with | [_, _], _ => rfl) (fun _ _ _ _ ⟨_, _, _, e, _⟩ => by rw [e]; rfl) fun f cdv A outer s H vs Q E hr h => ?_
  obtain ⟨D, L, n, rfl, src, hn, k⟩ := h
  have m1 := hr.mono (show 1 ≤ 2 by decide)
  refine ⟨_, pss_cons (ps_set (i := 2) sc_dplace.nd rfl (Or.inl rfl) (pe_ix ix_list (pe_lst (pa_cons pe_int (pa_cons pe_int (pa_cons pe_int (pa_cons pe_int (pa_cons pe_int pa_nil)))))) (pe_has G1 m1 (by rfl) (pa_cons (pv 0) (pa_cons pe_int pa_nil))) (fun _ _ => rfl)))
    (pss_one (ps_ret (pe_has G2 hr (by rfl) (pa_cons (pe_has G1 m1 (by rfl) (pa_cons (pv 0) (pa_cons (pe_op op_add (pe_op op_mulX (pv 1) (pv 2)) pe_int) pa_nil)))
      (pa_cons (pe_has G1 m1 (by rfl) (pa_cons (pv 0) (pa_cons (pe_op op_add (pe_op op_mulX (pv 1) (pv 2)) pe_int) pa_nil))) (pa_cons (pv 2) pa_nil)))))), ?_⟩
  refine ⟨by show 5 ≤ sizeLine; decide, fun t ht => ?_⟩
  have src0 := src.same (same_new (o := .lst [.int 1, .int 1, .int 2, .int 1, .int 3]) ht)
  have s0 : SameY D L H _ := SameY.of (same_new (o := .lst [.int 1, .int 1, .int 2, .int 1, .int 3]) ht)
  obtain ⟨tD, tL⟩ := src.free ht
  refine ⟨_, rfl, D, L, n, 5, rfl, src0, by decide, by decide, by omega, fun j H1 j0 j5 s1 src1 => ?_⟩
  have ht1 := s1 t _ tD tL upd_same
  refine pick5 j0 (by omega) ht1 fun v mv => ?_
  obtain ⟨d, rfl, d1, d3⟩ : ∃ d : Int, v = .int d ∧ 1 ≤ d ∧ d ≤ 3 := by
    simp only [List.mem_cons, List.not_mem_nil, or_false] at mv
    rcases mv with rfl | rfl | rfl | rfl | rfl
    · exact ⟨1, rfl, by decide, by decide⟩
    · exact ⟨1, rfl, by decide, by decide⟩
    · exact ⟨2, rfl, by decide, by decide⟩
    · exact ⟨1, rfl, by decide, by decide⟩
    · exact ⟨3, rfl, by decide, by decide⟩
  have cm : CMulX 3 d := by
    have : d.natAbs.log2 ≤ 2 := log_lt (n := 2) (by omega)
    exact Nat.lt_of_le_of_lt (Nat.add_le_add_left this _) (by decide +kernel)
  refine ⟨_, rfl, _, rfl, _, rfl, _, _, rfl, rfl, cm, _, _, rfl, rfl, D, L, n + 1, _, rfl, src1, by omega, by omega, by omega, fun x H2 x0 x1 s2 src2 => ?_⟩
  refine ⟨_, rfl, _, rfl, _, rfl, _, _, rfl, rfl, cm, _, _, rfl, rfl, D, L, n + 1 + 1, _, rfl, src2, by omega, by omega, by omega, fun y H3 y0 y1 s3 src3 => ?_⟩
  have bb : d.natAbs < BIG := Nat.lt_of_le_of_lt (show d.natAbs ≤ 3 by omega) (by decide +kernel)
  refine ⟨_, rfl, _, _, _, x, y, d, rfl, rfl, rfl, rfl, ⟨by omega, bb⟩, fun u H4 s4 r4 => ?_⟩
  refine k u _ H4 (s0.trans (s1.trans (s2.trans (s3.trans (SameY.of s4))))) (src3.same s4) r4 ⟨?_, Pz.canon_sz (by omega) (by omega) (by omega)⟩
  obtain ⟨_, _, _, _, _, _, c⟩ := Pz.canon_spec (x := x) (y := y) (d := d) (by omega)
  exact c
theorem sc_dpool : FnScope ["_law_source", "_law_many", "_law_wide", "_law_lap"] ["_law_source", "_law_many", "_law_wide"] (defScope (topS 77)) := ⟨rfl, rfl, rfl, by decide +kernel, rfl, by decide +kernel, by decide +kernel⟩
/-- a pool at a -/
def PoolAt (a : Addr) (H : Hp) (ps : List Pt) : Prop := ∃ vs, H a = some (.lst vs) ∧ Paired (rP H) vs ps ∧ ps.length = 5 ∧ ∀ p ∈ ps, LetD p
theorem PoolAt.sy {D L a : Addr} {n : Nat} {H H' : Hp} {ps : List Pt} (h : PoolAt a H ps) (src : Src D L n H) (s : SameY D L H H') (h1 : a ≠ D) (h2 : a ≠ L) : PoolAt a H' ps := by
  obtain ⟨vs, ha, pv, l, d⟩ := h
  exact ⟨vs, s a _ h1 h2 ha, Paired.imp pv fun _ _ r => tP _ _ _ _ (s.tup src) r, l, d⟩
def sp_dpool : Sp := fun vs H Q _ => ∃ D L n, vs = [.ref D, .int 5, .int 3] ∧ Src D L n H ∧ n + 15 < DRAWS ∧ ∀ a ps H', H a = none → SameY D L H H' → Src D L (n + 15) H' → PoolAt a H' ps → Q (.ref a) H'
theorem ok_dpool (T : Tx K mg) : Has P w K mg base "_law_draw_pool" 4 sp_dpool := by
  have G1 : Has P w K mg base "_law_draw_place" 3 sp_dplace := ok_dplace T
  refine has_of T._law_draw_pool sc_dpool (fun _ _ _ _ _ _ us hl => match us, hl with | [_, _, _], _ => rfl) (fun _ _ _ _ ⟨_, _, _, e, _⟩ => by rw [e]; rfl) fun f cdv A outer s H vs Q E hr h => ?_
  obtain ⟨D, L, n, rfl, src, hn, k⟩ := h
  refine ⟨_, pss_one (ps_ret (pe_lc (own := [("_law_lap", 3)]) (g := gName 3) (tt := tYes) (by rfl) sc_dpool.nd (pi_range1 (by rfl) T.n_range (pa_cons (pv 1) pa_nil))
      (blkOk_by (own := [("_law_lap", 3)]) (N := ["_law_source", "_law_many", "_law_wide", "_law_lap"]) (sc := defScope (topS 77)) (by decide +kernel))
      (fun _ _ _ _ _ => pg_name (i := 3) sc_dpool.nd rfl (Or.inl rfl)) (fun _ _ _ _ _ => pts_nil) (fun _ _ _ _ _ => pe_has G1 hr (by rfl) (pa_cons (pv 0) (pa_cons (pv 2) pa_nil))))), ?_⟩
  refine ⟨_, rfl, 5, rfl, by decide, by decide, fun B hB => ?_⟩
  obtain ⟨bD, bL⟩ := src.free hB
  refine lc_range (fun i H' => SameY D L H H' ∧ Src D L (n + 3 * i) H' ∧ ∃ vs ps, H' B = some (.lst vs) ∧ Paired (rP H') vs ps ∧ ps.length = i ∧ ∀ p ∈ ps, LetD p)
    ⟨SameY.of (same_new hB), src.same (same_new hB), [], [], upd_same, .nil, rfl, fun _ m => nomatch m⟩ (fun i H1 hi ⟨s1, src1, vs, ps, hb, pv, lp, dp⟩ => ?_) fun H1 ⟨s1, src1, vs, ps, hb, pv, lp, dp⟩ => ?_
  · refine ⟨rfl, ?_⟩
    have i5 : i < 5 := hi
    refine ⟨_, rfl, _, rfl, D, L, n + 3 * i, rfl, src1, by omega, fun u p H2 s2 src2 r2 d2 => ?_⟩
    have hb2 := s2 B _ bD bL hb
    have lv := Paired.len pv
    have tu : TupSame H2 (upd H2 B (.lst (vs ++ [u]))) := tup_upd hb2
    refine ⟨vs, hb2, Nat.lt_of_le_of_lt (show vs.length ≤ 5 by omega) (by decide), fun a o h1 h2 e => ?_, (src2.up (show n + 3 * i + 3 ≤ n + 3 * (i + 1) by omega)).upd bD bL, vs ++ [u], ps ++ [p], upd_same, ?_, by simp; omega, fun q m => ?_⟩
    · have aB : a ≠ B := fun q => by rw [q, hB] at e; exact nomatch e
      rw [upd_ne aB]
      exact s2 a _ h1 h2 (s1 a _ h1 h2 e)
    · exact PySem.Paired.snoc (Paired.imp pv fun _ _ r => tP _ _ _ _ tu (tP _ _ _ _ (s2.tup src1) r)) (tP _ _ _ _ tu r2)
    · rcases List.mem_append.mp m with m | m
      · exact dp q m
      · rw [List.mem_singleton.mp m]; exact d2
  · exact k B ps H1 hB s1 src1 ⟨vs, hb, pv, lp, dp⟩
end
end Wk

set_option Elab.async false
set_option linter.all false
set_option maxRecDepth 100000
/-! W45: _law_draw_plate, _law_draw_rows. -/
namespace Wk
open PySem L2 PySem.Spec PyProof.Rows
open Pz (Pt Ln)
/-- a plate that is drawn -/
def LetE (V : List Pt) : Prop := Pz.IsPl V ∧ (∀ q ∈ V, Pz.Sz 9 q) ∧ V.length ≤ 4
theorem call_lenK {X : Cx} (K : PySem.W.Frag) (hK : X.K = K) : CallR X (.builtin "len") (fun xs H Q => ∃ p ys, xs = [.ref p] ∧ (SqL K H p ys ∨ SqT K H p ys) ∧ Q (.int ys.length) H) := by subst hK; exact call_len_seq
theorem ix_listK {X : Cx} (K : PySem.W.Frag) (hK : X.K = K) : IxR X (rIxL K) := by subst hK; exact ix_list
section
variable {P : Program} {w : World} {K : PySem.W.Frag} {mg : Str → Option Value} {base : Heap}
theorem sc_dplate : FnScope ["_law_source", "_law_pool", "_law_lap"] ["_law_source", "_law_pool"] (defScope (topS 78)) := ⟨rfl, rfl, rfl, by decide +kernel, rfl, by decide +kernel, by decide +kernel⟩
def sp_dplate : Sp := fun vs H Q _ => ∃ D L n a ps, vs = [.ref D, .ref a] ∧ Src D L n H ∧ n + 5 < DRAWS ∧ PoolAt a H ps ∧ a ≠ D ∧ a ≠ L ∧ ∀ u V H', SameY D L H H' → Src D L (n + 5) H' → rT rP H' u V → LetE V → Q u H'
theorem ok_dplate (T : Tx K mg) : Has P w K mg base "_law_draw_plate" 5 sp_dplate := by
  have G1 : Has P w K mg base "_law_pick" 1 sp_pick := ok_pick T
  have G2 : Has P w K mg base "_law_hull" 4 sp_lhull := ok_lhull T
  refine has_of T._law_draw_plate sc_dplate (fun _ _ _ _ _ _ us hl => match us, hl with | [_, _], _ => rfl) (fun _ _ _ _ ⟨_, _, _, _, _, e, _⟩ => by rw [e]; rfl) fun f cdv A outer s H vs Q E hr h => ?_
  obtain ⟨D, L, n, a, ps, rfl, src, hn, pool, aD, aL, k⟩ := h
  have m1 := hr.mono (show 1 ≤ 4 by decide)
  refine ⟨_, pss_one (ps_ret (pe_has G2 hr (by rfl) (pa_cons (pe_lc (own := [("_law_lap", 2)]) (g := gName 2) (tt := tYes) (by rfl) sc_dplate.nd
      (pi_range1 (by rfl) T.n_range (pa_cons (pe_op op_add pe_int (pe_has G1 m1 (by rfl) (pa_cons (pv 0) (pa_cons pe_int pa_nil)))) pa_nil))
      (blkOk_by (own := [("_law_lap", 2)]) (N := ["_law_source", "_law_pool", "_law_lap"]) (sc := defScope (topS 78)) (by decide +kernel))
      (fun _ _ _ _ _ => pg_name (i := 2) sc_dplate.nd rfl (Or.inl rfl)) (fun _ _ _ _ _ => pts_nil)
      (fun _ _ _ _ _ => pe_ix (ix_listK K rfl) (pv 1) (pe_has G1 m1 (by rfl) (pa_cons (pv 0) (pa_cons (pe_callB (call_lenK K rfl) (by rfl) T.n_len PySem.boot_len (pa_cons (pv 1) pa_nil)) pa_nil))) (fun _ _ => rfl))) pa_nil))), ?_⟩
  have many : MANY = 300 := rfl
  refine ⟨_, rfl, D, L, n, 4, rfl, src, by decide, by decide, by omega, fun j H1 j0 j4 s1 src1 => ?_⟩
  have pool1 := pool.sy src s1 aD aL
  refine ⟨1, j, rfl, rfl, _, rfl, by omega, by omega, fun B hB => ?_⟩
  obtain ⟨bD, bL⟩ := src1.free hB
  have aB : a ≠ B := fun q => by obtain ⟨_, e, _⟩ := pool1; rw [q, hB] at e; exact nomatch e
  have kk : (1 + j).toNat ≤ 4 := by omega
  refine lc_range (n := (1 + j).toNat) (fun i H' => SameY D L H1 H' ∧ Src D L (n + 1 + i) H' ∧ ∃ vs qs, H' B = some (.lst vs) ∧ Paired (rP H') vs qs ∧ qs.length = i ∧ ∀ p ∈ qs, LetD p)
    ⟨SameY.of (same_new hB), src1.same (same_new hB), [], [], upd_same, .nil, rfl, fun _ m => nomatch m⟩ (fun i H2 hi ⟨s2, src2, vs, qs, hb, pv, lq, dq⟩ => ?_) fun H2 ⟨s2, src2, vs, qs, hb, pv, lq, dq⟩ => ?_
  · refine ⟨rfl, ?_⟩
    have pool2 := pool1.sy src1 s2 aD aL
    obtain ⟨ws, ha2, pw, lw, dw⟩ := pool2
    have l5 : ws.length = 5 := by rw [Paired.len pw, lw]
    refine ⟨_, rfl, _, rfl, _, rfl, a, ws, rfl, .inl (SqL.of ha2), ?_⟩
    refine ⟨D, L, n + 1 + i, 5, by rw [l5]; rfl, src2, by decide, by decide, by omega, fun x H3 x0 x5 s3 src3 => ?_⟩
    have ha3 := s3 a _ aD aL ha2
    obtain ⟨xn, rfl⟩ : ∃ m : Nat, x = (m : Int) := ⟨x.toNat, by omega⟩
    have pw3 : Paired (rP H3) ws ps := Paired.imp pw fun _ _ r => tP _ _ _ _ (s3.tup src2) r
    have hx : xn < ps.length := by omega
    refine ixL ⟨a, ws, rfl, ha3, pw3⟩ (List.getElem?_eq_getElem hx) fun u ru => ?_
    have hb3 := s3 B _ bD bL hb
    have lv := Paired.len pv
    have tu : TupSame H3 (upd H3 B (.lst (vs ++ [u]))) := tup_upd hb3
    refine ⟨vs, hb3, Nat.lt_of_le_of_lt (show vs.length ≤ 4 by omega) (by decide), fun c o h1 h2 e => ?_, (src3.up (show n + 1 + i + 1 ≤ n + 1 + (i + 1) by omega)).upd bD bL, vs ++ [u], qs ++ [ps[xn]], upd_same, ?_, by simp; omega, fun q m => ?_⟩
    · have cB : c ≠ B := fun q => by rw [q, hB] at e; exact nomatch e
      rw [upd_ne cB]
      exact s3 c _ h1 h2 (s2 c _ h1 h2 e)
    · exact PySem.Paired.snoc (Paired.imp pv fun _ _ r => tP _ _ _ _ tu (tP _ _ _ _ (s3.tup src2) r)) (tP _ _ _ _ tu ru)
    · rcases List.mem_append.mp m with m | m
      · exact dq q m
      · rw [List.mem_singleton.mp m]; exact dw _ (List.getElem_mem hx)
  · have ne : qs ≠ [] := fun e => by rw [e] at lq; simp at lq; omega
    have hc : ∀ p ∈ qs, Pz.Can p := fun p m => (dq p m).1
    refine ⟨_, qs, rfl, ⟨B, vs, rfl, hb, pv⟩, ⟨fun p m => ⟨(dq p m).1, (dq p m).sm⟩, by omega⟩, fun u H3 s3 r3 => ?_⟩
    refine k u _ H3 (s1.trans (s2.trans (SameY.of s3))) ((src2.same s3).up (by omega)) r3 ⟨Pz.hullM_pl hc ne, fun q m => (dq q (hull_sub hc q m)).2, ?_⟩
    have := hull_len hc ne
    omega
theorem sc_drows : FnScope ["_law_source", "_law_pool", "_law_most", "_law_found", "_law_lap", "_law_weight"] ["_law_source", "_law_pool", "_law_most"] (defScope (topS 79)) := ⟨rfl, rfl, rfl, by decide +kernel, rfl, by decide +kernel, by decide +kernel⟩
/-- rows that are drawn -/
def LetW (R : List Pz.Row) : Prop := (∀ r ∈ R, LetE r.1 ∧ r.2.natAbs ≤ 3) ∧ R.length ≤ 3
def sp_drows : Sp := fun vs H Q _ => ∃ D L n a ps, vs = [.ref D, .ref a, .int 3] ∧ Src D L n H ∧ n + 19 < DRAWS ∧ PoolAt a H ps ∧ a ≠ D ∧ a ≠ L ∧ ∀ b R H', H b = none → SameY D L H H' → Src D L (n + 19) H' → rL rRow H' (.ref b) R → LetW R → Q (.ref b) H'
theorem ok_drows (T : Tx K mg) : Has P w K mg base "_law_draw_rows" 6 sp_drows := by
  have G1 : Has P w K mg base "_law_pick" 1 sp_pick := ok_pick T
  have G2 : Has P w K mg base "_law_draw_plate" 5 sp_dplate := ok_dplate T
  refine has_of T._law_draw_rows sc_drows (fun _ _ _ _ _ _ us hl => match us, hl with | [_, _, _], _ => rfl) (fun _ _ _ _ ⟨_, _, _, _, _, e, _⟩ => by rw [e]; rfl) fun f cdv A outer s H vs Q E hr h => ?_
  obtain ⟨D, L, n, a, ps, rfl, src, hn, pool, aD, aL, k⟩ := h
  have m1 := hr.mono (show 1 ≤ 5 by decide)
  refine ⟨_, pss_cons (ps_set (i := 3) sc_drows.nd rfl (Or.inl rfl) (pe_lst pa_nil))
    (pss_cons (ps_for PassesOwn.never rfl (pi_range1 (by rfl) T.n_range (pa_cons (pe_has G1 m1 (by rfl) (pa_cons (pv 0) (pa_cons (pe_op op_add (pv 2) pe_int) pa_nil))) pa_nil)) (pg_name (i := 4) sc_drows.nd rfl (Or.inl rfl))
      (pss_cons (ps_set (i := 5) sc_drows.nd rfl (Or.inl rfl) (pe_ix ix_list (pe_lst (pa_cons pe_int (pa_cons (pe_op op_sub pe_int pe_int) (pa_cons pe_int (pa_cons pe_int (pa_cons (pe_op op_sub pe_int pe_int) pa_nil)))))) (pe_has G1 m1 (by rfl) (pa_cons (pv 0) (pa_cons pe_int pa_nil))) (fun _ _ => rfl)))
      (pss_one (ps_expr (pe_bm PySem.F.plainAttrs_list PySem.F.slot_list_append PySem.F.type_list_append mt_append (pv 3) (pa_cons (pe_tup (pa_cons (pe_has G2 hr (by rfl) (pa_cons (pv 0) (pa_cons (pv 1) pa_nil))) (pa_cons (pv 5) pa_nil))) pa_nil))))))
    (pss_one (ps_ret (pv 3)))), ?_⟩
  refine ⟨by show 0 ≤ sizeLine; decide, fun B hB => ?_⟩
  obtain ⟨bD, bL⟩ := src.free hB
  have sB : L2.Same H (upd H B (.lst [])) := same_new hB
  have srcB := src.same sB
  have eB : (upd H B (.lst [])) B = some (.lst []) := upd_same
  have aB : a ≠ B := fun q => by obtain ⟨_, e, _⟩ := pool; rw [q, hB] at e; exact nomatch e
  have sB' : SameY D L H (upd H B (.lst [])) := SameY.of sB
  have poolB := pool.sy src sB' aD aL
  generalize upd H B (.lst []) = H0 at *
  refine ⟨_, rfl, _, rfl, _, _, rfl, rfl, D, L, n, 4, rfl, srcB, by decide, by decide, by omega, fun j H1 j0 j4 s1 src1 => ?_⟩
  have pool1 := poolB.sy srcB s1 aD aL
  have eB1 := s1 B _ bD bL eB
  refine ⟨j, rfl, by omega, by omega, ?_⟩
  have kk : j.toNat ≤ 3 := by omega
  refine for_range (n := j.toNat) (fun i σ H2 => ∃ (xl xw : Option L2.V) (ys : List L2.V) (R : List Pz.Row), σ = [some (.ref D), some (.ref a), some (.int 3), some (.ref B), xl, xw] ∧ (∀ c o, c ≠ D → c ≠ L → c ≠ B → H1 c = some o → H2 c = some o) ∧ Src D L (n + 1 + 6 * i) H2 ∧ H2 B = some (.lst ys) ∧ Paired (rRow H2) ys R ∧
      (∀ r ∈ R, LetE r.1 ∧ r.2.natAbs ≤ 3) ∧ R.length = i)
    ⟨none, none, [], [], rfl, fun _ _ _ _ _ e => e, src1, eB1, .nil, fun _ m => (nomatch m), rfl⟩ ?_ ?_
  · rintro i σ H2 hi ⟨xl, xw, ys, R, rfl, x2, src2, hy, py, dR, lR⟩
    have pool2 : PoolAt a H2 ps := by
      obtain ⟨ws, ha, pv, l, d⟩ := pool1
      refine ⟨ws, x2 a _ aD aL aB ha, Paired.imp pv fun _ _ r => tP _ _ _ _ (fun b xs e => x2 b _ ?_ ?_ ?_ e) r, l, d⟩
      · intro q; obtain ⟨_, _, _, _, h1, _⟩ := src1; rw [q, h1] at e; cases e
      · intro q; obtain ⟨_, _, _, _, _, h1, _⟩ := src1; rw [q, h1] at e; cases e
      · intro q; rw [q, eB1] at e; cases e
    refine ⟨_, _, rfl, rfl, _, _, rfl, rfl, by show 5 ≤ sizeLine; decide, fun t ht => ?_⟩
    have s3 : L2.Same H2 (upd H2 t (.lst [.int 1, .int (0 - 1), .int 2, .int 1, .int (0 - 3)])) := same_new ht
    obtain ⟨tD, tL⟩ := src2.free ht
    have et : (upd H2 t (.lst [.int 1, .int (0 - 1), .int 2, .int 1, .int (0 - 3)])) t = some (.lst [.int 1, .int (0 - 1), .int 2, .int 1, .int (0 - 3)]) := upd_same
    have src3 := src2.same s3
    have hy3 := s3 _ _ hy
    have pool3 := pool2.sy src2 (SameY.of s3) aD aL
    have py3 : Paired (rRow _) ys R := Paired.imp py fun _ _ r => tRow.mono _ _ _ _ s3 r
    generalize upd H2 t (.lst [.int 1, .int (0 - 1), .int 2, .int 1, .int (0 - 3)]) = H3 at *
    refine ⟨_, rfl, D, L, _, 5, rfl, src3, by decide, by decide, by omega, fun x H4 x0 x5 s4 src4 => ?_⟩
    refine pick5 x0 (by omega) (s4 t _ tD tL et) fun v mv => ?_
    obtain ⟨d, rfl, d3⟩ : ∃ d : Int, v = .int d ∧ d.natAbs ≤ 3 := by
      simp only [List.mem_cons, List.not_mem_nil, or_false] at mv
      rcases mv with rfl | rfl | rfl | rfl | rfl
      · exact ⟨1, rfl, by decide⟩
      · exact ⟨0 - 1, rfl, by decide⟩
      · exact ⟨2, rfl, by decide⟩
      · exact ⟨1, rfl, by decide⟩
      · exact ⟨0 - 3, rfl, by decide⟩
    have hy4 := s4 B _ bD bL hy3
    have pool4 := pool3.sy src3 s4 aD aL
    refine ⟨_, rfl, .inl ⟨rfl, _, SqL.of hy4⟩, ?_⟩
    refine ⟨_, rfl, _, rfl, D, L, _, a, ps, rfl, src4, by omega, pool4, aD, aL, fun u V H5 s5 src5 ru eV => ?_⟩
    refine ⟨_, rfl, by show 2 ≤ sizeLine; decide, fun t6 ht6 => ?_⟩
    have s6 : L2.Same H5 (upd H5 t6 (.tup [u, .int d])) := same_new ht6
    have e6 : (upd H5 t6 (.tup [u, .int d])) t6 = some (.tup [u, .int d]) := upd_same
    have src6 := src5.same s6
    have hy6 := s6 _ _ (s5 B _ bD bL hy4)
    have ru6 := mT mP _ _ _ _ s6 ru
    have py6 : Paired (rRow (upd H5 t6 (.tup [u, .int d]))) ys R := Paired.imp py3 fun _ _ r => tRow.mono _ _ _ _ s6 (tRow _ _ _ _ (s5.tup src4) (tRow _ _ _ _ (s4.tup src3) r))
    have s46 : ∀ c o, c ≠ D → c ≠ L → H2 c = some o → (upd H5 t6 (.tup [u, .int d])) c = some o := fun c o h1 h2 e => s6 _ _ (s5 c _ h1 h2 (s4 c _ h1 h2 (s3 _ _ e)))
    generalize upd H5 t6 (.tup [u, .int d]) = H6 at *
    have ly := Paired.len py6
    refine ⟨B, ys, .ref t6, rfl, rfl, hy6, Nat.lt_of_le_of_lt (show ys.length ≤ 3 by omega) (by decide), ?_⟩
    have tu : TupSame H6 (upd H6 B (.lst (ys ++ [.ref t6]))) := tup_upd hy6
    refine ⟨_, _, ys ++ [.ref t6], R ++ [(V, d)], rfl, fun c o h1 h2 h3 e => by rw [upd_ne h3]; exact s46 c o h1 h2 (x2 c o h1 h2 h3 e), (src6.up (show n + 1 + 6 * i + 1 + 5 ≤ n + 1 + 6 * (i + 1) by omega)).upd bD bL, upd_same, ?_, fun r m => ?_, by simp; omega⟩
    · exact PySem.Paired.snoc (Paired.imp py6 fun _ _ r => tRow _ _ _ _ tu r) (tRow _ _ _ _ tu ⟨t6, u, _, rfl, e6, ru6, rfl⟩)
    · rcases List.mem_append.mp m with m | m
      · exact dR r m
      · rw [List.mem_singleton.mp m]; exact ⟨eV, d3⟩
  · rintro σ H2 ⟨xl, xw, ys, R, rfl, x2, src2, hy, py, dR, lR⟩
    refine ⟨_, rfl, k B R H2 hB (fun c o h1 h2 e => ?_) (src2.up (by omega)) ⟨B, ys, rfl, hy, py⟩ ⟨dR, by omega⟩⟩
    exact x2 c o h1 h2 (fun q => by rw [q, hB] at e; exact nomatch e) (s1 c o h1 h2 (sB' c o h1 h2 e))
end
end Wk

set_option Elab.async false
set_option linter.all false
set_option maxRecDepth 100000
/-! W46: _law_draw_map, _law_one_to_one. -/
namespace Wk
open PySem L2 PySem.Spec PyProof.Rows
open Pz (Pt Ln)
section
variable {P : Program} {w : World} {K : PySem.W.Frag} {mg : Str → Option Value} {base : Heap}
theorem sc_dmap : FnScope ["_law_source", "_law_row", "_law_n", "_law_one", "_law_k"] ["_law_source"] (defScope (topS 80)) := ⟨rfl, rfl, rfl, by decide +kernel, rfl, by decide +kernel, by decide +kernel⟩
/-- a map that is drawn -/
def LetMp (m : Pz.Mp) : Prop := SzM m ∧ 0 < m.n
def sp_dmap : Sp := fun vs H Q _ => ∃ D L n, vs = [.ref D] ∧ Src D L n H ∧ n + 7 < DRAWS ∧ ∀ u m H', SameY D L H H' → Src D L (n + 7) H' → rM H' u m → LetMp m → Q u H'
theorem ints_map {H : Hp} {zs : List Int} : Paired (rI H) (zs.map V.int) zs := by
  induction zs with
  | nil => exact .nil
  | cons z zs ih => exact .cons rfl ih
theorem ints_eq {H : Hp} {vs : List V} {zs : List Int} (h : Paired (rI H) vs zs) : vs = zs.map V.int := by
  induction h with
  | nil => rfl
  | cons r _ ih => rw [ih, List.map_cons, r]
theorem ok_dmap (T : Tx K mg) : Has P w K mg base "_law_draw_map" 2 sp_dmap := by
  have G1 : Has P w K mg base "_law_pick" 1 sp_pick := ok_pick T
  have G2 : Has P w K mg base "_law_common" 1 sp_gcd := ok_gcd T
  refine has_of T._law_draw_map sc_dmap (fun _ _ _ _ _ _ us hl => match us, hl with | [_], _ => rfl) (fun _ _ _ _ ⟨_, _, _, e, _⟩ => by rw [e]; rfl) fun f cdv A outer s H vs Q E hr h => ?_
  obtain ⟨D, L, n, rfl, src, hn, k⟩ := h
  refine ⟨_, pss_cons (ps_set (i := 1) sc_dmap.nd rfl (Or.inl rfl) (pe_op op_cat (pe_lc (own := [("_law_k", 4)]) (g := gName 4) (tt := tYes) (by rfl) sc_dmap.nd (pi_range1 (by rfl) T.n_range (pa_cons pe_int pa_nil))
        (blkOk_by (own := [("_law_k", 4)]) (N := ["_law_source", "_law_row", "_law_n", "_law_one", "_law_k"]) (sc := defScope (topS 80)) (by decide +kernel))
        (fun _ _ _ _ _ => pg_name (i := 4) sc_dmap.nd rfl (Or.inl rfl)) (fun _ _ _ _ _ => pts_nil) (fun _ _ _ _ _ => pe_op op_sub (pe_has G1 hr (by rfl) (pa_cons (pv 0) (pa_cons pe_int pa_nil))) pe_int))
      (pe_lst (pa_cons (pe_op op_add pe_int (pe_has G1 hr (by rfl) (pa_cons (pv 0) (pa_cons pe_int pa_nil)))) pa_nil))))
    (pss_cons (ps_set (i := 2) sc_dmap.nd rfl (Or.inr rfl) pe_int)
    (pss_cons (ps_for PassesOwn.never rfl (pi_list (pv 1)) (pg_name (i := 3) sc_dmap.nd rfl (Or.inl rfl))
      (pss_one (ps_set (i := 2) sc_dmap.nd rfl (Or.inr rfl) (pe_has G2 hr (by rfl) (pa_cons (pv 2) (pa_cons (pv 3) pa_nil))))))
    (pss_one (ps_ret (pe_callTy call_tuple_of (by rfl) T.n_tuple (by decide +kernel) (pa_cons (pe_lc (own := [("_law_one", 3)]) (g := gName 3) (tt := tYes) (by rfl) sc_dmap.nd (pi_list (pv 1))
        (blkOk_by (own := [("_law_one", 3)]) (N := ["_law_source", "_law_row", "_law_n", "_law_one", "_law_k"]) (sc := defScope (topS 80)) (by decide +kernel))
        (fun _ _ _ _ _ => pg_name (i := 3) sc_dmap.nd rfl (Or.inl rfl)) (fun _ _ _ _ _ => pts_nil) (fun _ _ _ _ _ => pe_op op_fdivZ (pv 3) (pv 2))) pa_nil)))))), ?_⟩
  have sz : sizeLine = 16777216 := rfl
  refine ⟨6, rfl, by decide, by decide, fun B hB => ?_⟩
  obtain ⟨bD, bL⟩ := src.free hB
  refine lc_range (n := (6 : Int).toNat) (fun i H' => SameY D L H H' ∧ Src D L (n + i) H' ∧ ∃ zs : List Int, H' B = some (.lst (zs.map V.int)) ∧ zs.length = i ∧ ∀ z ∈ zs, z.natAbs ≤ 2)
    ⟨SameY.of (same_new hB), src.same (same_new hB), [], upd_same, rfl, fun _ m => nomatch m⟩ (fun i H1 hi ⟨s1, src1, zs, hb, lz, bz⟩ => ?_) fun H1 ⟨s1, src1, zs, hb, lz, bz⟩ => ?_
  · refine ⟨rfl, ?_⟩
    have i6 : i < 6 := hi
    refine ⟨_, rfl, D, L, n + i, 5, rfl, src1, by decide, by decide, by omega, fun j H2 j0 j5 s2 src2 => ?_⟩
    have hb2 := s2 B _ bD bL hb
    refine ⟨_, _, rfl, rfl, _, hb2, by rw [List.length_map]; omega, fun a o h1 h2 e => ?_, (src2.up (show n + i + 1 ≤ n + (i + 1) by omega)).upd bD bL, zs ++ [j - 2], ?_, by simp; omega, fun z m => ?_⟩
    · have aB : a ≠ B := fun q => by rw [q, hB] at e; exact nomatch e
      rw [upd_ne aB]
      exact s2 a _ h1 h2 (s1 a _ h1 h2 e)
    · rw [upd_same, List.map_append]; rfl
    · rcases List.mem_append.mp m with m | m
      · exact bz z m
      · rw [List.mem_singleton.mp m]; omega
  -- the last one
  have l6 : zs.length = 6 := lz
  refine ⟨_, rfl, D, L, n + 6, 3, rfl, src1, by decide, by decide, by omega, fun j H2 j0 j3 s2 src2 => ?_⟩
  refine ⟨_, _, rfl, rfl, by show 1 ≤ sizeLine; decide, fun t ht => ?_⟩
  have s3 : L2.Same H2 (upd H2 t (.lst [.int (1 + j)])) := same_new ht
  have hb3 := s3 _ _ (s2 B _ bD bL hb)
  refine ⟨B, t, _, _, rfl, rfl, hb3, upd_same, by rw [List.length_map]; show zs.length + 1 ≤ _; omega, fun r hrr => ?_⟩
  have s4 := same_new (o := .lst (zs.map V.int ++ [.int (1 + j)])) hrr
  have er : (upd (upd H2 t (.lst [.int (1 + j)])) r (.lst (zs.map V.int ++ [.int (1 + j)]))) r = some (.lst ((zs ++ [1 + j]).map V.int)) := by rw [upd_same, List.map_append]; rfl
  have s24 : SameY D L H (upd (upd H2 t (.lst [.int (1 + j)])) r (.lst (zs.map V.int ++ [.int (1 + j)]))) := (s1.trans s2).trans (SameY.of (s3.trans s4))
  have src4 := src2.same (s3.trans s4)
  generalize upd (upd H2 t (.lst [.int (1 + j)])) r (.lst (zs.map V.int ++ [.int (1 + j)])) = H4 at *
  have lw : (zs ++ [1 + j]).length = 7 := by simp; omega
  have bw : ∀ z ∈ zs ++ [1 + j], z.natAbs ≤ 3 := fun z m => by
    rcases List.mem_append.mp m with m | m
    · have := bz z m; omega
    · rw [List.mem_singleton.mp m]; omega
  -- the greatest common divisor
  refine ⟨_, rfl, r, rfl, ⟨_, SqL.of er⟩, ?_⟩
  refine for_list (K := K) (a := r) (xs := (zs ++ [1 + j]).map V.int) (fun i σ H5 => L2.Same H4 H5 ∧ ∃ (g : Int) (x : Option V), σ = [some (.ref D), some (.ref r), some (.int g), x, none] ∧ 0 ≤ g ∧ (∀ z ∈ (zs ++ [1 + j]).take i, g ∣ z))
    ⟨.refl _, 0, none, rfl, by decide, fun z m => by simp at m⟩ (fun i σ H5 _ ⟨e, _⟩ => SqL.of (e _ _ er)) ?_ ?_
  · rintro i y σ H5 hi ⟨s5, g, x, rfl, g0, gd⟩
    obtain ⟨z, hz, rfl⟩ : ∃ z, (zs ++ [1 + j])[i]? = some z ∧ y = .int z := by
      rw [List.getElem?_map] at hi
      obtain ⟨z, h1, h2⟩ := Option.map_eq_some_iff.mp hi
      exact ⟨z, h1, h2.symm⟩
    refine ⟨_, rfl, _, rfl, _, _, g, z, rfl, rfl, rfl, trivial, fun u H6 s6 r6 => ?_⟩
    obtain rfl : u = .int (Int.gcd g z : Int) := r6
    refine ⟨s5.trans s6, _, _, rfl, by omega, fun q m => ?_⟩
    rw [List.take_add_one, hz] at m
    rcases List.mem_append.mp m with m | m
    · exact Int.dvd_trans (Int.gcd_dvd_left ..) (gd q m)
    · have : q = z := by simpa using m
      rw [this]; exact Int.gcd_dvd_right ..
  · rintro σ H5 ⟨s5, g, x, rfl, g0, gd⟩
    rw [List.length_map, List.take_length] at gd
    have gl := gd (1 + j) (by simp)
    have gne : g ≠ 0 := fun z => by
      rw [z] at gl
      have := Int.zero_dvd.mp gl
      omega
    have gpos : 0 < g := by omega
    have gle : g ≤ 1 + j := Int.le_of_dvd (by omega) gl
    have gc : g ≠ 0 ∧ g.natAbs.log2 < 9000 := ⟨gne, Nat.lt_of_le_of_lt (log_lt (n := 3) (by omega)) (by decide)⟩
    have er5 := s5 _ _ er
    refine ⟨_, rfl, r, rfl, ⟨_, SqL.of er5⟩, fun q hq => ?_⟩
    refine lcL (r := rI) (q := rI) (xs := zs ++ [1 + j]) (f := fun z : Int => some (z / g)) mI tI (SqL.of er5) ints_map hq (by rw [List.length_map]; omega) ?_ ?_
    · intro v z H6 C C0 mz s6 rv c1 c0
      obtain rfl : v = .int z := rv
      refine ⟨rfl, _, rfl, _, rfl, _, _, rfl, rfl, gc, c1 _ _ _ (.refl _) rfl ?_⟩
      show V.int (z.fdiv g) = V.int (z / g)
      rw [fdiv_of (gd z mz)]
    intro H6 ys s6 hy py
    rw [show ((zs ++ [1 + j]).filterMap fun z : Int => some (z / g)) = (zs ++ [1 + j]).map (· / g) by rw [List.filterMap_eq_map']] at py
    have ey := ints_eq py
    subst ey
    refine ⟨q, _, rfl, .inl ⟨SqL.of hy, fun t7 ht7 => ?_⟩⟩
    have s7 := same_new (o := .tup (((zs ++ [1 + j]).map (· / g)).map V.int)) ht7
    have s57 := s5.trans (s6.trans s7)
    match zs, l6, bw, gd with
    | [a, b, c, d, e, f], _, bw, gd =>
      have sz1 : ∀ z ∈ [a, b, c, d, e, f] ++ [1 + j], (z / g).natAbs ≤ 10 := fun z m => Nat.le_trans (Pz.ediv_sz (Nat.le_refl _) (gd z m)) (by have := bw z m; omega)
      refine k _ ⟨a / g, b / g, c / g, d / g, e / g, f / g, (1 + j) / g⟩ _ (s24.trans (SameY.of s57)) (src4.same s57) ⟨t7, rfl, upd_same⟩ ⟨⟨sz1 a (by simp), sz1 b (by simp), sz1 c (by simp), sz1 d (by simp), sz1 e (by simp), sz1 f (by simp), sz1 (1 + j) (by simp)⟩, ?_⟩
      have e1 := Int.mul_ediv_cancel' gl
      exact Pz.pos_of_mul gpos (by rw [e1]; omega)
theorem sc_oto : FnScope ["_law_source", "_law_rule"] ["_law_source"] (defScope (topS 81)) := ⟨rfl, rfl, rfl, by decide +kernel, rfl, by decide +kernel, by decide +kernel⟩
def sp_oto : Sp := fun vs H Q _ => ∃ D L n, vs = [.ref D] ∧ Src D L n H ∧ n + 9 < DRAWS ∧ ∀ u m H', SameY D L H H' → Src D L (n + 9) H' → rM H' u m → SzM m → m.Ok → Q u H'
theorem ok_oto (T : Tx K mg) : Has P w K mg base "_law_one_to_one" 3 sp_oto := by
  have G1 : Has P w K mg base "_law_pick" 1 sp_pick := ok_pick T
  have G2 : Has P w K mg base "_law_draw_map" 2 sp_dmap := ok_dmap T
  refine has_of T._law_one_to_one sc_oto (fun _ _ _ _ _ _ us hl => match us, hl with | [_], _ => rfl) (fun _ _ _ _ ⟨_, _, _, e, _⟩ => by rw [e]; rfl) fun f cdv A outer s H vs Q E hr h => ?_
  obtain ⟨D, L, n, rfl, src, hn, k⟩ := h
  have m1 := hr.mono (show 1 ≤ 2 by decide)
  refine ⟨_, pss_cons (ps_set (i := 1) sc_oto.nd rfl (Or.inl rfl) (pe_has G2 hr (by rfl) (pa_cons (pv 0) pa_nil)))
    (pss_cons (ps_if (pt_cmpR op_ne (pe_op op_mulX (pIx 1) (pIx 1)) (pe_op op_mulX (pIx 1) (pIx 1)) (nomark _)) (pss_one (ps_ret (pv 1))) pss_nil)
    (pss_one (ps_ret (pe_tup (pa_cons pe_int (pa_cons (pe_op op_add pe_int (pe_has G1 m1 (by rfl) (pa_cons (pv 0) (pa_cons pe_int pa_nil)))) (pa_cons pe_int (pa_cons (pe_op op_sub pe_int pe_int) (pa_cons pe_int (pa_cons pe_int
      (pa_cons (pe_op op_add pe_int (pe_has G1 m1 (by rfl) (pa_cons (pv 0) (pa_cons pe_int pa_nil)))) pa_nil))))))))))), ?_⟩
  refine ⟨_, rfl, D, L, n, rfl, src, by omega, fun u m H1 s1 src1 r1 ⟨sm, m0⟩ => ?_⟩
  obtain ⟨t, rfl, ht⟩ := id r1
  have at7 : ∀ {j : Nat} {v : V}, [V.int m.a, .int m.b, .int m.c, .int m.d, .int m.e, .int m.f, .int m.n][j]? = some v → ∀ {Q : VK}, Q v H1 → rIxT K (.ref t) (.int (j : Int)) H1 Q := fun {j v} e {Q} q => ⟨t, _, _, _, rfl, rfl, SqT.of ht, atI_nat e, q⟩
  have c10 : ∀ {x y : Int}, x.natAbs ≤ 10 → y.natAbs ≤ 10 → CMulX x y := fun hx hy => Nat.lt_of_le_of_lt (Nat.add_le_add (log_lt (n := 4) (by omega)) (log_lt (n := 4) (by omega))) (by decide)
  obtain ⟨ba, bb, bc, bd, be, bf, bn⟩ := id sm
  refine ⟨_, rfl, at7 (j := 0) rfl ⟨_, rfl, at7 (j := 3) rfl ⟨_, _, rfl, rfl, c10 ba bd, _, rfl, at7 (j := 1) rfl ⟨_, rfl, at7 (j := 2) rfl ⟨_, _, rfl, rfl, c10 bb bc, rfl, _, rfl, ?_⟩⟩⟩⟩⟩
  by_cases e : m.a * m.d = m.b * m.c
  · rw [decide_eq_true (show V.int (m.a * m.d) = V.int (m.b * m.c) by rw [e])]
    refine ⟨_, rfl, D, L, n + 7, 2, rfl, src1, by decide, by decide, by omega, fun x H2 x0 x2 s2 src2 => ?_⟩
    refine ⟨_, _, rfl, rfl, _, _, rfl, rfl, _, rfl, D, L, n + 8, 2, rfl, src2, by decide, by decide, by omega, fun y H3 y0 y2 s3 src3 => ?_⟩
    refine ⟨_, _, rfl, rfl, by show 7 ≤ sizeLine; decide, fun p hp => ?_⟩
    have sp := same_new (o := .tup [.int 1, .int (1 + x), .int 0, .int (0 - 2), .int 3, .int 1, .int (1 + y)]) hp
    refine k _ ⟨1, 1 + x, 0, 0 - 2, 3, 1, 1 + y⟩ _ (s1.trans (s2.trans (s3.trans (SameY.of sp)))) ((src3.same sp).up (by omega)) ⟨p, rfl, upd_same⟩ ?_ ⟨?_, ?_⟩
    · unfold SzM
      simp only
      omega
    · show 0 < 1 + y; omega
    · show (1 : Int) * (0 - 2) - (1 + x) * 0 ≠ 0
      omega
  · rw [decide_eq_false (show ¬ V.int (m.a * m.d) = V.int (m.b * m.c) from fun z => e (by injection z))]
    exact ⟨_, rfl, k _ m _ s1 (src1.up (by omega)) r1 sm ⟨m0, by omega⟩⟩
end
end Wk

set_option Elab.async false
set_option linter.all false
set_option maxRecDepth 100000
/-! W47: _law_any_order. -/
namespace Wk
open PySem L2 PySem.Spec PyProof.Rows
open Pz (Pt Ln)
theorem pe_bmK {X : Cx} {o e : Expr} {es : List Expr} {name : Str} {id T : String} {r : V → List V → Hp → VK → Prop} {to : TE} {t : TA} {apos cpos : Pos} (K : PySem.W.Frag) (hK : X.K = K) (pa : PlainAttrs T) (slot : Slot T name id) (hty : typeOf (.builtin id) = pure (.type "method_descriptor")) (hm : MtR X id r) (ho : PE X o to) (ha : PA X (e :: es) t)
    (hbase : attributeBase o name X.env (eval o X.env) = eval o X.env := by rfl)
    (hfew : ((backTo cpos (starEach (e :: es) X.env)).all (fun x => !x.1) && (backToKw cpos (keywordEach [] X.env)).all (fun x => x.1.isSome) && decide ((e :: es).length + ([] : List Keyword).length + (if ([] : List Keyword).isEmpty then 0 else 1) < 30)) = true := by rfl)
    (hline : (apos.endLine == cpos.line) = true := by rfl) (hs : starEach (e :: es) X.env = (false, eval e X.env) :: starEach es X.env := by rfl) (hplain : (backTo cpos (starEach es X.env)).any (·.1) = false := by rfl) :
    PE X (.Call (.Attribute o name apos) (e :: es) [] cpos) (tBM K T r to t) := by
  subst hK
  exact pe_bm pa slot hty hm ho ha hbase hfew hline hs hplain
theorem erase_perm {α : Type} (l : List α) {i : Nat} {x : α} (h : l[i]? = some x) : (x :: l.eraseIdx i).Perm l := by
  have hi := (List.getElem?_eq_some_iff.mp h).1
  have hx := (List.getElem?_eq_some_iff.mp h).2
  rw [List.eraseIdx_eq_take_drop_succ]
  have e : l = l.take i ++ x :: l.drop (i + 1) := by
    rw [← hx, ← List.drop_eq_getElem_cons hi, List.take_append_drop]
  conv => rhs; rw [e]
  exact List.perm_middle.symm
theorem Paired.erase {α β : Type} {F : α → β → Prop} : ∀ {xs : List α} {ys : List β} (i : Nat), Paired F xs ys → Paired F (xs.eraseIdx i) (ys.eraseIdx i)
  | _, _, _, .nil => .nil
  | _, _, 0, .cons _ t => t
  | _, _, i + 1, .cons a t => .cons a (Paired.erase i t)
section
variable {P : Program} {w : World} {K : PySem.W.Frag} {mg : Str → Option Value} {base : Heap}
theorem sc_any : FnScope ["_law_source", "_law_things", "_law_rest", "_law_lap"] ["_law_source", "_law_things"] (defScope (topS 67)) := ⟨rfl, rfl, rfl, by decide +kernel, rfl, by decide +kernel, by decide +kernel⟩
def sp_any : Sp := fun vs H Q _ => ∃ D L n b R, vs = [.ref D, .ref b] ∧ Src D L n H ∧ n + 3 < DRAWS ∧ rL rRow H (.ref b) R ∧ b ≠ D ∧ b ≠ L ∧ R.length ≤ 3 ∧ ∀ u S H', SameY D L H H' → Src D L (n + 3) H' → rL rRow H' u S → S.Perm R → Q u H'
theorem ok_any (T : Tx K mg) : Has P w K mg base "_law_any_order" 2 sp_any := by
  have G1 : Has P w K mg base "_law_pick" 1 sp_pick := ok_pick T
  refine has_of T._law_any_order sc_any (fun _ _ _ _ _ _ us hl => match us, hl with | [_, _], _ => rfl) (fun _ _ _ _ ⟨_, _, _, _, _, e, _⟩ => by rw [e]; rfl) fun f cdv A outer s H vs Q E hr h => ?_
  obtain ⟨D, L, n, b, R, rfl, src, hn, ⟨b', xs, eb, hb, pb⟩, bD, bL, lR, k⟩ := h
  cases eb
  refine ⟨_, pss_cons (ps_set (i := 2) sc_any.nd rfl (Or.inr rfl) (pe_callTy call_list_of (by rfl) T.n_list (by decide +kernel) (pa_cons (pv 1) pa_nil)))
    (pss_one (ps_ret (pe_lc (own := [("_law_lap", 3)]) (g := gName 3) (tt := tYes) (by rfl) sc_any.nd (pi_range1 (by rfl) T.n_range (pa_cons (pe_callB call_len_seq (by rfl) T.n_len PySem.boot_len (pa_cons (pv 2) pa_nil)) pa_nil))
      (blkOk_by (own := [("_law_lap", 3)]) (N := ["_law_source", "_law_things", "_law_rest", "_law_lap"]) (sc := defScope (topS 67)) (by decide +kernel))
      (fun _ _ _ _ _ => pg_name (i := 3) sc_any.nd rfl (Or.inl rfl)) (fun _ _ _ _ _ => pts_nil)
      (fun _ _ _ _ _ => pe_bmK K rfl PySem.F.plainAttrs_list PySem.F.slot_list_pop PySem.F.type_list_pop mt_popAt (pv 2) (pa_cons (pe_has G1 hr (by rfl) (pa_cons (pv 0) (pa_cons (pe_callB (call_lenK K rfl) (by rfl) T.n_len PySem.boot_len (pa_cons (pv 2) pa_nil)) pa_nil))) pa_nil))))), ?_⟩
  have lx := Paired.len pb
  refine ⟨_, rfl, b, xs, rfl, .inl (SqL.of hb), fun r hrr => ?_⟩
  obtain ⟨rD, rL'⟩ := src.free hrr
  have s0 : L2.Same H (upd H r (.lst xs)) := same_new hrr
  have e0 : (upd H r (.lst xs)) r = some (.lst xs) := upd_same
  have src0 := src.same s0
  have pb0 : Paired (rRow (upd H r (.lst xs))) xs R := Paired.imp pb fun _ _ q => tRow.mono _ _ _ _ s0 q
  generalize upd H r (.lst xs) = H0 at *
  refine ⟨_, rfl, r, xs, rfl, .inl (SqL.of e0), _, rfl, by omega, by omega, fun B hB => ?_⟩
  obtain ⟨BD, BL⟩ := src0.free hB
  have Br : B ≠ r := fun q => by rw [q, e0] at hB; exact nomatch hB
  have nn : ((xs.length : Int)).toNat = R.length := by omega
  refine lc_range (n := ((xs.length : Int)).toNat) (fun i H' => (∀ a o, a ≠ D → a ≠ L → a ≠ r → H0 a = some o → H' a = some o) ∧ Src D L (n + i) H' ∧ ∃ (vs zs : List V) (S Z : List Pz.Row), H' B = some (.lst vs) ∧ H' r = some (.lst zs) ∧ Paired (rRow H') vs S ∧ Paired (rRow H') zs Z ∧ S.length = i ∧ (S ++ Z).Perm R)
    ⟨fun a o _ _ _ e => same_new hB _ _ e, src0.same (same_new hB), [], xs, [], R, upd_same, same_new hB _ _ e0, .nil, Paired.imp pb0 fun _ _ q => tRow.mono _ _ _ _ (same_new hB) q, rfl, .refl _⟩ (fun i H1 hi ⟨s1, src1, vs, zs, S, Z, hv, hz, pv, pz, lS, pm⟩ => ?_) fun H1 ⟨s1, src1, vs, zs, S, Z, hv, hz, pv, pz, lS, pm⟩ => ?_
  · refine ⟨rfl, ?_⟩
    have lt := pm.length_eq
    rw [List.length_append] at lt
    have lz := Paired.len pz
    have lv := Paired.len pv
    have iR : i < R.length := by omega
    refine ⟨_, rfl, .inl ⟨rfl, _, SqL.of hz⟩, ?_⟩
    refine ⟨_, rfl, _, rfl, r, zs, rfl, .inl (SqL.of hz), ?_⟩
    refine ⟨D, L, n + i, _, rfl, src1, by omega, by omega, by omega, fun x H2 x0 x1 s2 src2 => ?_⟩
    have hz2 := s2 r _ rD rL' hz
    have hv2 := s2 B _ BD BL hv
    obtain ⟨j, rfl⟩ : ∃ j : Nat, x = (j : Int) := ⟨x.toNat, by omega⟩
    have jz : j < zs.length := by omega
    obtain ⟨z, hzj⟩ : ∃ z, zs[j]? = some z := ⟨_, List.getElem?_eq_getElem jz⟩
    obtain ⟨q, hq, rq⟩ := Paired.get pz hzj
    have rq2 := tRow _ _ _ _ (s2.tup src1) rq
    have six : seqIndex? (j : Int) zs.length = some j := by
      have hneg : ¬ ((j : Int) < 0) := by omega
      simp only [seqIndex?, if_neg hneg]
      rw [if_pos (by simp; omega)]
      simp
    refine ⟨r, zs, _, j, z, rfl, rfl, hz2, by omega, by omega, six, hzj, ?_⟩
    have hv3 : (upd H2 r (.lst (zs.eraseIdx j))) B = some (.lst vs) := by rw [upd_ne Br]; exact hv2
    refine ⟨vs, hv3, Nat.lt_of_le_of_lt (show vs.length ≤ 3 by omega) (by decide), ?_⟩
    have t1 : TupSame H2 (upd H2 r (.lst (zs.eraseIdx j))) := tup_upd hz2
    have t2 : TupSame (upd H2 r (.lst (zs.eraseIdx j))) (upd (upd H2 r (.lst (zs.eraseIdx j))) B (.lst (vs ++ [z]))) := tup_upd hv3
    have tt : ∀ {v : V} {y : Pz.Row}, rRow H2 v y → rRow (upd (upd H2 r (.lst (zs.eraseIdx j))) B (.lst (vs ++ [z]))) v y := fun h => tRow _ _ _ _ t2 (tRow _ _ _ _ t1 h)
    refine ⟨fun a o h1 h2 h3 e => ?_, ((src2.up (show n + i + 1 ≤ n + (i + 1) by omega)).upd rD rL').upd BD BL, vs ++ [z], zs.eraseIdx j, S ++ [q], Z.eraseIdx j, upd_same, ?_, ?_, ?_, by simp; omega, ?_⟩
    · have aB : a ≠ B := fun q => by rw [q, hB] at e; exact nomatch e
      rw [upd_ne aB, upd_ne h3]
      exact s2 a _ h1 h2 (s1 a _ h1 h2 h3 e)
    · rw [upd_ne (Ne.symm Br), upd_same]
    · exact PySem.Paired.snoc (Paired.imp pv fun _ _ h => tt (tRow _ _ _ _ (s2.tup src1) h)) (tt rq2)
    · exact Paired.erase j (Paired.imp pz fun _ _ h => tt (tRow _ _ _ _ (s2.tup src1) h))
    · rw [List.append_assoc]
      exact (List.Perm.append_left S (erase_perm Z hq)).trans pm
  · have lt := pm.length_eq
    rw [List.length_append] at lt
    have : Z = [] := List.length_eq_zero_iff.mp (by omega)
    subst this
    rw [List.append_nil] at pm
    refine k (.ref B) S H1 (fun a o h1 h2 e => s1 a o h1 h2 (fun q => by rw [q, hrr] at e; exact nomatch e) (s0 _ _ e)) (src1.up (by omega)) ⟨B, vs, rfl, hv, pv⟩ pm
end
end Wk

set_option Elab.async false
set_option linter.all false
set_option maxRecDepth 100000
/-! W48: things that are written out in the text; plain facts of rows. -/
namespace Wk
open PySem L2 PySem.Spec PyProof.Rows
open Pz (Pt Ln)
/-! ### a new thing, told by its value alone -/
def tNw {α : Type} (r : Rl α) (x : α) : TE := fun _ H Q => ∀ u H', L2.Same H H' → r H' u x → Q u H'
def tNa {α : Type} (r : Rl α) (xs : List α) : TA := fun _ H Q => ∀ us H', L2.Same H H' → Paired (r H') us xs → Q us H'
section
variable {X : Cx} {e e2 e3 : Expr} {es : List Expr} {pos : Pos} {α β : Type}
theorem pe_wk {t t' : TE} (h : PE X e t) (i : ∀ σ H Q, t' σ H Q → t σ H Q) : PE X e t' := ⟨fun pins s σ H Q I q => h.run pins s σ H Q I (i _ _ _ q)⟩
theorem pa_wk {t t' : TA} (h : PA X es t) (i : ∀ σ H Q, t' σ H Q → t σ H Q) : PA X es t' := ⟨fun pos pins s σ H Q I q => h.run pos pins s σ H Q I (i _ _ _ q)⟩
theorem nw_int {i : Int} {j} : PE X (.Constant (.int i) j pos) (tNw rI i) := pe_wk pe_int fun _ H Q h => h _ _ (.refl _) rfl
theorem nw_sub {i k : Int} {j j2} {p1 p2 : Pos} : PE X (.BinOp (.Constant (.int i) j p1) .Sub (.Constant (.int k) j2 p2) pos) (tNw rI (i - k)) := pe_wk (pe_op op_sub pe_int pe_int) fun _ H Q h => ⟨_, _, rfl, rfl, h _ _ (.refl _) rfl⟩
theorem na_nil {r : Rl α} : PA X [] (tNa r []) := pa_wk pa_nil fun _ H Q h => h _ _ (.refl _) .nil
theorem na_cons {r : Rl α} {x : α} {xs : List α} (m : Mono r) (h : PE X e (tNw r x)) (ha : PA X es (tNa r xs)) (hs : starEach (e :: es) X.env = (false, eval e X.env) :: starEach es X.env := by rfl) : PA X (e :: es) (tNa r (x :: xs)) :=
  pa_wk (pa_cons h ha hs) fun _ H Q q => fun u H1 s1 r1 => fun us H2 s2 r2 => q _ _ (s1.trans s2) (.cons (m _ _ _ _ s2 r1) r2)
theorem nw_pt {x y d : Int} {k} (ha : PA X es (tNa rI [x, y, d])) : PE X (.Tuple es k pos) (tNw rP ⟨x, y, d⟩) :=
  pe_wk (pe_tup ha) fun _ H Q q => fun us H1 s1 r1 => by
    have : us = [.int x, .int y, .int d] := ints_eq r1
    subst this
    exact ⟨by show 3 ≤ sizeLine; decide, fun t ht => q _ _ (s1.trans (same_new ht)) ⟨t, rfl, upd_same⟩⟩
theorem nw_tup {r : Rl α} {xs : List α} {k} (m : Mono r) (hl : xs.length ≤ 1000) (ha : PA X es (tNa r xs)) : PE X (.Tuple es k pos) (tNw (rT r) xs) :=
  pe_wk (pe_tup ha) fun _ H Q q => fun us H1 s1 r1 => by
    have l := Paired.len r1
    exact ⟨Nat.le_trans (l ▸ hl) (by decide), fun t ht => q _ _ (s1.trans (same_new ht)) ⟨t, us, rfl, upd_same, Paired.imp r1 fun _ _ z => m _ _ _ _ (same_new ht) z⟩⟩
theorem nw_lst {r : Rl α} {xs : List α} (m : Mono r) (hl : xs.length ≤ 1000) (ha : PA X es (tNa r xs)) : PE X (.List es pos) (tNw (rL r) xs) :=
  pe_wk (pe_lst ha) fun _ H Q q => fun us H1 s1 r1 => by
    have l := Paired.len r1
    exact ⟨Nat.le_trans (l ▸ hl) (by decide), fun t ht => q _ _ (s1.trans (same_new ht)) ⟨t, us, rfl, upd_same, Paired.imp r1 fun _ _ z => m _ _ _ _ (same_new ht) z⟩⟩
theorem nw_row {V : List Pt} {i : Int} {k} (h : PE X e (tNw (rT rP) V)) (h2 : PE X e2 (tNw rI i)) (hs : starEach [e, e2] X.env = (false, eval e X.env) :: starEach [e2] X.env := by rfl) (hs2 : starEach [e2] X.env = (false, eval e2 X.env) :: starEach [] X.env := by rfl) :
    PE X (.Tuple [e, e2] k pos) (tNw rRow (V, i)) :=
  pe_wk (pe_tup (pa_cons h (pa_cons h2 pa_nil hs2) hs)) fun _ H Q q => fun u H1 s1 r1 => fun u2 H2 s2 r2 => ⟨by show 2 ≤ sizeLine; decide, fun t ht => q _ _ (s1.trans (s2.trans (same_new ht))) ⟨t, u, u2, rfl, upd_same, mT mP _ _ _ _ (s2.trans (same_new ht)) r1, r2⟩⟩
end
/-! ### plates that are written out -/
theorem can_lit {x y d : Int} (h : 0 < d) (g : Int.gcd (Int.gcd x y) d = 1) : Pz.Can ⟨x, y, d⟩ := ⟨h, g⟩
theorem pl_one {p : Pt} (h : Pz.Can p) : Pz.IsPl [p] := ⟨[p], List.pairwise_singleton _ _, fun q m => by rw [List.mem_singleton.mp m]; exact h, by simp, rfl⟩
def vStretch : List Pt := [⟨0, 0, 1⟩, ⟨1, 5, 2⟩]
def vOne : List Pt := [⟨3, 7, 1⟩]
def vWide : List Pt := [⟨0 - 9, 0 - 9, 1⟩, ⟨9, 0 - 9, 1⟩, ⟨9, 9, 1⟩, ⟨0 - 9, 9, 1⟩]
theorem pl_stretch : Pz.IsPl vStretch := by
  refine ⟨vStretch, ?_, ?_, by simp [vStretch], ?_⟩
  · simp [Pz.Asc, vStretch, Pz.Lt]
  · intro p m
    simp only [vStretch, List.mem_cons, List.not_mem_nil, or_false] at m
    rcases m with rfl | rfl <;> exact can_lit (by decide) (by decide)
  · simp [Pz.hullA, vStretch, Pz.chainR, Pz.push]
theorem pl_wide : Pz.IsPl vWide := by
  refine ⟨[⟨-9, -9, 1⟩, ⟨-9, 9, 1⟩, ⟨9, -9, 1⟩, ⟨9, 9, 1⟩], ?_, ?_, by simp, ?_⟩
  · simp [Pz.Asc, Pz.Lt]
  · intro p m
    simp only [List.mem_cons, List.not_mem_nil, or_false] at m
    rcases m with rfl | rfl | rfl | rfl <;> exact can_lit (by decide) (by decide)
  · simp [Pz.hullA, vWide, Pz.chainR, Pz.push, Pz.det]
theorem wide_has {p : Pt} (hd : 0 < p.d) (h : Pz.Sz 9 p) : Pz.InC vWide p := fun l k => by
  have k1 := k ⟨0 - 9, 0 - 9, 1⟩ (by simp [vWide])
  have k2 := k ⟨9, 0 - 9, 1⟩ (by simp [vWide])
  have k3 := k ⟨9, 9, 1⟩ (by simp [vWide])
  have k4 := k ⟨0 - 9, 9, 1⟩ (by simp [vWide])
  obtain ⟨hx, hy, _⟩ := h
  simp only [Pz.ev] at *
  have x1 : -9 ≤ p.x := by omega
  have x2 : p.x ≤ 9 := by omega
  have y1 : -9 ≤ p.y := by omega
  have y2 : p.y ≤ 9 := by omega
  have c0 : 0 ≤ l.c := by omega
  have cd := Int.mul_le_mul_of_nonneg_left (show 1 ≤ p.d by omega) c0
  have ax : l.a * (-9) ≤ l.a * p.x ∨ l.a * 9 ≤ l.a * p.x := by
    rcases Int.le_total 0 l.a with q | q
    · exact .inl (Int.mul_le_mul_of_nonneg_left x1 q)
    · have := Int.mul_le_mul_of_nonneg_left x2 (show 0 ≤ -l.a by omega)
      simp only [Int.neg_mul] at this
      exact .inr (by omega)
  have bx : l.b * (-9) ≤ l.b * p.y ∨ l.b * 9 ≤ l.b * p.y := by
    rcases Int.le_total 0 l.b with q | q
    · exact .inl (Int.mul_le_mul_of_nonneg_left y1 q)
    · have := Int.mul_le_mul_of_nonneg_left y2 (show 0 ≤ -l.b by omega)
      simp only [Int.neg_mul] at this
      exact .inr (by omega)
  rcases ax with ax | ax <;> rcases bx with bx | bx <;> omega
/-! ### rows -/
theorem LetE.p {V : List Pt} (h : LetE V) : LetP V := ⟨h.1, fun q m => sm_of (h.1.can q m) (h.2.1 q m) (by decide +kernel), Nat.le_trans h.2.2 (by decide)⟩
theorem wt_abs {rows : List Pz.Row} {b : Nat} (h : ∀ r ∈ rows, r.2.natAbs ≤ b) (V : List Pt) : (Pz.wt rows V).natAbs ≤ rows.length * b := by
  induction rows with
  | nil => exact Nat.zero_le _
  | cons r rows ih =>
    have e : Pz.wt (r :: rows) V = (if r.1 = V then r.2 else 0) + Pz.wt rows V := by
      unfold Pz.wt
      rw [Pz.pr_cons]
      split <;> simp
    have h1 := h r (by simp)
    have h2 := ih fun q m => h q (List.mem_cons_of_mem _ m)
    rw [e, List.length_cons, Nat.succ_mul]
    split <;> omega
theorem norm_len {S rows : List Pz.Row} (n : Norm S rows) : S.length ≤ rows.length := by
  have := Pz.len_sub n.nd fun V m => by
    obtain ⟨s, ms, rfl⟩ := List.mem_map.mp m
    exact (n.w s ms).2.2
  simpa using this
theorem norm_of {R rows : List Pz.Row} (o : Own R) (s : Pz.Same R rows) : Norm R rows := ⟨o.1, fun r m => by
  have e : r.2 = Pz.wt rows r.1 := by rw [← s r.1, wt_nodup o.1 r m]
  refine ⟨e, o.2 r m, ?_⟩
  by_cases q : r.1 ∈ rows.map (·.1)
  · exact q
  · exact absurd (e.trans (wt_none q)) (o.2 r m), fun V nz => by
  by_cases q : V ∈ R.map (·.1)
  · exact q
  · exact absurd ((s V).symm.trans (wt_none q)) nz⟩
/-- rows of plates with a word, few, of little weight -/
structure RowsOk (φ : List Pt → Prop) (n b : Nat) (R : List Pz.Row) : Prop where
  pl : ∀ r ∈ R, φ r.1
  len : R.length ≤ n
  w : ∀ r ∈ R, r.2.natAbs ≤ b
theorem RowsOk.norm {φ : List Pt → Prop} {n b : Nat} {R S : List Pz.Row} (h : RowsOk φ n b R) (m : Norm S R) : RowsOk φ n (n * b) S := ⟨fun s ms => by
  obtain ⟨r, mr, e⟩ := List.mem_map.mp (m.w s ms).2.2
  exact e ▸ h.pl r mr, Nat.le_trans (norm_len m) h.len, fun s ms => by
  rw [(m.w s ms).1]
  exact Nat.le_trans (wt_abs h.w s.1) (Nat.mul_le_mul_right _ h.len)⟩
theorem RowsOk.app {φ : List Pt → Prop} {n b n' b' : Nat} {R S : List Pz.Row} (h : RowsOk φ n b R) (h' : RowsOk φ n' b' S) : RowsOk φ (n + n') (b + b') (R ++ S) := ⟨fun r m => (List.mem_append.mp m).elim (h.pl r) (h'.pl r), by rw [List.length_append]; have := h.len; have := h'.len; omega,
  fun r m => (List.mem_append.mp m).elim (fun m => Nat.le_trans (h.w r m) (by omega)) fun m => Nat.le_trans (h'.w r m) (by omega)⟩
theorem RowsOk.mul {φ : List Pt → Prop} {n b k : Nat} {R : List Pz.Row} {i : Int} (h : RowsOk φ n b R) (hi : i.natAbs ≤ k) : RowsOk φ n (b * k) (mulR R i) := ⟨fun r m => by
  obtain ⟨q, mq, rfl⟩ := List.mem_map.mp m
  exact h.pl q mq, by unfold mulR; rw [List.length_map]; exact h.len, fun r m => by
  obtain ⟨q, mq, rfl⟩ := List.mem_map.mp m
  exact Pz.abs_mul (h.w q mq) hi⟩
theorem RowsOk.let_ {φ : List Pt → Prop} {n b : Nat} {R : List Pz.Row} (h : RowsOk φ n b R) (k : ∀ V, φ V → LetP V) (hn : n ≤ ROWS) : LetR R := ⟨fun r m => k _ (h.pl r m), Nat.le_trans h.len hn⟩
theorem RowsOk.small {φ : List Pt → Prop} {n b : Nat} {R : List Pz.Row} (h : RowsOk φ n b R) (hb : b < 2 ^ 64) : SmW R := fun r m => Nat.lt_of_le_of_lt (h.w r m) (Nat.lt_trans hb (by decide +kernel))
theorem pr_mulR (R : List Pz.Row) (n : Int) (φ : List Pt → Int) : Pz.pr (mulR R n) φ = n * Pz.pr R φ := Pz.pr_scale n R φ
end Wk

set_option Elab.async false
set_option linter.all false
set_option maxRecDepth 100000
/-! W49: _law_heap. -/
namespace Wk
open PySem L2 PySem.Spec PyProof.Rows
open Pz (Pt Ln)
theorem pr_perm {R S : List Pz.Row} (h : R.Perm S) (φ : List Pt → Int) : Pz.pr R φ = Pz.pr S φ := by
  induction h with
  | nil => rfl
  | cons r _ ih => rw [Pz.pr_cons, Pz.pr_cons, ih]
  | swap r s R => rw [Pz.pr_cons, Pz.pr_cons, Pz.pr_cons, Pz.pr_cons]; omega
  | trans _ _ h1 h2 => exact h1.trans h2
theorem Norm.pr {R rows : List Pz.Row} (h : Norm R rows) (φ : List Pt → Int) : Pz.pr R φ = Pz.pr rows φ := h.same.pr φ
def more0 : List Pz.Row := [(vStretch, 2), (vOne, 0 - 1)]
theorem more_ok : RowsOk LetE 2 2 more0 := by
  refine ⟨fun r m => ?_, by decide, fun r m => ?_⟩
  · simp only [more0, List.mem_cons, List.not_mem_nil, or_false] at m
    rcases m with rfl | rfl
    · refine ⟨pl_stretch, fun q m => ?_, by decide⟩
      simp only [vStretch, List.mem_cons, List.not_mem_nil, or_false] at m
      rcases m with rfl | rfl <;> exact ⟨by decide, by decide, by decide⟩
    · refine ⟨pl_one (can_lit (by decide) (by decide)), fun q m => ?_, by decide⟩
      simp only [vOne, List.mem_cons, List.not_mem_nil, or_false] at m
      subst m
      exact ⟨by decide, by decide, by decide⟩
  · simp only [more0, List.mem_cons, List.not_mem_nil, or_false] at m
    rcases m with rfl | rfl <;> decide
theorem nil_ok {φ : List Pt → Prop} : RowsOk φ 0 0 [] := ⟨fun _ m => (nomatch m), Nat.le_refl _, fun _ m => nomatch m⟩
theorem letE {n b : Nat} {R : List Pz.Row} (h : RowsOk LetE n b R) (hn : n ≤ ROWS) : LetR R := h.let_ (fun _ => LetE.p) hn
section
variable {P : Program} {w : World} {K : PySem.W.Frag} {mg : Str → Option Value} {base : Heap} {C : Addr}
theorem sc_lheap : FnScope ["_law_source", "_law_rows", "_law_told", "_law_road", "_law_more"] ["_law_source", "_law_rows"] (defScope (topS 82)) := ⟨rfl, rfl, rfl, by decide +kernel, rfl, by decide +kernel, by decide +kernel⟩
def sp_lheap (P : Program) (w : World) (C : Addr) : Sp := fun vs H Q _ => ∃ D L n b R, vs = [.ref D, .ref b] ∧ Src D L n H ∧ n + 4 < DRAWS ∧ rL rRow H (.ref b) R ∧ b ≠ D ∧ b ≠ L ∧ LetW R ∧ ∀ u S H', SameY D L H H' → Src D L (n + 4) H' → HpAt P w C H' u S → Pz.Same S R → Q u H'
theorem ok_lheap (T : Tx K mg) (c : Tc K mg C) : Has P w K mg base "_law_heap" 13 (sp_lheap P w C) := by
  have G1 : Has P w K mg base "_law_pick" 1 sp_pick := ok_pick T
  have G2 : Has P w K mg base "_law_any_order" 2 sp_any := ok_any T
  refine has_of T._law_heap sc_lheap (fun _ _ _ _ _ _ us hl => match us, hl with | [_, _], _ => rfl) (fun _ _ _ _ ⟨_, _, _, _, _, e, _⟩ => by rw [e]; rfl) fun f cdv A outer s H vs Q E hr h => ?_
  obtain ⟨D, L, n, b, R, rfl, src, hn, hR, bD, bL, ⟨eR, lR⟩, k⟩ := h
  have m1 := hr.mono (show 1 ≤ 12 by decide)
  have m2 := hr.mono (show 2 ≤ 12 by decide)
  have m10 := hr.mono (show 10 ≤ 12 by decide)
  have m11 := hr.mono (show 11 ≤ 12 by decide)
  refine ⟨_, pss_cons (ps_par (i := 2) (j := 3) (by rfl) sc_lheap.nd rfl rfl (by decide) rfl rfl (pa_cons (pe_heap T c m10 (by rfl) (pe_has G2 m2 (by rfl) (pa_cons (pv 0) (pa_cons (pv 1) pa_nil)))) (pa_cons (pe_has G1 m1 (by rfl) (pa_cons (pv 0) (pa_cons pe_int pa_nil))) pa_nil)) (by rfl))
    (pss_cons (ps_if (pt_cmpR op_eq (pv 3) pe_int (nomark _))
      (pss_cons (ps_set (i := 4) sc_lheap.nd rfl (Or.inl rfl) (pe_heap T c m10 (by rfl) (nw_lst (r := rRow) (xs := more0) tRow.mono (by decide) (na_cons tRow.mono (nw_row (nw_tup mP (by decide) (na_cons mP (nw_pt (na_cons mI nw_int (na_cons mI nw_int (na_cons mI nw_int na_nil))))
          (na_cons mP (nw_pt (na_cons mI nw_int (na_cons mI nw_int (na_cons mI nw_int na_nil)))) na_nil))) nw_int)
          (na_cons tRow.mono (nw_row (nw_tup mP (by decide) (na_cons mP (nw_pt (na_cons mI nw_int (na_cons mI nw_int (na_cons mI nw_int na_nil)))) na_nil)) nw_sub) na_nil)))))
      (pss_one (ps_ret (pe_op (op_subH T c hr) (pe_op (op_addH T c m11) (pv 2) (pv 4)) (pv 4))))) pss_nil)
    (pss_cons (ps_if (pt_cmpR op_eq (pv 3) pe_int (nomark _))
      (pss_one (ps_ret (pe_op (op_mulI T c hr) (pe_op op_sub pe_int pe_int) (pe_op (op_mulI T c hr) (pe_op op_sub pe_int pe_int) (pv 2))))) pss_nil)
    (pss_one (ps_ret (pe_ifExp (pt_cmpR op_eq (pv 3) pe_int (nomark _))
      (pe_op (op_subH T c hr) (pe_heap T c m10 (by rfl) (nw_lst (r := rRow) (xs := []) tRow.mono (by decide) na_nil)) (pe_op (op_subH T c hr) (pe_heap T c m10 (by rfl) (nw_lst (r := rRow) (xs := []) tRow.mono (by decide) na_nil)) (pv 2))) (pv 2)))))), ?_⟩
  have rowsE : ROWS = 100000 := rfl
  have okR : RowsOk LetE 3 3 R := ⟨fun r m => (eR r m).1, lR, fun r m => (eR r m).2⟩
  refine ⟨_, rfl, _, rfl, D, L, n, b, R, rfl, src, by omega, hR, bD, bL, lR, fun u1 S1 H1 s1 src1 r1 pm => ?_⟩
  have ok1 : RowsOk LetE 3 3 S1 := ⟨fun r m => okR.pl r (pm.mem_iff.mp m), by rw [pm.length_eq]; exact lR, fun r m => okR.w r (pm.mem_iff.mp m)⟩
  refine ⟨S1, r1, letE ok1 (by omega), fun u2 T0 H2 s2 h2 nm => ?_⟩
  have okT : RowsOk LetE 3 9 T0 := ok1.norm nm
  have src2 := src1.same s2
  have prT : ∀ φ, Pz.pr T0 φ = Pz.pr R φ := fun φ => (nm.pr φ).trans (pr_perm pm φ)
  refine ⟨_, rfl, D, L, n + 3, 5, rfl, src2, by decide, by decide, by omega, fun j H3 j0 j5 s3 src3 => ⟨_, _, rfl, ?_⟩⟩
  have h3 := SameY.hp src2 s3 h2
  have s03 : SameY D L H H3 := s1.trans ((SameY.of s2).trans s3)
  -- all roads end so
  have fin : ∀ u U H', L2.Same H3 H' → HpAt P w C H' u U → (∀ φ, Pz.pr U φ = Pz.pr R φ) → Q u H' := fun u U H' s hu e => k u U H' (s03.trans (SameY.of s)) (src3.same s) hu (Pz.same_iff.mpr e)
  refine ⟨_, rfl, rfl, _, rfl, ?_⟩
  by_cases c0 : j = 0
  · rw [decide_eq_true (show V.int j = V.int 0 by rw [c0])]
    intro u4 H4 s4 r4
    refine ⟨more0, r4, letE more_ok (by omega), fun u5 Mo H5 s5 h5 nM => ?_⟩
    have okM : RowsOk LetE 2 4 Mo := more_ok.norm nM
    have s45 := s4.trans s5
    refine ⟨_, rfl, _, rfl, T0, Mo, mHp _ _ _ _ s45 h3, h5, letE (okT.app okM) (by omega), fun u6 A H6 s6 h6 nA => ?_⟩
    have okA : RowsOk LetE 5 65 A := (okT.app okM).norm nA
    refine ⟨_, rfl, A, Mo, h6, mHp _ _ _ _ s6 h5, letE okM (by omega), okM.small (by decide), fun S' nS => ⟨letE (okA.app ((okM.mul (k := 1) (by decide)).norm nS)) (by omega), fun u7 U H7 s7 h7 nU => ?_⟩⟩
    refine fin u7 U H7 (s45.trans (s6.trans s7)) h7 fun φ => ?_
    rw [nU.pr, Pz.pr_app, nA.pr, Pz.pr_app, nS.pr, pr_mulR, prT]
    omega
  · rw [decide_eq_false (show ¬ V.int j = V.int 0 from fun z => c0 (by injection z))]
    refine ⟨_, rfl, rfl, _, rfl, ?_⟩
    by_cases c1 : j = 1
    · rw [decide_eq_true (show V.int j = V.int 1 by rw [c1])]
      refine ⟨_, _, rfl, rfl, _, _, rfl, rfl, _, rfl, T0, _, rfl, h3, letE okT (by omega), okT.small (by decide), by decide +kernel, fun u4 T1 H4 s4 h4 n1 => ?_⟩
      have ok1 : RowsOk LetE 3 27 T1 := (okT.mul (k := 1) (by decide)).norm n1
      refine ⟨T1, _, rfl, h4, letE ok1 (by omega), ok1.small (by decide), by decide +kernel, fun u5 T2 H5 s5 h5 n2 => ?_⟩
      refine fin u5 T2 H5 (s4.trans s5) h5 fun φ => ?_
      rw [n2.pr, pr_mulR, n1.pr, pr_mulR, prT]
      omega
    · rw [decide_eq_false (show ¬ V.int j = V.int 1 from fun z => c1 (by injection z))]
      refine ⟨_, rfl, rfl, _, rfl, ?_⟩
      by_cases c2 : j = 2
      · rw [decide_eq_true (show V.int j = V.int 2 by rw [c2])]
        intro u4 H4 s4 r4
        refine ⟨[], r4, letE nil_ok (by omega), fun u5 E1 H5 s5 h5 n1 => ?_⟩
        intro u6 H6 s6 r6
        refine ⟨[], r6, letE nil_ok (by omega), fun u7 E2 H7 s7 h7 n2 => ?_⟩
        have okE1 : RowsOk LetE 0 0 E1 := nil_ok.norm n1
        have okE2 : RowsOk LetE 0 0 E2 := nil_ok.norm n2
        have s57 := s6.trans s7
        have s37 := s4.trans (s5.trans s57)
        refine ⟨_, rfl, E2, T0, h7, mHp _ _ _ _ s37 h3, letE okT (by omega), okT.small (by decide), fun S' nS => ?_⟩
        have okS : RowsOk LetE 3 27 S' := (okT.mul (k := 1) (by decide)).norm nS
        refine ⟨letE (okE2.app okS) (by omega), fun u8 U1 H8 s8 h8 n8 => ?_⟩
        have okU : RowsOk LetE 3 81 U1 := (okE2.app okS).norm n8
        refine ⟨E1, U1, mHp _ _ _ _ (s57.trans s8) h5, h8, letE okU (by omega), okU.small (by decide), fun S2 nS2 => ?_⟩
        have okS2 : RowsOk LetE 3 243 S2 := (okU.mul (k := 1) (by decide)).norm nS2
        refine ⟨letE (okE1.app okS2) (by omega), fun u9 U2 H9 s9 h9 n9 => ?_⟩
        refine fin u9 U2 H9 (s37.trans (s8.trans s9)) h9 fun φ => ?_
        rw [n9.pr, Pz.pr_app, n1.pr, nS2.pr, pr_mulR, n8.pr, Pz.pr_app, n2.pr, nS.pr, pr_mulR, prT, Pz.pr_nil]
        omega
      · rw [decide_eq_false (show ¬ V.int j = V.int 2 from fun z => c2 (by injection z))]
        exact ⟨_, rfl, fin _ T0 H3 (.refl _) h3 prT⟩
end
end Wk

set_option Elab.async false
set_option linter.all false
set_option maxRecDepth 100000
/-! W50: how large what the law makes may be. -/
namespace Wk
open PySem L2 PySem.Spec PyProof.Rows
open Pz (Pt Ln)
/-- a small plate -/
def SmallP (V : List Pt) : Prop := Pz.IsPl V ∧ (∀ q ∈ V, Pz.Sz 270 q) ∧ V.length ≤ 4
def c1 : Nat := 2 * (2 * (270 * 270) * 270)
def c2 : Nat := 2 * (2 * ((2 * (c1 * c1)) * (2 * (c1 * c1))) * (2 * (c1 * c1)))
/-- what two small ones both have -/
def MidP (V : List Pt) : Prop := Pz.Lv 12 c1 V
theorem sz_up {m n : Nat} {p : Pt} (h : Pz.Sz m p) (l : m ≤ n) : Pz.Sz n p := ⟨Nat.le_trans h.1 l, Nat.le_trans h.2.1 l, Nat.le_trans h.2.2 l⟩
theorem LetE.small {V : List Pt} (h : LetE V) : SmallP V := ⟨h.1, fun q m => sz_up (h.2.1 q m) (by decide), h.2.2⟩
theorem SmallP.lv {V : List Pt} (h : SmallP V) : Pz.Lv 6 c1 V := Pz.lv_of h.1 h.2.1 (by have := h.2.2; omega) (by decide) (Nat.le_refl _) (by decide +kernel)
theorem SmallP.mid {V : List Pt} (h : SmallP V) : MidP V := h.lv.mono (by decide) (Nat.le_refl _)
theorem SmallP.bord {V : List Pt} (h : SmallP V) : (∀ x ∈ Pz.bordM V, Pz.SzL c1 x) ∧ (Pz.bordM V).length ≤ 6 := ⟨Pz.bord_sz h.2.1, by have := Pz.bord_len V; have := h.2.2; omega⟩
theorem lv_letB {k c : Nat} {V : List Pt} (l : Pz.Lv k c V) (h : 2 * (c * c) ≤ MID) (hk : k ≤ 75) : LetB V := ⟨lv_let l rfl (Nat.le_trans h mid_lim) hk, fun q m => sz_up (l.sz q m) h, l.pl.nodup⟩
theorem c1_mid : 2 * (c1 * c1) ≤ MID := by decide +kernel
theorem SmallP.letB {V : List Pt} (h : SmallP V) : LetB V := lv_letB h.lv c1_mid (by decide)
theorem MidP.letB {V : List Pt} (h : MidP V) : LetB V := lv_letB h c1_mid (by decide)
theorem MidP.bord {V : List Pt} (h : MidP V) : (∀ x ∈ Pz.bordM V, Pz.SzL c2 x) ∧ (Pz.bordM V).length ≤ 26 := ⟨Pz.bord_sz h.sz, by have := Pz.bord_len V; have := h.len; omega⟩
theorem num1 : c1 ≤ LIM ∧ 2 * (c1 * c1) ≤ LIM ∧ 2 * ((2 * (c1 * c1)) * (3 * (c1 * (2 * (c1 * c1))))) ≤ LIM := by decide +kernel
theorem num2 : c2 ≤ LIM ∧ 2 * (c2 * c2) ≤ LIM ∧ 2 * ((2 * (c2 * c2)) * (3 * (c2 * (2 * (c2 * c2))))) ≤ LIM ∧ c1 ≤ c2 := by decide +kernel
/-- a middle one and a small one -/
theorem fit_mid {V W : List Pt} (hV : MidP V) (hW : SmallP W) : Fit V W := ⟨hW.1, hW.letB, 12, c1, _, rfl, hV, hW.bord.1, by have := hW.bord.2; omega, num1.1, num1.2.1, num1.2.2⟩
theorem fit_small {V W : List Pt} (hV : SmallP V) (hW : SmallP W) : Fit V W := fit_mid hV.mid hW
theorem fit_in {V W : List Pt} (hV : SmallP V) (hW : MidP W) : Fit V W := ⟨hW.pl, hW.letB, 6, c2, _, rfl, hV.lv.mono (Nat.le_refl _) num2.2.2.2, hW.bord.1, by have := hW.bord.2; omega, num2.1, num2.2.1, num2.2.2.1⟩
theorem meet_cases {V W U : List Pt} (e : Pz.meetM V W = some U) : U = W ∨ Pz.cutAll (Pz.bordM W) V = some U := by
  match W, e with
  | [], e => exact .inr e
  | [q], e =>
    have : (if Pz.hasM V q then some [q] else none) = some U := e
    split at this
    · exact .inl (Option.some.inj this).symm
    · exact nomatch this
  | _ :: _ :: _, e => exact .inr e
theorem meet_mid {V W U : List Pt} (hV : SmallP V) (hW : SmallP W) (e : Pz.meetM V W = some U) : MidP U := by
  rcases meet_cases e with rfl | e
  · exact hW.mid
  · exact (hV.lv.cuts hW.bord.1 e).mono (by have := hW.bord.2; omega) (Nat.le_refl _)
theorem fit_let {V W U : List Pt} (f : Fit V W) (e : Pz.meetM V W = some U) : LetP U := by
  obtain ⟨pl, lb, k, c, n, en, lv, sB, hk, _, hn, _⟩ := f
  rcases meet_cases e with rfl | e
  · exact ⟨pl, fun q m => (lb.1.1 q m).2, lb.1.len⟩
  · have l := lv.cuts sB e
    have b := lv_let l en hn hk
    exact ⟨l.pl, fun q m => (b.1 q m).2, b.len⟩
/-! ### rows -/
theorem mem_over {R S : List Pz.Row} {x : Pz.Row} (m : x ∈ Pz.overR R S) : ∃ r ∈ R, ∃ s ∈ S, Pz.meetM r.1 s.1 = some x.1 ∧ x.2 = r.2 * s.2 := by
  unfold Pz.overR Pz.overG at m
  obtain ⟨r, mr, m⟩ := List.mem_flatMap.mp m
  obtain ⟨s, ms, e⟩ := List.mem_filterMap.mp m
  obtain ⟨V, h1, h2⟩ := Option.map_eq_some_iff.mp e
  exact ⟨r, mr, s, ms, by rw [h1, ← h2], by rw [← h2]⟩
theorem over_len (R S : List Pz.Row) : (Pz.overR R S).length ≤ R.length * S.length := by
  induction R with
  | nil => exact Nat.zero_le _
  | cons r R ih =>
    have e : Pz.overR (r :: R) S = S.filterMap (metG r) ++ Pz.overR R S := rfl
    rw [e, List.length_append, List.length_cons, Nat.succ_mul]
    have := List.length_filterMap_le (metG r) S
    omega
theorem fitH {φ ψ : List Pt → Prop} {n b n' b' : Nat} {R S : List Pz.Row} (h : RowsOk φ n b R) (h' : RowsOk ψ n' b' S) (f : ∀ V W, φ V → ψ W → Fit V W) (hb : b < 2 ^ 64) (hb' : b' < 2 ^ 64) (few : n * n' ≤ 400) : FitH R S := by
  have fw : R.length * S.length ≤ 400 := Nat.le_trans (Nat.mul_le_mul h.len h'.len) few
  refine ⟨fun r mr s ms => f _ _ (h.pl r mr) (h'.pl s ms), h.small hb, h'.small hb', ⟨fun x m => ?_, Nat.le_trans (over_len R S) (Nat.le_trans fw (by decide))⟩, fw⟩
  obtain ⟨r, mr, s, ms, e, _⟩ := mem_over m
  exact fit_let (f _ _ (h.pl r mr) (h'.pl s ms)) e
theorem over_ok {φ ψ χ : List Pt → Prop} {n b n' b' : Nat} {R S : List Pz.Row} (h : RowsOk φ n b R) (h' : RowsOk ψ n' b' S) (f : ∀ V W U, φ V → ψ W → Pz.meetM V W = some U → χ U) : RowsOk χ (n * n') (b * b') (Pz.overR R S) := ⟨fun x m => by
  obtain ⟨r, mr, s, ms, e, _⟩ := mem_over m
  exact f _ _ _ (h.pl r mr) (h'.pl s ms) e, Nat.le_trans (over_len R S) (Nat.mul_le_mul h.len h'.len), fun x m => by
  obtain ⟨r, mr, s, ms, _, e⟩ := mem_over m
  rw [e]
  exact Pz.abs_mul (h.w r mr) (h'.w s ms)⟩
theorem RowsOk.imp {φ ψ : List Pt → Prop} {n b : Nat} {R : List Pz.Row} (h : RowsOk φ n b R) (k : ∀ V, φ V → ψ V) : RowsOk ψ n b R := ⟨fun r m => k _ (h.pl r m), h.len, h.w⟩
theorem map_small {V : List Pt} {m : Pz.Mp} (h : LetE V) (sm : SzM m) (om : m.Ok) : SmallP (Pz.mapM m V) := by
  have hc := Pz.led_can om h.1.pos
  have ne : V.map (Pz.ledP m) ≠ [] := fun e => h.1.ne (List.map_eq_nil_iff.mp e)
  refine ⟨Pz.mapM_pl om h.1, fun q mq => ?_, ?_⟩
  · have := hull_sub hc q mq
    obtain ⟨p, mp, rfl⟩ := List.mem_map.mp this
    exact led_sz sm (h.2.1 p mp)
  · have := hull_len hc ne
    rw [List.length_map] at this
    exact Nat.le_trans this h.2.2
theorem mapR_ok {n b : Nat} {R : List Pz.Row} {m : Pz.Mp} (h : RowsOk LetE n b R) (sm : SzM m) (om : m.Ok) : RowsOk SmallP n b (mapR m R) := ⟨fun r mr => by
  obtain ⟨q, mq, rfl⟩ := List.mem_map.mp mr
  exact map_small (h.pl q mq) sm om, by unfold mapR; rw [List.length_map]; exact h.len, fun r mr => by
  obtain ⟨q, mq, rfl⟩ := List.mem_map.mp mr
  exact h.w q mq⟩
theorem mid_letM {V : List Pt} (h : MidP V) : LetM V := ⟨fun q m => ⟨h.pl.can q m, h.letB.2.1 q m⟩, h.letB.1.len, h.pl.ne⟩
theorem RowsOk.letMR {n b : Nat} {R : List Pz.Row} (h : RowsOk MidP n b R) (hn : n ≤ ROWS) : LetMR R := ⟨fun r m => mid_letM (h.pl r m), Nat.le_trans h.len hn⟩
theorem RowsOk.allP {φ : List Pt → Prop} {n b : Nat} {R : List Pz.Row} (h : RowsOk φ n b R) (k : ∀ V, φ V → Pz.IsPl V) : Pz.AllP R := fun r m => k _ (h.pl r m)
theorem look_abs {n b : Nat} {R : List Pz.Row} {φ : List Pt → Prop} (h : RowsOk φ n b R) (p : Pt) : (lookM R p).natAbs ≤ n * b := by
  have : ∀ S : List Pz.Row, (∀ r ∈ S, r.2.natAbs ≤ b) → (lookM S p).natAbs ≤ S.length * b := fun S => by
    induction S with
    | nil => intro _; exact Nat.zero_le _
    | cons r S ih =>
      intro hb
      have h1 := hb r (by simp)
      have h2 := ih fun q m => hb q (List.mem_cons_of_mem _ m)
      unfold lookM at h2 ⊢
      rw [List.length_cons, Nat.succ_mul]
      by_cases q : Pz.hasM r.1 p = true
      · rw [List.filter_cons_of_pos (p := fun r : Pz.Row => Pz.hasM r.1 p) q, List.map_cons, List.sum_cons]
        omega
      · rw [List.filter_cons_of_neg (p := fun r : Pz.Row => Pz.hasM r.1 p) q]
        omega
  exact Nat.le_trans (this R h.w) (Nat.mul_le_mul_right _ h.len)
end Wk

set_option Elab.async false
set_option linter.all false
set_option maxRecDepth 100000
set_option maxHeartbeats 4000000
/-! W51: the law's tests, one by one. -/
namespace Wk
open PySem L2 PySem.Spec PyProof.Rows
open Pz (Pt Ln)
def wide0 : List Pz.Row := [(vWide, 1)]
theorem wide_ok : RowsOk SmallP 1 1 wide0 := by
  refine ⟨fun r m => ?_, by decide, fun r m => ?_⟩
  · rw [List.mem_singleton.mp m]
    refine ⟨pl_wide, fun q m => ?_, by decide⟩
    simp only [vWide, List.mem_cons, List.not_mem_nil, or_false] at m
    rcases m with rfl | rfl | rfl | rfl <;> exact ⟨by decide, by decide, by decide⟩
  · rw [List.mem_singleton.mp m]; decide
theorem SmallP.p {V : List Pt} (h : SmallP V) : LetP V := ⟨h.1, fun q m => sm_of (h.1.can q m) (h.2.1 q m) (by decide +kernel), by have := h.2.2; exact Nat.le_trans this (by decide)⟩
theorem hp_upd {P : Program} {w : World} {C B : Addr} {H : Hp} {v : V} {R : List Pz.Row} {ys zs : List V} (x : HpAt P w C H v R) (h : H B = some (.lst ys)) : HpAt P w C (upd H B (.lst zs)) v R := by
  obtain ⟨a, dx, d, e, ha, nd, ow⟩ := x
  have tu : TupSame H (upd H B (.lst zs)) := tup_upd h
  refine ⟨a, dx, d, e, by rw [upd_ne (fun q => by rw [q, h] at ha; cases ha)]; exact ha, ?_, ow⟩
  obtain ⟨o, xs, z⟩ := nd
  refine ⟨o, xs, ?_, z.ex, z.dat, z.ents.mono tu, z.nd, z.sys, z.len⟩
  have := z.at_
  rw [upd_ne (fun q => by rw [q, h] at this; cases this)]
  exact this
/-- a heap that the law has drawn -/
def Drawn (S : List Pz.Row) : Prop := ∃ R, LetW R ∧ Pz.Same S R
theorem Drawn.ok {S : List Pz.Row} (h : Drawn S) (o : Own S) : RowsOk LetE 3 9 S := by
  obtain ⟨R, ⟨h1, h2⟩, s⟩ := h
  exact (show RowsOk LetE 3 3 R from ⟨fun r m => (h1 r m).1, h2, fun r m => (h1 r m).2⟩).norm (norm_of o s)

/-- what a lap has in hand -/
structure Lap (P : Program) (w : World) (C : Addr) (H : Hp) (f g h b : V) (F G Hh B : List Pz.Row) : Prop where
  f : HpAt P w C H f F
  g : HpAt P w C H g G
  h : HpAt P w C H h Hh
  b : HpAt P w C H b B
  of : RowsOk LetE 3 9 F
  og : RowsOk LetE 3 9 G
  oh : RowsOk LetE 3 9 Hh
  nb : Norm B (Pz.overR F G)
section
variable {P : Program} {w : World} {C : Addr} {H : Hp} {f g h b : V} {F G Hh B : List Pz.Row}
theorem Lap.mono {H' : Hp} (l : Lap P w C H f g h b F G Hh B) (s : L2.Same H H') : Lap P w C H' f g h b F G Hh B := ⟨mHp _ _ _ _ s l.f, mHp _ _ _ _ s l.g, mHp _ _ _ _ s l.h, mHp _ _ _ _ s l.b, l.of, l.og, l.oh, l.nb⟩
theorem Lap.sy {D L : Addr} {n : Nat} {H' : Hp} (l : Lap P w C H f g h b F G Hh B) (src : Src D L n H) (s : SameY D L H H') : Lap P w C H' f g h b F G Hh B := ⟨SameY.hp src s l.f, SameY.hp src s l.g, SameY.hp src s l.h, SameY.hp src s l.b, l.of, l.og, l.oh, l.nb⟩
theorem okOver {R S X : List Pz.Row} (h : RowsOk LetE 3 9 R) (h' : RowsOk LetE 3 9 S) (n : Norm X (Pz.overR R S)) : RowsOk MidP 9 729 X := (over_ok h h' (fun V W U a b e => meet_mid a.small b.small e)).norm n
theorem fitS {n b n' b' : Nat} {R S : List Pz.Row} (h : RowsOk SmallP n b R) (h' : RowsOk SmallP n' b' S) (hb : b < 2 ^ 64) (hb' : b' < 2 ^ 64) (few : n * n' ≤ 400) : FitH R S := fitH h h' (fun _ _ => fit_small) hb hb' few
theorem fitM {n b n' b' : Nat} {R S : List Pz.Row} (h : RowsOk MidP n b R) (h' : RowsOk SmallP n' b' S) (hb : b < 2 ^ 64) (hb' : b' < 2 ^ 64) (few : n * n' ≤ 400) : FitH R S := fitH h h' (fun _ _ => fit_mid) hb hb' few
theorem fitI {n b n' b' : Nat} {R S : List Pz.Row} (h : RowsOk SmallP n b R) (h' : RowsOk MidP n' b' S) (hb : b < 2 ^ 64) (hb' : b' < 2 ^ 64) (few : n * n' ≤ 400) : FitH R S := fitH h h' (fun _ _ => fit_in) hb hb' few
theorem RowsOk.s {n b : Nat} {R : List Pz.Row} (h : RowsOk LetE n b R) : RowsOk SmallP n b R := h.imp fun _ => LetE.small
theorem RowsOk.a {n b : Nat} {R : List Pz.Row} (h : RowsOk LetE n b R) : Pz.AllP R := h.allP fun _ k => k.1
theorem Lap.ob (l : Lap P w C H f g h b F G Hh B) : RowsOk MidP 9 729 B := okOver l.of l.og l.nb
variable {D : Ends} {v0 v1 v2 v3 v4 v9 v10 v11 v12 : Option V}
theorem t_swap (l : Lap P w C H f g h b F G Hh B)
    (k : ∀ H', L2.Same H H' → D.nx [v0, v1, v2, v3, v4, some f, some g, some h, some b, v9, v10, v11, v12] H') :
    tIfS (tOr (tTest (tOp (rNeH P w C) (tCall (sp_over P w C) [] E0 (tCons (tVar 6) (tCons (tVar 5) tNil))) (tVar 8)))
      (tTest (tOp (rNeH P w C) (tCall (sp_over P w C) [] E0 (tCons (tVar 8) (tCons (tVar 7) tNil))) (tCall (sp_over P w C) [] E0 (tCons (tVar 5) (tCons (tCall (sp_over P w C) [] E0 (tCons (tVar 6) (tCons (tVar 7) tNil))) tNil))))))
      (tRet (tC (V.bl false))) tNext D [v0, v1, v2, v3, v4, some f, some g, some h, some b, v9, v10, v11, v12] H := by
  refine ⟨_, rfl, _, rfl, _, _, G, F, rfl, l.g, l.f, fitS l.og.s l.of.s (by decide) (by decide) (by decide), fun u1 U1 H1 s1 h1 n1 => ?_⟩
  have l1 := l.mono s1
  refine ⟨_, rfl, U1, B, h1, l1.b, n1.same.trans ((Pz.over_comm l.of.a l.og.a).trans l.nb.same.symm), ?_⟩
  refine ⟨_, rfl, ?_⟩
  refine ⟨_, rfl, _, rfl, _, _, B, Hh, rfl, l1.b, l1.h, fitM l.ob l.oh.s (by decide) (by decide) (by decide), fun u2 U2 H2 s2 h2 n2 => ?_⟩
  have l2 := l1.mono s2
  refine ⟨_, rfl, _, rfl, _, rfl, _, _, G, Hh, rfl, l2.g, l2.h, fitS l.og.s l.oh.s (by decide) (by decide) (by decide), fun u3 U3 H3 s3 h3 n3 => ?_⟩
  have l3 := l2.mono s3
  refine ⟨_, _, F, U3, rfl, l3.f, h3, fitI l.of.s (okOver l.og l.oh n3) (by decide) (by decide) (by decide), fun u4 U4 H4 s4 h4 n4 => ?_⟩
  refine ⟨U2, U4, mHp _ _ _ _ s4 (mHp _ _ _ _ s3 h2), h4, n2.same.trans ((Pz.over_assoc l.of.a l.og.a l.oh.a l.nb.same n3.same).trans n4.same.symm), ?_⟩
  exact ⟨_, rfl, k _ (s1.trans (s2.trans (s3.trans s4)))⟩

theorem MidP.p {V : List Pt} (h : MidP V) : LetP V := by
  have b := lv_let h rfl num1.2.1 (by decide)
  exact ⟨h.pl, fun q m => (b.1 q m).2, b.len⟩
theorem RowsOk.le {n b : Nat} {R : List Pz.Row} (h : RowsOk LetE n b R) (hn : n ≤ ROWS) : LetR R := h.let_ (fun _ k => k.small.p) hn
theorem RowsOk.lm {n b : Nat} {R : List Pz.Row} (h : RowsOk MidP n b R) (hn : n ≤ ROWS) : LetR R := h.let_ (fun _ k => k.p) hn
theorem t_sum (l : Lap P w C H f g h b F G Hh B)
    (k : ∀ H', L2.Same H H' → D.nx [v0, v1, v2, v3, v4, some f, some g, some h, some b, v9, v10, v11, v12] H') :
    tIfS (tOr (tTest (tOp (rNeH P w C) (tCall (sp_over P w C) [] E0 (tCons (tVar 5) (tCons (tOp (rAddH P w C) (tVar 6) (tOp (rMulI P w C) (tC (V.int 3)) (tVar 7))) tNil)))
        (tOp (rAddH P w C) (tVar 8) (tOp (rMulI P w C) (tC (V.int 3)) (tCall (sp_over P w C) [] E0 (tCons (tVar 5) (tCons (tVar 7) tNil)))))))
      (tTest (tOp (rNeH P w C) (tCall (sp_over P w C) [] E0 (tCons (tVar 5) (tCons (tOp (rSubH P w C) (tVar 6) (tVar 6)) tNil))) (tHeap P w C (tNw (rL rRow) [])))))
      (tRet (tC (V.bl false))) tNext D [v0, v1, v2, v3, v4, some f, some g, some h, some b, v9, v10, v11, v12] H := by
  refine ⟨_, rfl, _, rfl, _, rfl, Hh, 3, rfl, l.h, l.oh.le (by decide), l.oh.small (by decide), by decide +kernel, fun u1 U1 H1 s1 h1 n1 => ?_⟩
  have l1 := l.mono s1
  have o1 := (l.oh.mul (k := 3) (i := 3) (by decide)).norm n1
  refine ⟨G, U1, l1.g, h1, (l.og.app o1).le (by decide), fun u2 U2 H2 s2 h2 n2 => ?_⟩
  have l2 := l1.mono s2
  have o2 := (l.og.app o1).norm n2
  refine ⟨_, _, F, U2, rfl, l2.f, h2, fitS l.of.s o2.s (by decide) (by decide) (by decide), fun u3 U3 H3 s3 h3 n3 => ?_⟩
  have l3 := l2.mono s3
  refine ⟨_, rfl, _, rfl, _, rfl, _, _, F, Hh, rfl, l3.f, l3.h, fitS l.of.s l.oh.s (by decide) (by decide) (by decide), fun u4 U4 H4 s4 h4 n4 => ?_⟩
  have l4 := l3.mono s4
  have o4 := okOver l.of l.oh n4
  refine ⟨U4, 3, rfl, h4, o4.lm (by decide), o4.small (by decide), by decide +kernel, fun u5 U5 H5 s5 h5 n5 => ?_⟩
  have l5 := l4.mono s5
  have o5 := (o4.mul (k := 3) (i := 3) (by decide)).norm n5
  refine ⟨B, U5, l5.b, h5, (l.ob.app o5).lm (by decide), fun u6 U6 H6 s6 h6 n6 => ?_⟩
  have l6 := l5.mono s6
  refine ⟨U3, U6, mHp _ _ _ _ (s4.trans (s5.trans s6)) h3, h6, Pz.same_iff.mpr fun φ => ?_, ?_⟩
  · rw [n3.pr, Pz.over_sum 3 (fun φ => by rw [n2.pr, Pz.pr_app, n1.pr, pr_mulR]) l.nb.same n4.same, n6.pr, Pz.pr_app, n5.pr, pr_mulR]
  refine ⟨_, rfl, ?_⟩
  refine ⟨_, rfl, _, rfl, _, rfl, G, G, l6.g, l6.g, l.og.le (by decide), l.og.small (by decide), fun S7 n7 => ?_⟩
  have o7 := (l.og.mul (k := 1) (i := -1) (by decide)).norm n7
  refine ⟨(l.og.app o7).le (by decide), fun u8 U8 H8 s8 h8 n8 => ?_⟩
  have l8 := l6.mono s8
  have o8 := (l.og.app o7).norm n8
  refine ⟨_, _, F, U8, rfl, l8.f, h8, fitS l.of.s o8.s (by decide) (by decide) (by decide), fun u9 U9 H9 s9 h9 n9 => ?_⟩
  intro ua Ha sa ra
  refine ⟨[], ra, ⟨(fun _ m => nomatch m), by decide⟩, fun ub Ub Hb sb hb nb => ?_⟩
  refine ⟨U9, Ub, mHp _ _ _ _ (sa.trans sb) h9, hb, Pz.same_iff.mpr fun φ => ?_, ?_⟩
  · rw [n9.pr, Pz.over_null (fun φ => by rw [n8.pr, Pz.pr_app, n7.pr, pr_mulR]; omega), nb.pr]
    rfl
  exact ⟨_, rfl, k _ (s1.trans (s2.trans (s3.trans (s4.trans (s5.trans (s6.trans (s8.trans (s9.trans (sa.trans sb)))))))))⟩
theorem pr_wide (φ : List Pt → Int) : Pz.pr wide0 φ = φ vWide := by simp [wide0, Pz.pr]
theorem t_wide {uw : V} {W0 : List Pz.Row} (l : Lap P w C H f g h b F G Hh B) (hW : HpAt P w C H uw W0) (oW : RowsOk SmallP 1 1 W0) (nW : Norm W0 wide0)
    (k : ∀ H', L2.Same H H' → D.nx [v0, v1, some uw, v3, v4, some f, some g, some h, some b, v9, v10, v11, v12] H') :
    tIfS (tOr (tTest (tOp (rNeH P w C) (tCall (sp_over P w C) [] E0 (tCons (tVar 5) (tCons (tVar 2) tNil))) (tVar 5)))
      (tTest (tOp (rNeH P w C) (tCall (sp_over P w C) [] E0 (tCons (tVar 2) (tCons (tVar 5) tNil))) (tVar 5))))
      (tRet (tC (V.bl false))) tNext D [v0, v1, some uw, v3, v4, some f, some g, some h, some b, v9, v10, v11, v12] H := by
  have z : Pz.Same (Pz.overR F W0) F ∧ Pz.Same (Pz.overR W0 F) F := Pz.over_wide l.of.a pl_wide (fun φ => by rw [nW.pr, pr_wide]) fun r m q _ i =>
    i.mono fun p mp => wide_has ((l.of.pl r m).1.pos p mp) ((l.of.pl r m).2.1 p mp)
  refine ⟨_, rfl, _, rfl, _, _, F, W0, rfl, l.f, hW, fitS l.of.s oW (by decide) (by decide) (by decide), fun u1 U1 H1 s1 h1 n1 => ?_⟩
  have l1 := l.mono s1
  refine ⟨_, rfl, U1, F, h1, l1.f, n1.same.trans z.1, ?_⟩
  refine ⟨_, rfl, ?_⟩
  refine ⟨_, rfl, _, rfl, _, _, W0, F, rfl, mHp _ _ _ _ s1 hW, l1.f, fitS oW l.of.s (by decide) (by decide) (by decide), fun u2 U2 H2 s2 h2 n2 => ?_⟩
  have l2 := l1.mono s2
  refine ⟨_, rfl, U2, F, h2, l2.f, n2.same.trans z.2, ?_⟩
  exact ⟨_, rfl, k _ (s1.trans s2)⟩
theorem RowsOk.m {n b : Nat} {R : List Pz.Row} (h : RowsOk LetE n b R) : RowsOk MidP n b R := h.imp fun _ k => k.small.mid
theorem RowsOk.v {n b : Nat} {R : List Pz.Row} (h : RowsOk MidP n b R) : ∀ r ∈ R, LetV r.1 := fun r m => (h.pl r m).letB.1
theorem t_led {u : V} {m : Pz.Mp} (hm : rM H u m) (sm : SzM m) (om : m.Ok) (l : Lap P w C H f g h b F G Hh B)
    (k : ∀ H', L2.Same H H' → D.nx [v0, v1, v2, v3, v4, some f, some g, some h, some b, some u, v10, v11, v12] H') :
    tIfS (tTest (tOp (rNeH P w C) (tCall (sp_over P w C) [] E0 (tCons (tCall (sp_ledh P w C) [] E0 (tCons (tVar 5) (tCons (tVar 9) tNil))) (tCons (tCall (sp_ledh P w C) [] E0 (tCons (tVar 6) (tCons (tVar 9) tNil))) tNil))) (tCall (sp_ledh P w C) [] E0 (tCons (tVar 8) (tCons (tVar 9) tNil)))))
      (tRet (tC (V.bl false))) tNext D [v0, v1, v2, v3, v4, some f, some g, some h, some b, some u, v10, v11, v12] H := by
  refine ⟨_, rfl, _, rfl, _, _, F, m, rfl, l.f, hm, l.of.m.letMR (by decide), sm, om, fun u1 U1 H1 s1 h1 n1 => ?_⟩
  have l1 := l.mono s1
  refine ⟨_, rfl, _, rfl, _, _, G, m, rfl, l1.g, tM.mono _ _ _ _ s1 hm, l.og.m.letMR (by decide), sm, om, fun u2 U2 H2 s2 h2 n2 => ?_⟩
  have l2 := l1.mono s2
  have o1 := (mapR_ok l.of sm om).norm n1
  have o2 := (mapR_ok l.og sm om).norm n2
  refine ⟨_, _, U1, U2, rfl, mHp _ _ _ _ s2 h1, h2, fitS o1 o2 (by decide) (by decide) (by decide), fun u3 U3 H3 s3 h3 n3 => ?_⟩
  have l3 := l2.mono s3
  refine ⟨_, rfl, _, rfl, _, _, B, m, rfl, l3.b, tM.mono _ _ _ _ (s1.trans (s2.trans s3)) hm, l.ob.letMR (by decide), sm, om, fun u4 U4 H4 s4 h4 n4 => ?_⟩
  refine ⟨U3, U4, mHp _ _ _ _ s4 h3, h4, n3.same.trans ((Pz.over_led om l.of.a l.og.a l.nb.same n1.same n2.same n4.same).trans (fun _ => rfl)), ?_⟩
  exact ⟨_, rfl, k _ (s1.trans (s2.trans (s3.trans s4)))⟩
theorem t_mir (l : Lap P w C H f g h b F G Hh B)
    (k : ∀ H', L2.Same H H' → D.nx [v0, v1, v2, v3, v4, some f, some g, some h, some b, v9, v10, v11, v12] H') :
    tIfS (tTest (tOp (rNeH P w C) (tCall (sp_over P w C) [] E0 (tCons (tCall (sp_mirh P w C) [] E0 (tCons (tVar 5) tNil)) (tCons (tCall (sp_mirh P w C) [] E0 (tCons (tVar 6) tNil)) tNil))) (tCall (sp_mirh P w C) [] E0 (tCons (tVar 8) tNil))))
      (tRet (tC (V.bl false))) tNext D [v0, v1, v2, v3, v4, some f, some g, some h, some b, v9, v10, v11, v12] H := by
  refine ⟨_, rfl, _, F, rfl, l.f, l.of.m.letMR (by decide), l.of.m.v, fun u1 U1 H1 s1 h1 n1 => ?_⟩
  have l1 := l.mono s1
  refine ⟨_, rfl, _, G, rfl, l1.g, l.og.m.letMR (by decide), l.og.m.v, fun u2 U2 H2 s2 h2 n2 => ?_⟩
  have l2 := l1.mono s2
  have o1 := (mapR_ok l.of sz_mirror ok_mirrorM).norm n1
  have o2 := (mapR_ok l.og sz_mirror ok_mirrorM).norm n2
  refine ⟨_, _, U1, U2, rfl, mHp _ _ _ _ s2 h1, h2, fitS o1 o2 (by decide) (by decide) (by decide), fun u3 U3 H3 s3 h3 n3 => ?_⟩
  have l3 := l2.mono s3
  refine ⟨_, rfl, _, B, rfl, l3.b, l.ob.letMR (by decide), l.ob.v, fun u4 U4 H4 s4 h4 n4 => ?_⟩
  refine ⟨U3, U4, mHp _ _ _ _ s4 h3, h4, n3.same.trans ((Pz.over_led ok_mirrorM l.of.a l.og.a l.nb.same n1.same n2.same n4.same).trans (fun _ => rfl)), ?_⟩
  exact ⟨_, rfl, k _ (s1.trans (s2.trans (s3.trans s4)))⟩
theorem t_two (l : Lap P w C H f g h b F G Hh B)
    (k : ∀ H', L2.Same H H' → D.nx [v0, v1, v2, v3, v4, some f, some g, some h, some b, v9, v10, v11, v12] H') :
    tIfS (tTest (tOp (rNeH P w C) (tCall (sp_over P w C) [] E0 (tCons (tCall (sp_sch P w C) [] E0 (tCons (tVar 5) (tCons (tC (V.int 2)) (tCons (tC (V.int 3)) tNil)))) (tCons (tCall (sp_sch P w C) [] E0 (tCons (tVar 6) (tCons (tC (V.int 2)) (tCons (tC (V.int 3)) tNil)))) tNil))) (tCall (sp_sch P w C) [] E0 (tCons (tVar 8) (tCons (tC (V.int 2)) (tCons (tC (V.int 3)) tNil))))))
      (tRet (tC (V.bl false))) tNext D [v0, v1, v2, v3, v4, some f, some g, some h, some b, v9, v10, v11, v12] H := by
  refine ⟨_, rfl, _, F, rfl, l.f, l.of.m.letMR (by decide), fun u1 U1 H1 s1 h1 n1 => ?_⟩
  have l1 := l.mono s1
  refine ⟨_, rfl, _, G, rfl, l1.g, l.og.m.letMR (by decide), fun u2 U2 H2 s2 h2 n2 => ?_⟩
  have l2 := l1.mono s2
  have o1 := (mapR_ok l.of sz_two ok_twoM).norm n1
  have o2 := (mapR_ok l.og sz_two ok_twoM).norm n2
  refine ⟨_, _, U1, U2, rfl, mHp _ _ _ _ s2 h1, h2, fitS o1 o2 (by decide) (by decide) (by decide), fun u3 U3 H3 s3 h3 n3 => ?_⟩
  have l3 := l2.mono s3
  refine ⟨_, rfl, _, B, rfl, l3.b, l.ob.letMR (by decide), fun u4 U4 H4 s4 h4 n4 => ?_⟩
  refine ⟨U3, U4, mHp _ _ _ _ s4 h3, h4, n3.same.trans ((Pz.over_led ok_twoM l.of.a l.og.a l.nb.same n1.same n2.same n4.same).trans (fun _ => rfl)), ?_⟩
  exact ⟨_, rfl, k _ (s1.trans (s2.trans (s3.trans s4)))⟩
/-- Heap([(v, n)]) -/
theorem heap1 {v : V} {n : Int} {U : List Pt} {Q : VK} (r : rT rP H v U) (l : LetP U) (k : ∀ u R H', L2.Same H H' → HpAt P w C H' u R → Norm R [(U, n)] → Q u H') :
    [v, V.int n].length ≤ sizeLine ∧ ∀ p, H p = none → ([V.ref p].length ≤ sizeLine ∧ ∀ q, (upd H p (.tup [v, .int n])) q = none →
      ∃ rows, rL rRow (upd (upd H p (.tup [v, .int n])) q (.lst [.ref p])) (.ref q) rows ∧ LetR rows ∧ NewH P w C rows (upd (upd H p (.tup [v, .int n])) q (.lst [.ref p])) Q) := by
  refine ⟨show 2 ≤ sizeLine by decide, fun p hp => ⟨show 1 ≤ sizeLine by decide, fun q hq => ?_⟩⟩
  have s1 : L2.Same H (upd H p (.tup [v, .int n])) := same_new hp
  have s2 : L2.Same (upd H p (.tup [v, .int n])) (upd (upd H p (.tup [v, .int n])) q (.lst [.ref p])) := same_new hq
  refine ⟨[(U, n)], ⟨q, [.ref p], rfl, upd_same, .cons ⟨p, v, .int n, rfl, s2 _ _ upd_same, mT mP _ _ _ _ (s1.trans s2) r, rfl⟩ .nil⟩, ⟨fun x m => ?_, show 1 ≤ ROWS by decide⟩, fun u R H' s hu nu => k u R H' (s1.trans (s2.trans s)) hu nu⟩
  rw [List.mem_singleton.mp m]
  exact l
theorem rows1 {φ : List Pt → Prop} {U : List Pt} {n : Int} {b : Nat} (h : φ U) (hb : n.natAbs ≤ b) : RowsOk φ 1 b [(U, n)] := by
  refine ⟨fun x m => ?_, Nat.le_refl _, fun x m => ?_⟩ <;> rw [List.mem_singleton.mp m]
  · exact h
  · exact hb
theorem pr_1 (U : List Pt) (n : Int) (φ : List Pt → Int) : Pz.pr [(U, n)] φ = n * φ U := by simp [Pz.pr]
theorem pl_one1 {p : Pt} (h : Pz.Can p) : Pz.IsPl [p] := ⟨[p], by simp [Pz.Asc], fun q m => by rw [List.mem_singleton.mp m]; exact h, by simp, rfl⟩
theorem t_point {vp : V} {p : Pt} (hp : rP H vp p) (dp : LetD p) (l : Lap P w C H f g h b F G Hh B)
    (k : ∀ H', L2.Same H H' → D.nx [v0, v1, v2, v3, v4, some f, some g, some h, some b, v9, some vp, v11, v12] H') :
    tIfS (tTest (tOp (rNeH P w C) (tCall (sp_over P w C) [] E0 (tCons (tVar 5) (tCons (tHeap P w C (tLst (tCons (tTup (tCons (tTup (tCons (tVar 10) tNil)) (tCons (tC (V.int 1)) tNil))) tNil))) tNil)))
        (tOp (rMulI P w C) (tCall (sp_look P w C) [] E0 (tCons (tVar 5) (tCons (tVar 10) tNil))) (tHeap P w C (tLst (tCons (tTup (tCons (tTup (tCons (tVar 10) tNil)) (tCons (tC (V.int 1)) tNil))) tNil))))))
      (tRet (tC (V.bl false))) tNext D [v0, v1, v2, v3, v4, some f, some g, some h, some b, v9, some vp, v11, v12] H := by
  have sp : SmallP [p] := ⟨pl_one1 dp.1, fun q m => by rw [List.mem_singleton.mp m]; exact sz_up dp.2 (by decide), show 1 ≤ 4 by decide⟩
  have up : ∀ {H' : Hp} {c : Addr}, L2.Same H H' → H' c = none → rT rP (upd H' c (.tup [vp])) (.ref c) [p] := fun {H' c} s hc => ⟨c, [vp], rfl, upd_same, .cons (mP _ _ _ _ (s.trans (same_new hc)) hp) .nil⟩
  refine ⟨_, rfl, _, rfl, show 1 ≤ sizeLine by decide, fun c hc => ?_⟩
  have s0 : L2.Same H (upd H c (.tup [vp])) := same_new hc
  refine heap1 (n := 1) (up (fun _ _ e => e) hc) sp.p fun u1 U1 H1 s1 h1 n1 => ?_
  have l1 := l.mono (s0.trans s1)
  have o1 := (rows1 (n := 1) (b := 1) sp (by decide)).norm n1
  refine ⟨_, _, F, U1, rfl, l1.f, h1, fitS l.of.s o1 (by decide) (by decide) (by decide), fun u2 U2 H2 s2 h2 n2 => ?_⟩
  have l2 := l1.mono s2
  refine ⟨_, rfl, _, rfl, _, _, F, p, rfl, l2.f, mP _ _ _ _ (s0.trans (s1.trans s2)) hp, dp.sm, fun r m => ⟨(l.of.pl r m).small.p.2.1, (l.of.pl r m).1.ne, (l.of.pl r m).small.p.2.2⟩, Nat.le_trans l.of.len (by decide), fun H3 s3 => ?_⟩
  have l3 := l2.mono s3
  refine ⟨_, rfl, show 1 ≤ sizeLine by decide, fun e he => ?_⟩
  have s4 : L2.Same H3 (upd H3 e (.tup [vp])) := same_new he
  refine heap1 (n := 1) (up (s0.trans (s1.trans (s2.trans s3))) he) sp.p fun u5 U5 H5 s5 h5 n5 => ?_
  have o5 := (rows1 (n := 1) (b := 1) sp (by decide)).norm n5
  refine ⟨U5, lookM F p, rfl, h5, o5.let_ (fun _ k => k.p) (by decide), o5.small (by decide), Nat.lt_of_le_of_lt (look_abs l.of p) (by decide +kernel), fun u6 U6 H6 s6 h6 n6 => ?_⟩
  refine ⟨U2, U6, mHp _ _ _ _ (s3.trans (s4.trans (s5.trans s6))) h2, h6, Pz.same_iff.mpr fun φ => ?_, ?_⟩
  · rw [n2.pr, Pz.over_point (p := p) (fun φ => by rw [n1.pr, pr_1]; omega), n6.pr, pr_mulR, n5.pr, pr_1]
    show lookM F p * _ = _
    rw [Int.one_mul]
  exact ⟨_, rfl, k _ (s0.trans (s1.trans (s2.trans (s3.trans (s4.trans (s5.trans s6))))))⟩
theorem t_plate {vp : V} {U : List Pt} {X : List Pz.Row} (hX : HpAt P w C H vp X) (nX : Norm X [(U, 3)]) (lU : LetE U) (l : Lap P w C H f g h b F G Hh B)
    (k : ∀ H', L2.Same H H' → D.nx [v0, v1, v2, v3, v4, some f, some g, some h, some b, v9, v10, some vp, v12] H') :
    tIfS (tOr (tTest (tOp (rNeH P w C) (tCall (sp_over P w C) [] E0 (tCons (tVar 11) (tCons (tVar 11) tNil))) (tOp (rMulI P w C) (tC (V.int 3)) (tVar 11))))
      (tTest (tOp (rNeH P w C) (tCall (sp_over P w C) [] E0 (tCons (tCall (sp_over P w C) [] E0 (tCons (tVar 11) (tCons (tVar 6) tNil))) (tCons (tVar 11) tNil))) (tOp (rMulI P w C) (tC (V.int 3)) (tCall (sp_over P w C) [] E0 (tCons (tVar 11) (tCons (tVar 6) tNil)))))))
      (tRet (tC (V.bl false))) tNext D [v0, v1, v2, v3, v4, some f, some g, some h, some b, v9, v10, some vp, v12] H := by
  have oX : RowsOk LetE 1 3 X := (rows1 (n := 3) (b := 3) lU (by decide)).norm nX
  have ew : ∀ φ, Pz.pr X φ = 3 * φ U := fun φ => by rw [nX.pr, pr_1]
  have oM : ∀ {Y : List Pz.Row}, Norm Y (Pz.overR X G) → RowsOk MidP 3 (3 * 27) Y := fun n => (over_ok oX l.og (fun V W U a b e => meet_mid a.small b.small e)).norm n
  refine ⟨_, rfl, _, rfl, _, _, X, X, rfl, hX, hX, fitS oX.s oX.s (by decide) (by decide) (by decide), fun u1 U1 H1 s1 h1 n1 => ?_⟩
  have l1 := l.mono s1
  have x1 := mHp _ _ _ _ s1 hX
  refine ⟨_, rfl, X, 3, rfl, x1, oX.le (by decide), oX.small (by decide), by decide +kernel, fun u2 U2 H2 s2 h2 n2 => ?_⟩
  have l2 := l1.mono s2
  have x2 := mHp _ _ _ _ s2 x1
  refine ⟨U1, U2, mHp _ _ _ _ s2 h1, h2, Pz.same_iff.mpr fun φ => ?_, ?_⟩
  · rw [n1.pr, Pz.over_one lU.1 ew, n2.pr, pr_mulR]
  refine ⟨_, rfl, ?_⟩
  refine ⟨_, rfl, _, rfl, _, _, X, G, rfl, x2, l2.g, fitS oX.s l.og.s (by decide) (by decide) (by decide), fun u3 U3 H3 s3 h3 n3 => ?_⟩
  have l3 := l2.mono s3
  have x3 := mHp _ _ _ _ s3 x2
  refine ⟨_, rfl, _, _, U3, X, rfl, h3, x3, fitM (oM n3) oX.s (by decide) (by decide) (by decide), fun u4 U4 H4 s4 h4 n4 => ?_⟩
  have l4 := l3.mono s4
  have x4 := mHp _ _ _ _ s4 x3
  refine ⟨_, rfl, _, rfl, _, _, X, G, rfl, x4, l4.g, fitS oX.s l.og.s (by decide) (by decide) (by decide), fun u5 U5 H5 s5 h5 n5 => ?_⟩
  have o5 := oM n5
  refine ⟨U5, 3, rfl, h5, o5.lm (by decide), o5.small (by decide), by decide +kernel, fun u6 U6 H6 s6 h6 n6 => ?_⟩
  refine ⟨U4, U6, mHp _ _ _ _ (s5.trans s6) h4, h6, Pz.same_iff.mpr fun φ => ?_, ?_⟩
  · rw [n4.pr, Pz.over_again lU.1 l.og.a ew n3.same, n6.pr, pr_mulR, n5.pr, n3.pr]
  exact ⟨_, rfl, k _ (s1.trans (s2.trans (s3.trans (s4.trans (s5.trans s6)))))⟩
end
end Wk

set_option Elab.async false
set_option linter.all false
set_option maxRecDepth 100000
set_option maxHeartbeats 4000000
/-! W52: law. -/
namespace Wk
open PySem L2 PySem.Spec PyProof.Rows
open Pz (Pt Ln)
theorem paired3 {α : Type} {r : V → α → Prop} {vs : List V} {a b c : α} (h : Paired r vs [a, b, c]) : ∃ x y z, vs = [x, y, z] ∧ r x a ∧ r y b ∧ r z c := by
  cases h with
  | cons h1 h => cases h with
    | cons h2 h => cases h with
      | cons h3 h => cases h; exact ⟨_, _, _, rfl, h1, h2, h3⟩
theorem hp_own {P : Program} {w : World} {C : Addr} {H : Hp} {v : V} {R : List Pz.Row} (h : HpAt P w C H v R) : Own R := by
  obtain ⟨_, _, _, _, _, _, o⟩ := h
  exact o
section
variable {P : Program} {w : World} {K : PySem.W.Frag} {mg : Str → Option Value} {base : Heap} {C : Addr}
abbrev lawN : List Str := ["_law_script", "_law_source", "_law_wide", "_law_lap", "_law_pool", "_law_f", "_law_g", "_law_h", "_law_both", "_law_rule", "_law_p", "_law_plate", "_law_turn_here"]
theorem sc_law : FnScope lawN ["_law_script"] (defScope (topS 83)) := ⟨rfl, rfl, rfl, by decide +kernel, rfl, by decide +kernel, by decide +kernel⟩
def sp_law (K : PySem.W.Frag) : Sp := fun vs H Q _ => ∃ (a : Addr) (ns : List Int), vs = [.ref a] ∧ SqL K H a (ns.map V.int) ∧ ns.length ≤ 63 ∧ (∀ z ∈ ns, z.natAbs.log2 ≤ 1048576) ∧ ∀ H', Q (.bl true) H'
theorem ok_law {f : Addr} {fd : FuncData} (F0 : Fun K "law" "law" (topS 83) f fd) (T : Tx K mg) (c : Tc K mg C) : FnOk P w K mg base CX0 14 f fd ["_law_script"] (sp_law K) := by
  have Gopen : Has P w K mg base "_law_open_cells" 1 (sp_open K) := ok_open T
  have Gpool : Has P w K mg base "_law_draw_pool" 4 sp_dpool := ok_dpool T
  have Grows : Has P w K mg base "_law_draw_rows" 6 sp_drows := ok_drows T
  have Gheap : Has P w K mg base "_law_heap" 13 (sp_lheap P w C) := ok_lheap T c
  have Gover : Has P w K mg base "over" 11 (sp_over P w C) := ok_over T c
  have Goto : Has P w K mg base "_law_one_to_one" 3 sp_oto := ok_oto T
  have Gled : Has P w K mg base "led_heap" 11 (sp_ledh P w C) := ok_ledh T c
  have Gmir : Has P w K mg base "mirrored" 11 (sp_mirh P w C) := ok_mirh T c
  have Gsc : Has P w K mg base "scaled_heap" 11 (sp_sch P w C) := ok_sch T c
  have Glook : Has P w K mg base "look" 6 (sp_look P w C) := ok_look T c
  have Gplate : Has P w K mg base "_law_draw_plate" 5 sp_dplate := ok_dplate T
  refine F0.ok sc_law (fun _ _ _ _ ⟨_, _, e, _⟩ => by rw [e]; rfl) fun cdv A outer s H vs Q E hr h => ?_
  obtain ⟨a, ns, rfl, hs, hl, hb, k⟩ := h
  have r1 := hr.mono (show 1 ≤ 13 by decide)
  have r2 := hr.mono (show 2 ≤ 13 by decide)
  have r3 := hr.mono (show 3 ≤ 13 by decide)
  have r4 := hr.mono (show 4 ≤ 13 by decide)
  have r5 := hr.mono (show 5 ≤ 13 by decide)
  have r6 := hr.mono (show 6 ≤ 13 by decide)
  have r10 := hr.mono (show 10 ≤ 13 by decide)
  have r11 := hr.mono (show 11 ≤ 13 by decide)
  have r12 := hr.mono (show 12 ≤ 13 by decide)
  refine ⟨_, pss_cons (ps_set (i := 1) sc_law.nd rfl (Or.inr rfl) (pe_has Gopen r1 (by rfl) (pa_cons (pv 0) pa_nil)))
    (pss_cons (ps_set (i := 2) sc_law.nd rfl (Or.inl rfl) (pe_heap T c r10 (by rfl) (nw_lst (r := rRow) (xs := wide0) tRow.mono (by decide) (na_cons tRow.mono (nw_row (nw_tup mP (by decide)
        (na_cons mP (nw_pt (na_cons mI nw_sub (na_cons mI nw_sub (na_cons mI nw_int na_nil)))) (na_cons mP (nw_pt (na_cons mI nw_int (na_cons mI nw_sub (na_cons mI nw_int na_nil))))
        (na_cons mP (nw_pt (na_cons mI nw_int (na_cons mI nw_int (na_cons mI nw_int na_nil)))) (na_cons mP (nw_pt (na_cons mI nw_sub (na_cons mI nw_int (na_cons mI nw_int na_nil)))) na_nil))))) nw_int) na_nil))))
    (pss_cons (ps_for PassesOwn.never rfl (pi_range1 (by rfl) T.n_range (pa_cons pe_int pa_nil)) (pg_name (i := 3) sc_law.nd rfl (Or.inl rfl))
      (pss_cons (ps_set (i := 4) sc_law.nd rfl (Or.inr rfl) (pe_has Gpool r4 (by rfl) (pa_cons (pv 1) (pa_cons pe_int (pa_cons pe_int pa_nil)))))
      (pss_cons (ps_asg (pe_lc (own := [("_law_turn_here", 12)]) (g := gName 12) (tt := tYes) (by rfl) sc_law.nd (pi_range1 (by rfl) T.n_range (pa_cons pe_int pa_nil))
          (blkOk_by (own := [("_law_turn_here", 12)]) (N := lawN) (sc := defScope (topS 83)) (by decide +kernel))
          (fun _ _ _ _ _ => pg_name (i := 12) sc_law.nd rfl (Or.inl rfl)) (fun _ _ _ _ _ => pts_nil)
          (fun _ _ _ _ _ => pe_has Gheap hr (by rfl) (pa_cons (pv 1) (pa_cons (pe_has Grows r6 (by rfl) (pa_cons (pv 1) (pa_cons (pv 4) (pa_cons pe_int pa_nil)))) pa_nil))))
          (pg_unl (by rfl) (pgs_cons (pg_name (i := 5) sc_law.nd rfl (Or.inl rfl)) (pgs_cons (pg_name (i := 6) sc_law.nd rfl (Or.inl rfl)) (pgs_cons (pg_name (i := 7) sc_law.nd rfl (Or.inl rfl)) pgs_nil)))))
      (pss_cons (ps_set (i := 8) sc_law.nd rfl (Or.inl rfl) (pe_has Gover r11 (by rfl) (pa_cons (pv 5) (pa_cons (pv 6) pa_nil))))
      (pss_cons (ps_if (PW.pt (pw_or (pt_cmpR (op_neH T c r2) (pe_has Gover r11 (by rfl) (pa_cons (pv 6) (pa_cons (pv 5) pa_nil))) (pv 8) (nomark _))
          (pw_or1 (pt_cmpR (op_neH T c r2) (pe_has Gover r11 (by rfl) (pa_cons (pv 8) (pa_cons (pv 7) pa_nil))) (pe_has Gover r11 (by rfl) (pa_cons (pv 5) (pa_cons (pe_has Gover r11 (by rfl) (pa_cons (pv 6) (pa_cons (pv 7) pa_nil))) pa_nil))) (nomark _))))) (pss_one (ps_ret pe_bl)) pss_nil)
      (pss_cons (ps_if (PW.pt (pw_or (pt_cmpR (op_neH T c r2) (pe_has Gover r11 (by rfl) (pa_cons (pv 5) (pa_cons (pe_op (op_addH T c r11) (pv 6) (pe_op (op_mulI T c r12) pe_int (pv 7))) pa_nil)))
            (pe_op (op_addH T c r11) (pv 8) (pe_op (op_mulI T c r12) pe_int (pe_has Gover r11 (by rfl) (pa_cons (pv 5) (pa_cons (pv 7) pa_nil))))) (nomark _))
          (pw_or1 (pt_cmpR (op_neH T c r2) (pe_has Gover r11 (by rfl) (pa_cons (pv 5) (pa_cons (pe_op (op_subH T c r12) (pv 6) (pv 6)) pa_nil))) (pe_heap T c r10 (by rfl) (nw_lst (r := rRow) (xs := []) tRow.mono (by decide) na_nil)) (nomark _))))) (pss_one (ps_ret pe_bl)) pss_nil)
      (pss_cons (ps_if (PW.pt (pw_or (pt_cmpR (op_neH T c r2) (pe_has Gover r11 (by rfl) (pa_cons (pv 5) (pa_cons (pv 2) pa_nil))) (pv 5) (nomark _)) (pw_or1 (pt_cmpR (op_neH T c r2) (pe_has Gover r11 (by rfl) (pa_cons (pv 2) (pa_cons (pv 5) pa_nil))) (pv 5) (nomark _))))) (pss_one (ps_ret pe_bl)) pss_nil)
      (pss_cons (ps_set (i := 9) sc_law.nd rfl (Or.inl rfl) (pe_has Goto r3 (by rfl) (pa_cons (pv 1) pa_nil)))
      (pss_cons (ps_if (pt_cmpR (op_neH T c r2) (pe_has Gover r11 (by rfl) (pa_cons (pe_has Gled r11 (by rfl) (pa_cons (pv 5) (pa_cons (pv 9) pa_nil))) (pa_cons (pe_has Gled r11 (by rfl) (pa_cons (pv 6) (pa_cons (pv 9) pa_nil))) pa_nil))) (pe_has Gled r11 (by rfl) (pa_cons (pv 8) (pa_cons (pv 9) pa_nil))) (nomark _)) (pss_one (ps_ret pe_bl)) pss_nil)
      (pss_cons (ps_if (pt_cmpR (op_neH T c r2) (pe_has Gover r11 (by rfl) (pa_cons (pe_has Gmir r11 (by rfl) (pa_cons (pv 5) pa_nil)) (pa_cons (pe_has Gmir r11 (by rfl) (pa_cons (pv 6) pa_nil)) pa_nil))) (pe_has Gmir r11 (by rfl) (pa_cons (pv 8) pa_nil)) (nomark _)) (pss_one (ps_ret pe_bl)) pss_nil)
      (pss_cons (ps_if (pt_cmpR (op_neH T c r2) (pe_has Gover r11 (by rfl) (pa_cons (pe_has Gsc r11 (by rfl) (pa_cons (pv 5) (pa_cons pe_int (pa_cons pe_int pa_nil)))) (pa_cons (pe_has Gsc r11 (by rfl) (pa_cons (pv 6) (pa_cons pe_int (pa_cons pe_int pa_nil)))) pa_nil))) (pe_has Gsc r11 (by rfl) (pa_cons (pv 8) (pa_cons pe_int (pa_cons pe_int pa_nil)))) (nomark _)) (pss_one (ps_ret pe_bl)) pss_nil)
      (pss_cons (ps_for PassesOwn.never rfl (pi_list (pe_slice sl_list (pv 4) po_none (po_some pe_int))) (pg_name (i := 10) sc_law.nd rfl (Or.inl rfl))
        (pss_one (ps_if (pt_cmpR (op_neH T c r2) (pe_has Gover r11 (by rfl) (pa_cons (pv 5) (pa_cons (pe_heap T c r10 (by rfl) (pe_lst (pa_cons (pe_tup (pa_cons (pe_tup (pa_cons (pv 10) pa_nil)) (pa_cons pe_int pa_nil))) pa_nil))) pa_nil)))
          (pe_op (op_mulI T c r12) (pe_has Glook r6 (by rfl) (pa_cons (pv 5) (pa_cons (pv 10) pa_nil))) (pe_heap T c r10 (by rfl) (pe_lst (pa_cons (pe_tup (pa_cons (pe_tup (pa_cons (pv 10) pa_nil)) (pa_cons pe_int pa_nil))) pa_nil)))) (nomark _)) (pss_one (ps_ret pe_bl)) pss_nil)))
      (pss_cons (ps_set (i := 11) sc_law.nd rfl (Or.inl rfl) (pe_heap T c r10 (by rfl) (pe_lst (pa_cons (pe_tup (pa_cons (pe_has Gplate r5 (by rfl) (pa_cons (pv 1) (pa_cons (pv 4) pa_nil))) (pa_cons pe_int pa_nil))) pa_nil))))
      (pss_one (ps_if (PW.pt (pw_or (pt_cmpR (op_neH T c r2) (pe_has Gover r11 (by rfl) (pa_cons (pv 11) (pa_cons (pv 11) pa_nil))) (pe_op (op_mulI T c r12) pe_int (pv 11)) (nomark _))
          (pw_or1 (pt_cmpR (op_neH T c r2) (pe_has Gover r11 (by rfl) (pa_cons (pe_has Gover r11 (by rfl) (pa_cons (pv 11) (pa_cons (pv 6) pa_nil))) (pa_cons (pv 11) pa_nil))) (pe_op (op_mulI T c r12) pe_int (pe_has Gover r11 (by rfl) (pa_cons (pv 11) (pa_cons (pv 6) pa_nil)))) (nomark _))))) (pss_one (ps_ret pe_bl)) pss_nil)))))))))))))))
    (pss_one (ps_ret pe_bl)))), ?_⟩
  have dr : DRAWS = 1000000 := rfl
  refine ⟨_, rfl, a, ns, rfl, hs, hl, hb, fun D L H1 s1 src1 => ?_⟩
  intro u2 H2 s2 rr2
  refine ⟨wide0, rr2, wide_ok.let_ (fun V h => h.p) (by decide), fun uw W0 H3 s3 hW nW => ?_⟩
  have src3 := (src1.same s2).same s3
  have okW : RowsOk SmallP 1 1 W0 := wide_ok.norm nW
  refine ⟨2, rfl, by decide, by decide, ?_⟩
  refine for_range (n := (2 : Int).toNat) (fun i σ H' => ∃ x3 x4 x5 x6 x7 x8 x9 x10 x11 : Option V, σ = [some (.ref a), some (.ref D), some uw, x3, x4, x5, x6, x7, x8, x9, x10, x11, none] ∧ Src D L (100 * i) H' ∧ HpAt P w C H' uw W0)
    ⟨none, none, none, none, none, none, none, none, none, rfl, src3, hW⟩ ?_ ?_
  · rintro i σ H4 hi ⟨x3, x4, x5, x6, x7, x8, x9, x10, x11, rfl, src4, hW4⟩
    have i2 : i < 2 := hi
    refine ⟨_, rfl, D, L, 100 * i, rfl, src4, by omega, fun pa ps H5 hp0 s5 src5 pool5 => ?_⟩
    obtain ⟨paD, paL⟩ := src4.free hp0
    have hW5 := SameY.hp src4 s5 hW4
    refine ⟨3, rfl, by decide, by decide, fun B hB => ?_⟩
    obtain ⟨BD, BL⟩ := src5.free hB
    have paB : pa ≠ B := fun q => by obtain ⟨_, e, _⟩ := pool5; rw [q, hB] at e; exact nomatch e
    refine lc_range (n := (3 : Int).toNat) (fun j H' => SameY D L H5 H' ∧ Src D L (100 * i + 15 + 23 * j) H' ∧ ∃ (vs : List V) (Ss : List (List Pz.Row)), H' B = some (.lst vs) ∧ Paired (HpAt P w C H') vs Ss ∧ Ss.length = j ∧ ∀ S ∈ Ss, Drawn S)
      ⟨SameY.of (same_new hB), src5.same (same_new hB), [], [], upd_same, .nil, rfl, fun _ m => nomatch m⟩ (fun j H6 hj ⟨s6, src6, vs, Ss, hb6, pv6, lS, dS⟩ => ?_) fun H6 ⟨s6, src6, vs, Ss, hb6, pv6, lS, dS⟩ => ?_
    · refine ⟨rfl, ?_⟩
      have j3 : j < 3 := hj
      have pool6 := pool5.sy src5 s6 paD paL
      refine ⟨_, rfl, _, rfl, _, rfl, D, L, _, pa, ps, rfl, src6, by omega, pool6, paD, paL, fun b R H7 hb0 s7 src7 r7 lW => ?_⟩
      obtain ⟨bD, bL⟩ := src6.free hb0
      refine ⟨D, L, _, b, R, rfl, src7, by omega, r7, bD, bL, lW, fun u S H8 s8 src8 h8 sm => ?_⟩
      have hb8 := s8 B _ BD BL (s7 B _ BD BL hb6)
      have lv := Paired.len pv6
      refine ⟨vs, hb8, Nat.lt_of_le_of_lt (show vs.length ≤ 3 by omega) (by decide), fun c o h1 h2 e => ?_, (src8.up (show 100 * i + 15 + 23 * j + 19 + 4 ≤ 100 * i + 15 + 23 * (j + 1) by omega)).upd BD BL, vs ++ [u], Ss ++ [S], upd_same, ?_, by simp; omega, fun q m => ?_⟩
      · have cB : c ≠ B := fun q => by rw [q, hB] at e; exact nomatch e
        rw [upd_ne cB]
        exact s8 c _ h1 h2 (s7 c _ h1 h2 (s6 c _ h1 h2 e))
      · exact PySem.Paired.snoc (Paired.imp pv6 fun _ _ h => hp_upd (SameY.hp src7 s8 (SameY.hp src6 s7 h)) hb8) (hp_upd h8 hb8)
      · rcases List.mem_append.mp m with m | m
        · exact dS q m
        · rw [List.mem_singleton.mp m]; exact ⟨R, lW, sm⟩
    -- f, g, h
    have l3 : Ss.length = 3 := lS
    obtain ⟨F, G, Hh, rfl⟩ : ∃ F G Hh, Ss = [F, G, Hh] := by
      match Ss, l3 with
      | [F, G, Hh], _ => exact ⟨F, G, Hh, rfl⟩
    obtain ⟨vf, vg, vh, rfl, hf0, hg0, hh0⟩ := paired3 pv6
    refine ⟨B, _, rfl, SqL.of hb6, rfl, _, _, rfl, _, _, rfl, _, _, rfl, rfl, ?_⟩
    have oF := (dS F (by simp)).ok (hp_own hf0)
    have oG := (dS G (by simp)).ok (hp_own hg0)
    have oH := (dS Hh (by simp)).ok (hp_own hh0)
    have hW6 := SameY.hp src5 s6 hW5
    refine ⟨_, rfl, _, rfl, _, _, F, G, rfl, hf0, hg0, fitS oF.s oG.s (by decide) (by decide) (by decide), fun ub Bo H7 s7 hB7 nB => ?_⟩
    have l7 : Lap P w C H7 _ _ _ ub F G Hh Bo := ⟨mHp _ _ _ _ s7 hf0, mHp _ _ _ _ s7 hg0, mHp _ _ _ _ s7 hh0, hB7, oF, oG, oH, nB⟩
    refine t_swap l7 fun H8 s8 => ?_
    have l8 := l7.mono s8
    refine t_sum l8 fun H9 s9 => ?_
    have l9 := l8.mono s9
    have t9 := s7.trans (s8.trans s9)
    have hW9 := mHp _ _ _ _ t9 hW6
    refine t_wide l9 hW9 okW nW fun H10 s10 => ?_
    have l10 := l9.mono s10
    have hW10 := mHp _ _ _ _ s10 hW9
    have src10 := src6.same (t9.trans s10)
    refine ⟨_, rfl, D, L, _, rfl, src10, by omega, fun ur m H11 s11 src11 hm sm om => ?_⟩
    have l11 := l10.sy src10 s11
    have hW11 := SameY.hp src10 s11 hW10
    refine t_led hm sm om l11 fun H12 s12 => ?_
    have l12 := l11.mono s12
    refine t_mir l12 fun H13 s13 => ?_
    have l13 := l12.mono s13
    refine t_two l13 fun H14 s14 => ?_
    have l14 := l13.mono s14
    have t14 := s12.trans (s13.trans s14)
    have hW14 := mHp _ _ _ _ t14 hW11
    have src14 := src11.same t14
    have pool14 := pool5.sy src5 (s6.trans ((SameY.of (t9.trans s10)).trans (s11.trans (SameY.of t14)))) paD paL
    obtain ⟨vp, hvp, pvp, lps, dps⟩ := id pool14
    refine ⟨_, rfl, 3, rfl, pa, vp, rfl, SqL.of hvp, fun q hq => ?_⟩
    have sq : L2.Same H14 (upd H14 q (.lst (cutV vp none (some 3)))) := same_new hq
    refine ⟨q, rfl, ⟨_, SqL.of upd_same⟩, ?_⟩
    refine for_list (K := K) (a := q) (xs := cutV vp none (some 3)) (fun i' σ H' => L2.Same (upd H14 q (.lst (cutV vp none (some 3)))) H' ∧ ∃ x10 : Option V, σ = [some (.ref a), some (.ref D), some uw, some (.int (0 + i)), some (.ref pa), some vf, some vg, some vh, some ub, some ur, x10, x11, none])
      ⟨fun _ _ e => e, _, rfl⟩ (fun i' σ H' _ ⟨s', _⟩ => SqL.of (s' _ _ upd_same)) ?_ ?_
    · rintro i' y σ H15 hi' ⟨s15, x10', rfl⟩
      rw [show cutV vp none (some 3) = vp.take 3 from cut_take vp 3, List.getElem?_take] at hi'
      split at hi'
      · obtain ⟨p, hp, ry⟩ := Paired.get pvp hi'
        have t15 := sq.trans s15
        exact t_point (mP _ _ _ _ t15 ry) (dps p (List.mem_of_getElem? hp)) (l14.mono t15) fun H16 s16 => ⟨s15.trans s16, _, rfl⟩
      · exact nomatch hi'
    rintro σ H15 ⟨s15, x10', rfl⟩
    have t15 := sq.trans s15
    have src15 := src14.same t15
    have l15 := l14.mono t15
    have hW15 := mHp _ _ _ _ t15 hW14
    refine ⟨_, rfl, _, rfl, D, L, _, pa, ps, rfl, src15, by omega, pool14.sy src14 (SameY.of t15) paD paL, paD, paL, fun up U H16 s16 src16 rU lU => ?_⟩
    refine heap1 (n := 3) rU lU.small.p fun ux X H17 s17 hX nX => ?_
    have l17 := (l15.sy src15 s16).mono s17
    have hW17 := mHp _ _ _ _ s17 (SameY.hp src15 s16 hW15)
    refine t_plate hX nX lU l17 fun H18 s18 => ?_
    exact ⟨_, _, _, _, _, _, _, _, _, rfl, (src16.same (s17.trans s18)).up (by omega), mHp _ _ _ _ s18 hW17⟩
  · rintro σ H4 ⟨x3, x4, x5, x6, x7, x8, x9, x10, x11, rfl, src4, hW4⟩
    exact k _
end
end Wk

set_option Elab.async false
set_option linter.all false
set_option maxRecDepth 100000
set_option maxHeartbeats 4000000
/-! W53: facts of the text, the walk. -/
namespace Wk
open PySem L2 PySem.Spec PyProof.Rows
open Pz (Pt Ln)
section
variable {K : PySem.W.Frag} {h : Heap} {mg : Str → Option Value}
theorem defAt_mk {x : Str} {st : Stmt} {f : Addr} {oc : Value} {od an : Option Addr} {osl : Array (Option Value)} {kV doc pm cdv ct : Value} (X : K.In h) (G : h.Ns mainGlobals mg) (a : PySem.W.nsIn K mainGlobals x = some (some (.ref f)))
    (l : K.lookup f = some ⟨oc, od, .func (PySem.W.fnOf x x (defArgs st) (defBody st) (defScope st) .none kV doc pm an cdv ct), osl⟩) (c : PySem.W.codeIn K cdv x = true) (k : PySem.W.keepIn K (.ref f) = true) : DefAt K mg x st := ⟨f, _, fun_mk l c k, PySem.W.mg_of X G a⟩
theorem meth_mk {x q : Str} {st : Stmt} {f C : Addr} {oc : Value} {od an : Option Addr} {osl : Array (Option Value)} {kV doc pm cdv ct : Value} (a : PySem.W.findIn K (.ref C) x = some (some (.ref f))) (i : PySem.W.isFn K (.ref f) = true)
    (l : K.lookup f = some ⟨oc, od, .func (PySem.W.fnOf x q (defArgs st) (defBody st) (defScope st) .none kV doc pm an cdv ct), osl⟩) (c : PySem.W.codeIn K cdv q = true) (k : PySem.W.keepIn K (.ref f) = true) : ∃ f fd, Fun K x q st f fd ∧ Meth K C x f := ⟨f, _, fun_mk l c k, a, i, k⟩
theorem init_mk {q : Str} {st : Stmt} {f C : Addr} {oc : Value} {od an : Option Addr} {osl : Array (Option Value)} {kV doc pm cdv ct : Value} (mk : PySem.W.makesIn K C = true) (kc : PySem.W.keepIn K (.ref C) = true) (a : PySem.W.findIn K (.ref C) "__init__" = some (some (.ref f))) (i : PySem.W.isFn K (.ref f) = true)
    (l : K.lookup f = some ⟨oc, od, .func (PySem.W.fnOf "__init__" q (defArgs st) (defBody st) (defScope st) .none kV doc pm an cdv ct), osl⟩) (c : PySem.W.codeIn K cdv q = true) (k : PySem.W.keepIn K (.ref f) = true) : ∃ f fd, Fun K "__init__" q st f fd ∧ Mk K C f := ⟨f, _, fun_mk l c k, mk, a, i, kc⟩
theorem most_mk {t : _} (X : K.In h) (G : h.Ns mainGlobals mg) (a : PySem.W.nsIn K mainGlobals "MOST_ROWS" = some (some (.int 400 t))) : ∃ t, mg "MOST_ROWS" = some (.int 400 t) := ⟨t, PySem.W.mg_of X G a⟩
theorem find_mk {v : Value} {x : Str} {fo : Option Value} (a : PySem.W.findIn K v x = some fo) : ∃ fo, PySem.W.findIn K v x = some fo := ⟨fo, a⟩
end
theorem fn_mk {l : PySem.W.OpenLaw} {w : World} {K : PySem.W.Frag} {mg : Str → Option Value} {fa C : Addr} (hfa : mg "law" = some (.ref fa)) (T : Tx K mg) (c : Tc K mg C) :
    ∃ fd : FuncData, (∀ (s : Shared) (v : Value), BindsTo s fd ⟨[v], []⟩ [("_law_script", v)]) ∧ ∀ base : Heap, K.In base → base.Ns mainGlobals mg → FnOk l.prog w K mg base CX0 14 fa fd ["_law_script"] (sp_law K) := by
  obtain ⟨f, fd, F, m⟩ := T.law
  cases hfa.symm.trans m
  refine ⟨fd, fun s v => ?_, fun base _ _ => ok_law F T c⟩
  obtain ⟨oc, od, kV, doc, pm, an, cdv, ct, osl, rfl, _, _⟩ := F.ex
  exact .of_eq rfl
theorem bits_log {z : Int} (h : Builtin.Int.intBits z ≤ 1048576) : z.natAbs.log2 ≤ 1048576 := by
  by_cases e : z = 0
  · subst e
    exact (by decide)
  · unfold Builtin.Int.intBits at h
    rw [if_neg (by simpa using e)] at h
    omega
theorem walk {l : PySem.W.OpenLaw} {q : Program} {loose : List Str} {XP : (Str → Option Value) → Heap → Prop} {YP : World → Heap → Prop} {d : DefRec} {K : Params → PySem.W.Frag} (hn : l.most = some 63) (hdf : d.params.defaults = [])
    (hY : ∀ (w : World) (h : Heap), YP w h → (K w.params).In h)
    (F : ∀ (w : World) (mg : Str → Option Value) (fa : Addr) (h : Heap), (K w.params).In h → h.Ns mainGlobals mg → mg d.name = some (.ref fa) →
      ∃ fd : FuncData, (∀ (s : Shared) (u : Value), BindsTo s fd ⟨[u], []⟩ [("_law_script", u)]) ∧ ∀ base : Heap, (K w.params).In base → base.Ns mainGlobals mg → FnOk l.prog w (K w.params) mg base CX0 14 fa fd ["_law_script"] (sp_law (K w.params))) :
    PySem.W.WalkO q loose XP YP l.row.toRowW d [] (fun f vs => PySem.call f vs) :=
  L2.walk_ofB (n := 63) (k := 14) (x := "_law_script") (CX := fun _ => CX0) (sp := fun w => sp_law (K w.params)) hn (by decide) hdf ⟨rfl, by decide, by decide⟩ hY F (fun _ _ a ns hl hb _ hS => ⟨a, ns, rfl, hS, hl, fun z m => bits_log (hb z m), fun _ => rfl⟩) fun _ _ _ _ _ z => z
end Wk

set_option Elab.async false
set_option maxRecDepth 100000
open PySem PySem.W PyProof.Rows
set_option maxRecDepth 100000 in
set_option maxHeartbeats 0 in
theorem PySem.Challenge.cw_plateheaps_k30_whole_heaps_over_one_anot_holds : PySem.Challenge.rw_plateheaps_k30_whole_heaps_over_one_anot.Holds := by
  w_on; o_law; k_head; (case hw => w_witness2)
  k_fill
  refine Wk.walk (l := PySem.Challenge.rw_plateheaps_k30_whole_heaps_over_one_anot) rfl rfl (fun w h Y => PySem.W.kIn_of Y) ?F
  case F =>
    intro w mg fa h KX G hmg
    refine' Wk.fn_mk hmg ?TT ?CC
    case TT =>
      constructor
      case n_isinstance => (refine' PySem.W.mg_none_of KX G ?a1z; (case a1z => k_is))
      case n_int => (refine' PySem.W.mg_none_of KX G ?a2z; (case a2z => k_is))
      case n_bool => (refine' PySem.W.mg_none_of KX G ?a3z; (case a3z => k_is))
      case n_all => (refine' PySem.W.mg_none_of KX G ?a4z; (case a4z => k_is))
      case n_tuple => (refine' PySem.W.mg_none_of KX G ?a5z; (case a5z => k_is))
      case n_len => (refine' PySem.W.mg_none_of KX G ?a6z; (case a6z => k_is))
      case n_sorted => (refine' PySem.W.mg_none_of KX G ?a7z; (case a7z => k_is))
      case n_list => (refine' PySem.W.mg_none_of KX G ?a8z; (case a8z => k_is))
      case n_zip => (refine' PySem.W.mg_none_of KX G ?a9z; (case a9z => k_is))
      case n_enumerate => (refine' PySem.W.mg_none_of KX G ?a10z; (case a10z => k_is))
      case n_sum => (refine' PySem.W.mg_none_of KX G ?a11z; (case a11z => k_is))
      case n_range => (refine' PySem.W.mg_none_of KX G ?a12z; (case a12z => k_is))
      case n_abs => (refine' PySem.W.mg_none_of KX G ?a13z; (case a13z => k_is))
      case gcd => (refine' PySem.W.mg_of KX G ?a14z; (case a14z => k_is))
      case is_number => (refine' Wk.defAt_mk KX G ?a15z ?l15z ?c15z ?k15z; (case a15z => k_is); (case l15z => k_is); (case c15z => k_is); (case k15z => k_is))
      case is_row_of_numbers => (refine' Wk.defAt_mk KX G ?a16z ?l16z ?c16z ?k16z; (case a16z => k_is); (case l16z => k_is); (case c16z => k_is); (case k16z => k_is))
      case fraction => (refine' Wk.defAt_mk KX G ?a17z ?l17z ?c17z ?k17z; (case a17z => k_is); (case l17z => k_is); (case c17z => k_is); (case k17z => k_is))
      case common_of => (refine' Wk.defAt_mk KX G ?a18z ?l18z ?c18z ?k18z; (case a18z => k_is); (case l18z => k_is); (case c18z => k_is); (case k18z => k_is))
      case place => (refine' Wk.defAt_mk KX G ?a19z ?l19z ?c19z ?k19z; (case a19z => k_is); (case l19z => k_is); (case c19z => k_is); (case k19z => k_is))
      case is_place => (refine' Wk.defAt_mk KX G ?a20z ?l20z ?c20z ?k20z; (case a20z => k_is); (case l20z => k_is); (case c20z => k_is); (case k20z => k_is))
      case grid => (refine' Wk.defAt_mk KX G ?a21z ?l21z ?c21z ?k21z; (case a21z => k_is); (case l21z => k_is); (case c21z => k_is); (case k21z => k_is))
      case in_order => (refine' Wk.defAt_mk KX G ?a22z ?l22z ?c22z ?k22z; (case a22z => k_is); (case l22z => k_is); (case c22z => k_is); (case k22z => k_is))
      case comes_first => (refine' Wk.defAt_mk KX G ?a23z ?l23z ?c23z ?k23z; (case a23z => k_is); (case l23z => k_is); (case c23z => k_is); (case k23z => k_is))
      case apart => (refine' Wk.defAt_mk KX G ?a24z ?l24z ?c24z ?k24z; (case a24z => k_is); (case l24z => k_is); (case c24z => k_is); (case k24z => k_is))
      case scaled => (refine' Wk.defAt_mk KX G ?a25z ?l25z ?c25z ?k25z; (case a25z => k_is); (case l25z => k_is); (case c25z => k_is); (case k25z => k_is))
      case turn => (refine' Wk.defAt_mk KX G ?a26z ?l26z ?c26z ?k26z; (case a26z => k_is); (case l26z => k_is); (case c26z => k_is); (case k26z => k_is))
      case direction => (refine' Wk.defAt_mk KX G ?a27z ?l27z ?c27z ?k27z; (case a27z => k_is); (case l27z => k_is); (case c27z => k_is); (case k27z => k_is))
      case back => (refine' Wk.defAt_mk KX G ?a28z ?l28z ?c28z ?k28z; (case a28z => k_is); (case l28z => k_is); (case c28z => k_is); (case k28z => k_is))
      case quarter => (refine' Wk.defAt_mk KX G ?a29z ?l29z ?c29z ?k29z; (case a29z => k_is); (case l29z => k_is); (case c29z => k_is); (case k29z => k_is))
      case towards => (refine' Wk.defAt_mk KX G ?a30z ?l30z ?c30z ?k30z; (case a30z => k_is); (case l30z => k_is); (case c30z => k_is); (case k30z => k_is))
      case half => (refine' Wk.defAt_mk KX G ?a31z ?l31z ?c31z ?k31z; (case a31z => k_is); (case l31z => k_is); (case c31z => k_is); (case k31z => k_is))
      case depth => (refine' Wk.defAt_mk KX G ?a32z ?l32z ?c32z ?k32z; (case a32z => k_is); (case l32z => k_is); (case c32z => k_is); (case k32z => k_is))
      case facing => (refine' Wk.defAt_mk KX G ?a33z ?l33z ?c33z ?k33z; (case a33z => k_is); (case l33z => k_is); (case c33z => k_is); (case k33z => k_is))
      case height => (refine' Wk.defAt_mk KX G ?a34z ?l34z ?c34z ?k34z; (case a34z => k_is); (case l34z => k_is); (case c34z => k_is); (case k34z => k_is))
      case half_from => (refine' Wk.defAt_mk KX G ?a35z ?l35z ?c35z ?k35z; (case a35z => k_is); (case l35z => k_is); (case c35z => k_is); (case k35z => k_is))
      case half_at => (refine' Wk.defAt_mk KX G ?a36z ?l36z ?c36z ?k36z; (case a36z => k_is); (case l36z => k_is); (case c36z => k_is); (case k36z => k_is))
      case chain => (refine' Wk.defAt_mk KX G ?a37z ?l37z ?c37z ?k37z; (case a37z => k_is); (case l37z => k_is); (case c37z => k_is); (case k37z => k_is))
      case hull => (refine' Wk.defAt_mk KX G ?a38z ?l38z ?c38z ?k38z; (case a38z => k_is); (case l38z => k_is); (case c38z => k_is); (case k38z => k_is))
      case is_plate => (refine' Wk.defAt_mk KX G ?a39z ?l39z ?c39z ?k39z; (case a39z => k_is); (case l39z => k_is); (case c39z => k_is); (case k39z => k_is))
      case neighbours => (refine' Wk.defAt_mk KX G ?a40z ?l40z ?c40z ?k40z; (case a40z => k_is); (case l40z => k_is); (case c40z => k_is); (case k40z => k_is))
      case has_place => (refine' Wk.defAt_mk KX G ?a41z ?l41z ?c41z ?k41z; (case a41z => k_is); (case l41z => k_is); (case c41z => k_is); (case k41z => k_is))
      case sides => (refine' Wk.defAt_mk KX G ?a42z ?l42z ?c42z ?k42z; (case a42z => k_is); (case l42z => k_is); (case c42z => k_is); (case k42z => k_is))
      case met_at => (refine' Wk.defAt_mk KX G ?a43z ?l43z ?c43z ?k43z; (case a43z => k_is); (case l43z => k_is); (case c43z => k_is); (case k43z => k_is))
      case cut_plate => (refine' Wk.defAt_mk KX G ?a44z ?l44z ?c44z ?k44z; (case a44z => k_is); (case l44z => k_is); (case c44z => k_is); (case k44z => k_is))
      case borders => (refine' Wk.defAt_mk KX G ?a45z ?l45z ?c45z ?k45z; (case a45z => k_is); (case l45z => k_is); (case c45z => k_is); (case k45z => k_is))
      case meet => (refine' Wk.defAt_mk KX G ?a46z ?l46z ?c46z ?k46z; (case a46z => k_is); (case l46z => k_is); (case c46z => k_is); (case k46z => k_is))
      case mirror => (refine' Wk.defAt_mk KX G ?a47z ?l47z ?c47z ?k47z; (case a47z => k_is); (case l47z => k_is); (case c47z => k_is); (case k47z => k_is))
      case led_place => (refine' Wk.defAt_mk KX G ?a48z ?l48z ?c48z ?k48z; (case a48z => k_is); (case l48z => k_is); (case c48z => k_is); (case k48z => k_is))
      case led => (refine' Wk.defAt_mk KX G ?a49z ?l49z ?c49z ?k49z; (case a49z => k_is); (case l49z => k_is); (case c49z => k_is); (case k49z => k_is))
      case is_heap_row => (refine' Wk.defAt_mk KX G ?a50z ?l50z ?c50z ?k50z; (case a50z => k_is); (case l50z => k_is); (case c50z => k_is); (case k50z => k_is))
      case stands_ahead => (refine' Wk.defAt_mk KX G ?a51z ?l51z ?c51z ?k51z; (case a51z => k_is); (case l51z => k_is); (case c51z => k_is); (case k51z => k_is))
      case ascending => (refine' Wk.defAt_mk KX G ?a52z ?l52z ?c52z ?k52z; (case a52z => k_is); (case l52z => k_is); (case c52z => k_is); (case k52z => k_is))
      case look => (refine' Wk.defAt_mk KX G ?a53z ?l53z ?c53z ?k53z; (case a53z => k_is); (case l53z => k_is); (case c53z => k_is); (case k53z => k_is))
      case scaled_heap => (refine' Wk.defAt_mk KX G ?a54z ?l54z ?c54z ?k54z; (case a54z => k_is); (case l54z => k_is); (case c54z => k_is); (case k54z => k_is))
      case led_heap => (refine' Wk.defAt_mk KX G ?a55z ?l55z ?c55z ?k55z; (case a55z => k_is); (case l55z => k_is); (case c55z => k_is); (case k55z => k_is))
      case mirrored => (refine' Wk.defAt_mk KX G ?a56z ?l56z ?c56z ?k56z; (case a56z => k_is); (case l56z => k_is); (case c56z => k_is); (case k56z => k_is))
      case over => (refine' Wk.defAt_mk KX G ?a57z ?l57z ?c57z ?k57z; (case a57z => k_is); (case l57z => k_is); (case c57z => k_is); (case k57z => k_is))
      case _law_open_cells => (refine' Wk.defAt_mk KX G ?a58z ?l58z ?c58z ?k58z; (case a58z => k_is); (case l58z => k_is); (case c58z => k_is); (case k58z => k_is))
      case _law_pick => (refine' Wk.defAt_mk KX G ?a59z ?l59z ?c59z ?k59z; (case a59z => k_is); (case l59z => k_is); (case c59z => k_is); (case k59z => k_is))
      case _law_any_order => (refine' Wk.defAt_mk KX G ?a60z ?l60z ?c60z ?k60z; (case a60z => k_is); (case l60z => k_is); (case c60z => k_is); (case k60z => k_is))
      case _law_common => (refine' Wk.defAt_mk KX G ?a61z ?l61z ?c61z ?k61z; (case a61z => k_is); (case l61z => k_is); (case c61z => k_is); (case k61z => k_is))
      case _law_place => (refine' Wk.defAt_mk KX G ?a62z ?l62z ?c62z ?k62z; (case a62z => k_is); (case l62z => k_is); (case c62z => k_is); (case k62z => k_is))
      case _law_first => (refine' Wk.defAt_mk KX G ?a63z ?l63z ?c63z ?k63z; (case a63z => k_is); (case l63z => k_is); (case c63z => k_is); (case k63z => k_is))
      case _law_places => (refine' Wk.defAt_mk KX G ?a64z ?l64z ?c64z ?k64z; (case a64z => k_is); (case l64z => k_is); (case c64z => k_is); (case k64z => k_is))
      case _law_step => (refine' Wk.defAt_mk KX G ?a65z ?l65z ?c65z ?k65z; (case a65z => k_is); (case l65z => k_is); (case c65z => k_is); (case k65z => k_is))
      case _law_turn => (refine' Wk.defAt_mk KX G ?a66z ?l66z ?c66z ?k66z; (case a66z => k_is); (case l66z => k_is); (case c66z => k_is); (case k66z => k_is))
      case _law_chain => (refine' Wk.defAt_mk KX G ?a67z ?l67z ?c67z ?k67z; (case a67z => k_is); (case l67z => k_is); (case c67z => k_is); (case k67z => k_is))
      case _law_hull => (refine' Wk.defAt_mk KX G ?a68z ?l68z ?c68z ?k68z; (case a68z => k_is); (case l68z => k_is); (case c68z => k_is); (case k68z => k_is))
      case _law_draw_place => (refine' Wk.defAt_mk KX G ?a69z ?l69z ?c69z ?k69z; (case a69z => k_is); (case l69z => k_is); (case c69z => k_is); (case k69z => k_is))
      case _law_draw_pool => (refine' Wk.defAt_mk KX G ?a70z ?l70z ?c70z ?k70z; (case a70z => k_is); (case l70z => k_is); (case c70z => k_is); (case k70z => k_is))
      case _law_draw_plate => (refine' Wk.defAt_mk KX G ?a71z ?l71z ?c71z ?k71z; (case a71z => k_is); (case l71z => k_is); (case c71z => k_is); (case k71z => k_is))
      case _law_draw_rows => (refine' Wk.defAt_mk KX G ?a72z ?l72z ?c72z ?k72z; (case a72z => k_is); (case l72z => k_is); (case c72z => k_is); (case k72z => k_is))
      case _law_draw_map => (refine' Wk.defAt_mk KX G ?a73z ?l73z ?c73z ?k73z; (case a73z => k_is); (case l73z => k_is); (case c73z => k_is); (case k73z => k_is))
      case _law_one_to_one => (refine' Wk.defAt_mk KX G ?a74z ?l74z ?c74z ?k74z; (case a74z => k_is); (case l74z => k_is); (case c74z => k_is); (case k74z => k_is))
      case _law_heap => (refine' Wk.defAt_mk KX G ?a75z ?l75z ?c75z ?k75z; (case a75z => k_is); (case l75z => k_is); (case c75z => k_is); (case k75z => k_is))
      case law => (refine' Wk.defAt_mk KX G ?a76z ?l76z ?c76z ?k76z; (case a76z => k_is); (case l76z => k_is); (case c76z => k_is); (case k76z => k_is))
    case CC =>
      refine' Wk.Tc.mk ?cl ?nW ?mgC ?most ?sf ?ne ?so ?si ?is_ ?i1 ?i2 ?ck ?cg ?ct ?init ?rows ?eq ?add ?sub ?mul ?rmul
      case mgC => (refine' PySem.W.mg_of KX G ?a77z; (case a77z => k_is))
      case cl => (refine' ⟨?a78z, ?b78z, ?c78z, ?d78z⟩; (case a78z => k_is); (case b78z => k_is); (case c78z => k_is); (case d78z => k_is))
      case nW => (show PySem.W.findIn _ _ _ = _; k_is)
      case most => (refine' Wk.most_mk KX G ?a79z; (case a79z => k_is))
      case sf => k_is
      case ne => k_is
      case so => k_is
      case si => k_is
      case is_ => k_is
      case i1 => (refine' Wk.find_mk ?a80z; (case a80z => k_is))
      case i2 => (refine' Wk.find_mk ?a81z; (case a81z => k_is))
      case ck => k_is
      case cg => k_is
      case ct => k_is
      case init => (refine' Wk.init_mk ?m82z ?kc82z ?a82z ?i82z ?l82z ?c82z ?k82z; (case m82z => k_is); (case kc82z => k_is); (case a82z => k_is); (case i82z => k_is); (case l82z => k_is); (case c82z => k_is); (case k82z => k_is))
      case rows => (refine' Wk.meth_mk ?a83z ?i83z ?l83z ?c83z ?k83z; (case a83z => k_is); (case i83z => k_is); (case l83z => k_is); (case c83z => k_is); (case k83z => k_is))
      case eq => (refine' Wk.meth_mk ?a84z ?i84z ?l84z ?c84z ?k84z; (case a84z => k_is); (case i84z => k_is); (case l84z => k_is); (case c84z => k_is); (case k84z => k_is))
      case add => (refine' Wk.meth_mk ?a85z ?i85z ?l85z ?c85z ?k85z; (case a85z => k_is); (case i85z => k_is); (case l85z => k_is); (case c85z => k_is); (case k85z => k_is))
      case sub => (refine' Wk.meth_mk ?a86z ?i86z ?l86z ?c86z ?k86z; (case a86z => k_is); (case i86z => k_is); (case l86z => k_is); (case c86z => k_is); (case k86z => k_is))
      case mul => (refine' Wk.meth_mk ?a87z ?i87z ?l87z ?c87z ?k87z; (case a87z => k_is); (case i87z => k_is); (case l87z => k_is); (case c87z => k_is); (case k87z => k_is))
      case rmul => (refine' Wk.meth_mk ?a88z ?i88z ?l88z ?c88z ?k88z; (case a88z => k_is); (case i88z => k_is); (case l88z => k_is); (case c88z => k_is); (case k88z => k_is))
