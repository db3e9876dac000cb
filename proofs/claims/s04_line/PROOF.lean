import PyProof.Rows.All
import Wide.All
import OpenK.AllK
import Wide.FinOn
import PyProof.EqAt
import PyProof.EqKinds
import PyProof.TupleCall
import Open.SpecLaws
import KE.OsGo
import HandS.ForSpec
import HandS.Comp
import HandS.ExcInit
import HandS.ExcField
import HandS.Evl
import HandS.NoneIn
import HandS.Wide
import PySem.Challenge.RW_fourbars_s04_line
set_option Elab.async false
set_option linter.all false
set_option maxRecDepth 100000
set_option maxHeartbeats 8000000
/-! Four bars: plain law, part 1: lengths, kind. -/
namespace FB
open LkFour LkDSpec

/-- all four lengths told as they may be -/
def lensOk (g a c r : Int) : Bool :=
  (decide (1 ≤ g) && decide (g ≤ 999)) && ((decide (1 ≤ a) && decide (a ≤ 999)) && ((decide (1 ≤ c) && decide (c ≤ 999)) && (decide (1 ≤ r) && decide (r ≤ 999))))

theorem lensOk_iff {g a c r : Int} : lensOk g a c r = true ↔ (1 ≤ g ∧ g ≤ 999) ∧ (1 ≤ a ∧ a ≤ 999) ∧ (1 ≤ c ∧ c ≤ 999) ∧ (1 ≤ r ∧ r ≤ 999) := by
  simp [lensOk]

/-- the kind, over rising lengths x0 ≤ x1 ≤ x2 ≤ x3 -/
def kindR (g a c x0 x1 x2 x3 : Int) : Int :=
  if x0 + (x1 + x2) ≤ x3 then (if x0 + (x1 + x2) < x3 then 0 else 1)
  else if x0 + x3 < x1 + x2 then (if g = x0 then 2 else if a = x0 then 3 else if c = x0 then 4 else 5)
  else if x1 + x2 < x0 + x3 then 7 else 6

/-- the kind, as the specification has it -/
def kindI (g a c r : Int) : Int := ((Neutral.four g a c r).kind : Nat)

theorem isLength_iff {n : Nat} : isLength n = true ↔ 1 ≤ n ∧ n ≤ 999 := by
  unfold isLength
  rw [Bool.and_eq_true, decide_eq_true_iff, decide_eq_true_iff]
  exact Iff.rfl

theorem four_lens (g a c r : Int) (hg : 0 ≤ g) (ha : 0 ≤ a) (hc : 0 ≤ c) (hr : 0 ≤ r) : lengths (Neutral.four g a c r) = lensOk g a c r := by
  rw [Bool.eq_iff_iff, lensOk_iff]
  unfold lengths
  rw [Bool.and_eq_true, Bool.and_eq_true, Bool.and_eq_true, isLength_iff, isLength_iff, isLength_iff, isLength_iff]
  show (1 ≤ g.toNat ∧ g.toNat ≤ 999) ∧ (1 ≤ a.toNat ∧ a.toNat ≤ 999) ∧ (1 ≤ c.toNat ∧ c.toNat ≤ 999) ∧ (1 ≤ r.toNat ∧ r.toNat ≤ 999) ↔ _
  omega

theorem perm_sum : ∀ {l m : List Int}, l.Perm m → l.sum = m.sum := by
  intro l m h
  induction h with
  | nil => rfl
  | cons x _ ih => simp [ih]
  | swap x y l => simp; omega
  | trans _ _ h1 h2 => exact h1.trans h2

theorem or_bounds {x0 x1 x2 x3 g : Int} (h01 : x0 ≤ x1) (h12 : x1 ≤ x2) (h23 : x2 ≤ x3) (h : g = x0 ∨ g = x1 ∨ g = x2 ∨ g = x3) : x0 ≤ g ∧ g ≤ x3 := by
  omega

theorem longest_of {g a c r x3 : Int} (m3 : x3 = g ∨ x3 = a ∨ x3 = c ∨ x3 = r) (h0 : 0 ≤ x3) (bg : g ≤ x3) (ba : a ≤ x3) (bc : c ≤ x3) (br : r ≤ x3) :
    ((Neutral.four g a c r).longest : Int) = x3 := by
  show ((max (max g.toNat a.toNat) (max c.toNat r.toNat) : Nat) : Int) = x3
  have e := Int.toNat_of_nonneg h0
  have e1 : g.toNat ≤ x3.toNat := by omega
  have e2 : a.toNat ≤ x3.toNat := by omega
  have e3 : c.toNat ≤ x3.toNat := by omega
  have e4 : r.toNat ≤ x3.toNat := by omega
  have e5 : max (max g.toNat a.toNat) (max c.toNat r.toNat) = x3.toNat := by
    refine Nat.le_antisymm (Nat.max_le.2 ⟨Nat.max_le.2 ⟨e1, e2⟩, Nat.max_le.2 ⟨e3, e4⟩⟩) ?_
    rcases m3 with h | h | h | h <;> subst h
    · exact Nat.le_trans (Nat.le_max_left _ _) (Nat.le_max_left _ _)
    · exact Nat.le_trans (Nat.le_max_right _ _) (Nat.le_max_left _ _)
    · exact Nat.le_trans (Nat.le_max_left _ _) (Nat.le_max_right _ _)
    · exact Nat.le_trans (Nat.le_max_right _ _) (Nat.le_max_right _ _)
  rw [e5, e]

theorem shortest_of {g a c r x0 : Int} (m0 : x0 = g ∨ x0 = a ∨ x0 = c ∨ x0 = r) (h0 : 0 ≤ x0) (bg : x0 ≤ g) (ba : x0 ≤ a) (bc : x0 ≤ c) (br : x0 ≤ r) :
    ((Neutral.four g a c r).shortest : Int) = x0 := by
  show ((min (min g.toNat a.toNat) (min c.toNat r.toNat) : Nat) : Int) = x0
  have e := Int.toNat_of_nonneg h0
  have e1 : x0.toNat ≤ g.toNat := by omega
  have e2 : x0.toNat ≤ a.toNat := by omega
  have e3 : x0.toNat ≤ c.toNat := by omega
  have e4 : x0.toNat ≤ r.toNat := by omega
  have e5 : min (min g.toNat a.toNat) (min c.toNat r.toNat) = x0.toNat := by
    refine Nat.le_antisymm ?_ (Nat.le_min.2 ⟨Nat.le_min.2 ⟨e1, e2⟩, Nat.le_min.2 ⟨e3, e4⟩⟩)
    rcases m0 with h | h | h | h <;> subst h
    · exact Nat.le_trans (Nat.min_le_left _ _) (Nat.min_le_left _ _)
    · exact Nat.le_trans (Nat.min_le_left _ _) (Nat.min_le_right _ _)
    · exact Nat.le_trans (Nat.min_le_right _ _) (Nat.min_le_left _ _)
    · exact Nat.le_trans (Nat.min_le_right _ _) (Nat.min_le_right _ _)
  rw [e5, e]

theorem kind_core {L S T G A C : Nat} {g a c x0 x1 x2 x3 : Int} (eL : (L : Int) = x3) (eS : (S : Int) = x0) (eT : (T : Int) = x0 + x1 + x2 + x3) (eg : (G : Int) = g) (ea : (A : Int) = a) (ec : (C : Int) = c)
    (h01 : x0 ≤ x1) (h12 : x1 ≤ x2) (h23 : x2 ≤ x3) :
    ((if S + (T - L - S) < L then 0 else if S + (T - L - S) = L then 1 else if S + L < T - L - S then (if G = S then 2 else if A = S then 3 else if C = S then 4 else 5) else if S + L = T - L - S then 6 else 7 : Nat) : Int) = kindR g a c x0 x1 x2 x3 := by
  have eM : T - L - S = (x1 + x2).toNat := by omega
  have e0 : 0 ≤ x1 + x2 := by omega
  have eM' : ((T - L - S : Nat) : Int) = x1 + x2 := by omega
  generalize T - L - S = M at *
  clear eM
  unfold kindR
  by_cases k1 : S + M < L
  · rw [if_pos k1, if_pos (show x0 + (x1 + x2) ≤ x3 by omega), if_pos (show x0 + (x1 + x2) < x3 by omega)]; rfl
  rw [if_neg k1]
  by_cases k2 : S + M = L
  · rw [if_pos k2, if_pos (show x0 + (x1 + x2) ≤ x3 by omega), if_neg (show ¬ x0 + (x1 + x2) < x3 by omega)]; rfl
  rw [if_neg k2, if_neg (show ¬ x0 + (x1 + x2) ≤ x3 by omega)]
  by_cases k3 : S + L < M
  · rw [if_pos k3, if_pos (show x0 + x3 < x1 + x2 by omega)]
    by_cases j1 : G = S
    · rw [if_pos j1, if_pos (show g = x0 by omega)]; rfl
    rw [if_neg j1, if_neg (show ¬ g = x0 by omega)]
    by_cases j2 : A = S
    · rw [if_pos j2, if_pos (show a = x0 by omega)]; rfl
    rw [if_neg j2, if_neg (show ¬ a = x0 by omega)]
    by_cases j3 : C = S
    · rw [if_pos j3, if_pos (show c = x0 by omega)]; rfl
    rw [if_neg j3, if_neg (show ¬ c = x0 by omega)]; rfl
  rw [if_neg k3, if_neg (show ¬ x0 + x3 < x1 + x2 by omega)]
  by_cases k4 : S + L = M
  · rw [if_pos k4, if_neg (show ¬ x1 + x2 < x0 + x3 by omega)]; rfl
  rw [if_neg k4, if_pos (show x1 + x2 < x0 + x3 by omega)]; rfl

theorem kind_rising {g a c r x0 x1 x2 x3 : Int} (hg : 0 ≤ g) (ha : 0 ≤ a) (hc : 0 ≤ c) (hr : 0 ≤ r)
    (hp : [x0, x1, x2, x3].Perm [g, a, c, r]) (h01 : x0 ≤ x1) (h12 : x1 ≤ x2) (h23 : x2 ≤ x3) :
    kindI g a c r = kindR g a c x0 x1 x2 x3 := by
  have hs := perm_sum hp
  simp only [List.sum_cons, List.sum_nil] at hs
  have m0 : x0 ∈ [g, a, c, r] := hp.mem_iff.1 (by simp)
  have m3 : x3 ∈ [g, a, c, r] := hp.mem_iff.1 (by simp)
  have ng : g ∈ [x0, x1, x2, x3] := hp.mem_iff.2 (by simp)
  have na : a ∈ [x0, x1, x2, x3] := hp.mem_iff.2 (by simp)
  have nc : c ∈ [x0, x1, x2, x3] := hp.mem_iff.2 (by simp)
  have nr : r ∈ [x0, x1, x2, x3] := hp.mem_iff.2 (by simp)
  simp only [List.mem_cons, List.not_mem_nil, or_false] at m0 m3 ng na nc nr
  have bg := or_bounds h01 h12 h23 ng
  have ba := or_bounds h01 h12 h23 na
  have bc := or_bounds h01 h12 h23 nc
  have br := or_bounds h01 h12 h23 nr
  clear ng na nc nr hp
  have p3 : 0 ≤ x3 := by omega
  have p0 : 0 ≤ x0 := by rcases m0 with h | h | h | h <;> (rw [h]; assumption)
  have eL := longest_of m3 p3 bg.2 ba.2 bc.2 br.2
  have eS := shortest_of m0 p0 bg.1 ba.1 bc.1 br.1
  have eT : ((Neutral.four g a c r).sum : Int) = x0 + x1 + x2 + x3 := by
    show ((g.toNat + a.toNat + c.toNat + r.toNat : Nat) : Int) = x0 + x1 + x2 + x3
    clear m0 m3
    omega
  exact kind_core eL eS eT (Int.toNat_of_nonneg hg) (Int.toNat_of_nonneg ha) (Int.toNat_of_nonneg hc) h01 h12 h23
end FB
/-! Four bars: plain law, part 2: pins, cosines, lines. -/
namespace FB
open LkFour LkDSpec

def ab (i : Int) : Int := if i < 0 then -i else i
/-- a fraction in lowest terms -/
def fr (o u : Int) : List Int := [o / ((Int.gcd o u : Nat) : Int), u / ((Int.gcd o u : Nat) : Int)]
def nth (g a c r k : Int) : Int := if k = 0 then g else if k = 1 then a else if k = 2 then c else r
def canBe (w z d : Int) : Bool := decide (ab (w - z) ≤ d) && decide (d ≤ w + z)
def cosI (u v d : Int) : List Int := fr (u * u + v * v - d * d) (2 * u * v)
def mn (i j : Int) : Int := if j < i then j else i
def mx (i j : Int) : Int := if j > i then j else i
/-- a pin's bars: u, v meet there; w goes on from u, z from v -/
structure P4 where
  u : Int
  v : Int
  w : Int
  z : Int
def pinI (g a c r n : Int) : P4 := ⟨nth g a c r ((n + 0) % 4), nth g a c r ((n + 1) % 4), nth g a c r ((n + 3) % 4), nth g a c r ((n + 2) % 4)⟩
def fullI (p : P4) : Bool := canBe p.w p.z (ab (p.u - p.v)) && canBe p.w p.z (p.u + p.v)
def rangeI (p : P4) : List Int := cosI p.u p.v (mn (p.u + p.v) (p.w + p.z)) ++ cosI p.u p.v (mx (ab (p.u - p.v)) (ab (p.w - p.z)))
def besideI (own far side other d : Int) : List Int :=
  if d = own + far ∨ far < own then fr (d * d + side * side - other * other) (2 * d * side) else fr (0 - (d * d + side * side - other * other)) (2 * d * side)
def lineI (g a c r n folded other : Int) : List Int :=
  let p := pinI g a c r n
  let d := if folded = 1 then ab (p.u - p.v) else p.u + p.v
  if canBe p.w p.z d = false then [0, 0]
  else if (n + 2) % 4 = other then [1, 2] ++ cosI (pinI g a c r other).u (pinI g a c r other).v d
  else if d ≤ 0 then [-5]
  else if (n + 1) % 4 = other then [1, 2] ++ besideI p.v p.u p.z p.w d
  else [1, 2] ++ besideI p.u p.v p.w p.z d

def ansKind (g a c r : Int) : List Int := if lensOk g a c r = false then [-1] else [kindI g a c r]
def ansFull (g a c r pin : Int) : List Int :=
  if lensOk g a c r = false then [-1] else if ¬ pin ≤ 3 then [-1] else if kindI g a c r = 0 then [-2] else [if fullI (pinI g a c r pin) = true then 1 else 0]
def ansRange (g a c r pin : Int) : List Int :=
  if lensOk g a c r = false then [-1] else if ¬ pin ≤ 3 then [-1] else if kindI g a c r = 0 then [-2] else [0, 4] ++ rangeI (pinI g a c r pin)
def ansLine (g a c r pin folded other : Int) : List Int :=
  if lensOk g a c r = false then [-1] else if ¬ (pin ≤ 3 ∧ other ≤ 3 ∧ other ≠ pin ∧ folded ≤ 1) then [-1] else if kindI g a c r = 0 then [-2] else lineI g a c r pin folded other
def ansCircuits (g a c r : Int) : List Int :=
  if lensOk g a c r = false then [-1] else if kindI g a c r = 0 then [0] else [1 + (if 2 ≤ kindI g a c r ∧ kindI g a c r ≤ 5 then 1 else 0)]

/-! ### the specification's own words opened -/
theorem whole4 {g a c r : Int} (hg : 0 ≤ g) (ha : 0 ≤ a) (hc : 0 ≤ c) (hr : 0 ≤ r) : Neutral.whole [g, a, c, r] = true := by
  simp [Neutral.whole, *]
theorem spec_kind {g a c r : Int} (hg : 0 ≤ g) (ha : 0 ≤ a) (hc : 0 ≤ c) (hr : 0 ≤ r) : PyWqapbt.kind g a c r = ansKind g a c r := by
  have e : PyWqapbt.kind g a c r = Neutral.shown (answer ⟨Neutral.four g a c r, .kind⟩) := by
    simp only [PyWqapbt.kind, Neutral.step, Neutral.callOf, if_pos (whole4 hg ha hc hr), LkDSpec.step]
  rw [e]
  unfold answer ansKind
  dsimp only
  rw [four_lens g a c r hg ha hc hr]
  by_cases k : lensOk g a c r = false
  · rw [if_pos k, if_pos (Or.inl k)]; rfl
  · rw [if_neg k, if_neg (by intro q; rcases q with q | q; exact k q; cases q)]; rfl
theorem spec_circuits {g a c r : Int} (hg : 0 ≤ g) (ha : 0 ≤ a) (hc : 0 ≤ c) (hr : 0 ≤ r) : PyWqapbt.circuits g a c r = ansCircuits g a c r := by
  have e : PyWqapbt.circuits g a c r = Neutral.shown (answer ⟨Neutral.four g a c r, .circuits⟩) := by
    simp only [PyWqapbt.circuits, Neutral.step, Neutral.callOf, if_pos (whole4 hg ha hc hr), LkDSpec.step]
  rw [e]
  unfold answer ansCircuits
  dsimp only
  rw [four_lens g a c r hg ha hc hr]
  by_cases k : lensOk g a c r = false
  · rw [if_pos k, if_pos (Or.inl k)]; rfl
  · rw [if_neg k, if_neg (by intro q; rcases q with q | q; exact k q; cases q)]
    show [(((Neutral.four g a c r).circuits : Nat) : Int)] = _
    unfold Four.circuits kindI
    generalize (Neutral.four g a c r).kind = K
    by_cases k0 : K = 0
    · rw [if_pos k0, if_pos (show (K : Int) = 0 by omega)]; rfl
    · rw [if_neg k0, if_neg (show ¬ (K : Int) = 0 by omega)]
      by_cases k1 : 2 ≤ K ∧ K ≤ 5
      · rw [if_pos k1, if_pos (show 2 ≤ (K : Int) ∧ (K : Int) ≤ 5 by omega)]; rfl
      · rw [if_neg k1, if_neg (show ¬ (2 ≤ (K : Int) ∧ (K : Int) ≤ 5) by omega)]; rfl

theorem two_div (a b : Int) (hb : 0 < b) : two ((a : Rat) / (b : Rat)) = fr a b := by
  rw [← Rat.divInt_eq_div]
  unfold two fr
  rw [Rat.num_divInt, Rat.den_divInt, if_neg (by omega), Int.sign_eq_one_of_pos hb, Int.one_mul, Int.gcd_comm]
  congr 1
  congr 1
  rw [Int.natCast_ediv]; congr 1; omega
theorem two_cosine {u v : Nat} {s : Int} (hu : 1 ≤ u) (hv : 1 ≤ v) : two (cosine u v s) = fr ((u : Int) * u + (v : Int) * v - s) (2 * (u : Int) * v) := by
  have p : 0 < 2 * (u : Int) * v := Int.mul_pos (by omega) (by omega)
  rw [← two_div _ _ p]
  unfold cosine
  congr 1
  congr 1
  · rw [Rat.intCast_sub]; rfl
theorem ab_le {x y : Int} : ab x ≤ y ↔ x ≤ y ∧ -x ≤ y := by
  unfold ab; split <;> omega
theorem ab_nonneg (x : Int) : 0 ≤ ab x := by
  unfold ab; split <;> omega
theorem ab_sq (x : Int) : ab x * ab x = x * x := by
  unfold ab; split
  · rw [Int.neg_mul_neg]
  · rfl
theorem gap_cast (x y : Nat) : ((gap x y : Nat) : Int) = ab ((x : Int) - y) := by
  unfold gap ab; split <;> omega
end FB
/-! Four bars: plain law, part 3: full, range_of, line against the specification. -/
namespace FB
open LkFour LkDSpec

theorem four_cases {n : Int} (h0 : 0 ≤ n) (h3 : n ≤ 3) : n = 0 ∨ n = 1 ∨ n = 2 ∨ n = 3 := by omega
theorem at_pin {g a c r n : Int} (h0 : 0 ≤ n) (h3 : n ≤ 3) :
    (Neutral.four g a c r).at_ n.toNat = ((pinI g a c r n).u.toNat, (pinI g a c r n).v.toNat, (pinI g a c r n).w.toNat, (pinI g a c r n).z.toNat) := by
  rcases four_cases h0 h3 with h | h | h | h <;> subst h <;> rfl
theorem nth_ok {g a c r : Int} (h : lensOk g a c r = true) (k : Int) : 1 ≤ nth g a c r k ∧ nth g a c r k ≤ 999 := by
  have q := lensOk_iff.1 h
  unfold nth
  split
  · exact q.1
  · split
    · exact q.2.1
    · split
      · exact q.2.2.1
      · exact q.2.2.2
theorem canBe_iff {w z d : Int} : canBe w z d = true ↔ ab (w - z) ≤ d ∧ d ≤ w + z := by
  unfold canBe
  rw [Bool.and_eq_true, decide_eq_true_iff, decide_eq_true_iff]
theorem full_core (U V W Z : Nat) : (decide (U + V ≤ W + Z) && decide (gap W Z ≤ gap U V)) = fullI ⟨U, V, W, Z⟩ := by
  rw [Bool.eq_iff_iff]
  unfold fullI
  rw [Bool.and_eq_true, decide_eq_true_iff, decide_eq_true_iff, Bool.and_eq_true, canBe_iff, canBe_iff]
  have g1 := gap_cast W Z
  have g2 := gap_cast U V
  have k1 : ab ((U : Int) - V) ≤ U + V := by rw [ab_le]; omega
  dsimp only
  omega
theorem fr_neg_self {k : Int} (h : 0 < k) : fr (-k) k = [-1, 1] := by
  unfold fr
  rw [Int.neg_gcd, Int.gcd_self]
  have e : ((k.natAbs : Nat) : Int) = k := by omega
  rw [e, Int.neg_ediv_self _ (by omega), Int.ediv_self (by omega)]
theorem fr_self {k : Int} (h : 0 < k) : fr k k = [1, 1] := by
  unfold fr
  rw [Int.gcd_self]
  have e : ((k.natAbs : Nat) : Int) = k := by omega
  rw [e, Int.ediv_self (by omega)]
theorem cos_far {u v : Int} (hu : 1 ≤ u) (hv : 1 ≤ v) : cosI u v (u + v) = [-1, 1] := by
  have p : 0 < 2 * u * v := Int.mul_pos (by omega) (by omega)
  rw [← fr_neg_self p]
  unfold cosI
  congr 1
  grind
theorem cos_near {u v : Int} (hu : 1 ≤ u) (hv : 1 ≤ v) : cosI u v (ab (u - v)) = [1, 1] := by
  have p : 0 < 2 * u * v := Int.mul_pos (by omega) (by omega)
  rw [← fr_self p]
  unfold cosI
  rw [ab_sq]
  congr 1
  grind
theorem range_core {U V W Z : Nat} (hu : 1 ≤ U) (hv : 1 ≤ V) :
    two (if U + V ≤ W + Z then -1 else cosine U V (((W + Z) * (W + Z) : Nat) : Int)) ++ two (if gap W Z ≤ gap U V then 1 else cosine U V ((gap W Z * gap W Z : Nat) : Int)) = rangeI ⟨U, V, W, Z⟩ := by
  have g1 := gap_cast W Z
  have g2 := gap_cast U V
  unfold rangeI
  dsimp only
  congr 1
  · by_cases k : U + V ≤ W + Z
    · rw [if_pos k]
      have e : mn ((U : Int) + V) (W + Z) = U + V := by unfold mn; rw [if_neg (by omega)]
      rw [e, cos_far (by omega) (by omega)]
      rfl
    · rw [if_neg k]
      have e : mn ((U : Int) + V) (W + Z) = W + Z := by unfold mn; rw [if_pos (by omega)]
      rw [e, two_cosine hu hv]
      unfold cosI
      rw [Int.natCast_mul, Int.natCast_add]
  · by_cases k : gap W Z ≤ gap U V
    · rw [if_pos k]
      have e : mx (ab ((U : Int) - V)) (ab ((W : Int) - Z)) = ab ((U : Int) - V) := by unfold mx; rw [if_neg (by omega)]
      rw [e, cos_near (by omega) (by omega)]
      rfl
    · rw [if_neg k]
      have e : mx (ab ((U : Int) - V)) (ab ((W : Int) - Z)) = ab ((W : Int) - Z) := by unfold mx; rw [if_pos (by omega)]
      rw [e, two_cosine hu hv]
      unfold cosI
      rw [Int.natCast_mul, g1]

/-- a pin's bars as natural numbers -/
theorem pin_nats {g a c r : Int} (h : lensOk g a c r = true) (n : Int) :
    ∃ U V W Z : Nat, 1 ≤ U ∧ 1 ≤ V ∧ 1 ≤ W ∧ 1 ≤ Z ∧ pinI g a c r n = ⟨U, V, W, Z⟩ ∧ (pinI g a c r n).u.toNat = U ∧ (pinI g a c r n).v.toNat = V ∧ (pinI g a c r n).w.toNat = W ∧ (pinI g a c r n).z.toNat = Z := by
  have b0 := nth_ok h ((n + 0) % 4)
  have b1 := nth_ok h ((n + 1) % 4)
  have b2 := nth_ok h ((n + 2) % 4)
  have b3 := nth_ok h ((n + 3) % 4)
  unfold pinI
  revert b0 b1 b2 b3
  generalize nth g a c r ((n + 0) % 4) = u
  generalize nth g a c r ((n + 1) % 4) = v
  generalize nth g a c r ((n + 2) % 4) = z
  generalize nth g a c r ((n + 3) % 4) = w
  intro b0 b1 b2 b3
  refine ⟨u.toNat, v.toNat, w.toNat, z.toNat, by omega, by omega, by omega, by omega, ?_, rfl, rfl, rfl, rfl⟩
  rw [Int.toNat_of_nonneg (by omega), Int.toNat_of_nonneg (by omega), Int.toNat_of_nonneg (by omega), Int.toNat_of_nonneg (by omega)]

theorem whole5 {g a c r x : Int} (hg : 0 ≤ g) (ha : 0 ≤ a) (hc : 0 ≤ c) (hr : 0 ≤ r) (hx : 0 ≤ x) : Neutral.whole [g, a, c, r, x] = true := by
  simp [Neutral.whole, *]
theorem kind_zero {g a c r : Int} : kindI g a c r = 0 ↔ (Neutral.four g a c r).kind = 0 := by
  unfold kindI; omega
theorem spec_full {g a c r pin : Int} (hg : 0 ≤ g) (ha : 0 ≤ a) (hc : 0 ≤ c) (hr : 0 ≤ r) (hp : 0 ≤ pin) : PyWqapbt.full g a c r pin = ansFull g a c r pin := by
  have e : PyWqapbt.full g a c r pin = Neutral.shown (answer ⟨Neutral.four g a c r, .full pin.toNat⟩) := by
    simp only [PyWqapbt.full, Neutral.step, Neutral.callOf, if_pos (whole5 hg ha hc hr hp), LkDSpec.step]
  rw [e]
  unfold answer ansFull
  dsimp only
  rw [four_lens g a c r hg ha hc hr]
  by_cases k : lensOk g a c r = false
  · rw [if_pos k, if_pos (Or.inl k)]; rfl
  rw [if_neg k]
  by_cases k3 : pin ≤ 3
  · have q : fine (.full pin.toNat) = true := decide_eq_true (show pin.toNat ≤ 3 by omega)
    rw [if_neg (by intro w; rcases w with w | w; exact k w; rw [q] at w; cases w), if_neg (not_not_intro k3)]
    by_cases k0 : (Neutral.four g a c r).kind = 0
    · rw [if_pos k0, if_pos (kind_zero.2 k0)]; rfl
    rw [if_neg k0, if_neg (mt kind_zero.1 k0)]
    obtain ⟨U, V, W, Z, _, _, _, _, eP, e1, e2, e3, e4⟩ := pin_nats (Bool.not_eq_false _ ▸ k) pin
    have eF : (Neutral.four g a c r).full pin.toNat = fullI (pinI g a c r pin) := by
      unfold Four.full
      rw [at_pin hp k3, e1, e2, e3, e4, eP]
      exact full_core U V W Z
    rw [eF]
    by_cases kf : fullI (pinI g a c r pin) = true
    · rw [if_pos kf]; rfl
    · rw [if_neg kf]; rfl
  · have q : fine (.full pin.toNat) = false := decide_eq_false (show ¬ pin.toNat ≤ 3 by omega)
    rw [if_pos (Or.inr q), if_pos k3]; rfl
theorem spec_range {g a c r pin : Int} (hg : 0 ≤ g) (ha : 0 ≤ a) (hc : 0 ≤ c) (hr : 0 ≤ r) (hp : 0 ≤ pin) : PyWqapbt.range_of g a c r pin = ansRange g a c r pin := by
  have e : PyWqapbt.range_of g a c r pin = Neutral.shown (answer ⟨Neutral.four g a c r, .range pin.toNat⟩) := by
    simp only [PyWqapbt.range_of, Neutral.step, Neutral.callOf, if_pos (whole5 hg ha hc hr hp), LkDSpec.step]
  rw [e]
  unfold answer ansRange
  dsimp only
  rw [four_lens g a c r hg ha hc hr]
  by_cases k : lensOk g a c r = false
  · rw [if_pos k, if_pos (Or.inl k)]; rfl
  rw [if_neg k]
  by_cases k3 : pin ≤ 3
  · have q : fine (.range pin.toNat) = true := decide_eq_true (show pin.toNat ≤ 3 by omega)
    rw [if_neg (by intro w; rcases w with w | w; exact k w; rw [q] at w; cases w), if_neg (not_not_intro k3)]
    by_cases k0 : (Neutral.four g a c r).kind = 0
    · rw [if_pos k0, if_pos (kind_zero.2 k0)]; rfl
    rw [if_neg k0, if_neg (mt kind_zero.1 k0)]
    obtain ⟨U, V, W, Z, hU, hV, _, _, eP, e1, e2, e3, e4⟩ := pin_nats (Bool.not_eq_false _ ▸ k) pin
    have eF : two ((Neutral.four g a c r).range pin.toNat).1 ++ two ((Neutral.four g a c r).range pin.toNat).2 = rangeI (pinI g a c r pin) := by
      unfold Four.range
      rw [at_pin hp k3, e1, e2, e3, e4, eP]
      exact range_core hU hV
    rw [eF]
    show 0 :: (((rangeI (pinI g a c r pin)).length : Nat) : Int) :: (rangeI (pinI g a c r pin) ++ []) = _
    rw [List.append_nil]
    rfl
  · have q : fine (.range pin.toNat) = false := decide_eq_false (show ¬ pin.toNat ≤ 3 by omega)
    rw [if_pos (Or.inr q), if_pos k3]; rfl
end FB
/-! Four bars: plain law, part 4: line. -/
namespace FB
open LkFour LkDSpec
/-- the cosine beside, whatever the sign of the distance -/
theorem beside_core {U V W Z : Nat} {A : Int} (hU : 1 ≤ U) (hV : 1 ≤ V) (hW : 1 ≤ W) (hA : A ≠ 0) (h : A = (U : Int) + V ∨ A = (U : Int) - V) :
    two ((A * A + ((W * W : Nat) : Int) - ((Z * Z : Nat) : Int) : Rat) / (2 * A * (W : Int) : Rat)) = besideI U V W Z (A.natAbs : Int) := by
  have e1 : (A * A + ((W * W : Nat) : Int) - ((Z * Z : Nat) : Int) : Rat) = ((A * A + (W : Int) * W - (Z : Int) * Z : Int) : Rat) := by
    rw [Rat.intCast_sub, Rat.intCast_add, Rat.intCast_mul, Int.natCast_mul, Int.natCast_mul]
  have e2 : (2 * A * (W : Int) : Rat) = ((2 * A * (W : Int) : Int) : Rat) := by
    rw [Rat.intCast_mul, Rat.intCast_mul]; rfl
  rw [e1, e2]
  unfold besideI
  by_cases k : 0 < A
  · have ea : (A.natAbs : Int) = A := by omega
    rw [if_pos (by omega), ea, two_div _ _ (Int.mul_pos (by omega) (by omega))]
  · have ea : (A.natAbs : Int) = -A := by omega
    rw [if_neg (by omega), ea]
    have p : 0 < 2 * -A * (W : Int) := Int.mul_pos (by omega) (by omega)
    rw [← two_div _ _ p]
    congr 1
    rw [← Rat.divInt_eq_div, ← Rat.divInt_eq_div, ← Rat.neg_divInt_neg]
    congr 1 <;> grind
theorem inLine_core (W Z D : Nat) : (decide (gap W Z ≤ D) && decide (D ≤ W + Z)) = canBe W Z D := by
  rw [Bool.eq_iff_iff, canBe_iff, Bool.and_eq_true, decide_eq_true_iff, decide_eq_true_iff]
  have g1 := gap_cast W Z
  omega
/-- what's told of a line -/
def told (x : Option Rat) : List Int := match x with
  | some x => [1, 2] ++ two x
  | none => [-5]
def specLine (f : Four) (pin : Nat) (folded : Bool) (other : Nat) : List Int := if f.inLine pin folded = false then [0, 0] else told (f.lineCosine pin folded other)
theorem line_core {U V W Z : Nat} {A : Int} {n other : Int} (hU : 1 ≤ U) (hV : 1 ≤ V) (hW : 1 ≤ W) (hZ : 1 ≤ Z) (n0 : 0 ≤ n) (n3 : n ≤ 3) (o0 : 0 ≤ other) (o3 : other ≤ 3) (hne : other ≠ n) (B : Bool)
    (hA : A = if B = true then (U : Int) - V else (U : Int) + V) (d : Int) (hd : d = (A.natAbs : Int)) :
    told (if other.toNat = (n.toNat + 2) % 4 then some (cosine W Z (A * A))
      else if A = 0 then none
      else if other.toNat = (n.toNat + 3) % 4 then some ((A * A + ((W * W : Nat) : Int) - ((Z * Z : Nat) : Int) : Rat) / (2 * A * (W : Int) : Rat))
      else
        let e := if B = true then -A else A
        some ((A * A + ((Z * Z : Nat) : Int) - ((W * W : Nat) : Int) : Rat) / (2 * e * (Z : Int) : Rat))) =
    (if (n + 2) % 4 = other then [1, 2] ++ cosI Z W d
      else if d ≤ 0 then [-5]
      else if (n + 1) % 4 = other then [1, 2] ++ besideI V U Z W d
      else [1, 2] ++ besideI U V W Z d) := by
  by_cases k2 : (n + 2) % 4 = other
  · rw [if_pos k2, if_pos (show other.toNat = (n.toNat + 2) % 4 by omega)]
    show [1, 2] ++ two (cosine W Z (A * A)) = [1, 2] ++ cosI Z W d
    rw [two_cosine hW hZ]
    unfold cosI
    have e : d * d = A * A := by rw [hd, ← Int.natCast_mul, Int.natAbs_mul_self]
    rw [e]
    congr 2 <;> grind
  rw [if_neg k2, if_neg (show ¬ other.toNat = (n.toNat + 2) % 4 by omega)]
  by_cases k0 : A = 0
  · rw [if_pos k0, if_pos (show d ≤ 0 by omega)]; rfl
  rw [if_neg k0, if_neg (show ¬ d ≤ 0 by omega)]
  by_cases k1 : (n + 1) % 4 = other
  · rw [if_pos k1, if_neg (show ¬ other.toNat = (n.toNat + 3) % 4 by omega)]
    show [1, 2] ++ two _ = [1, 2] ++ besideI V U Z W d
    congr 1
    have hE : (if B = true then -A else A) ≠ 0 := by split <;> omega
    have hE2 : (if B = true then -A else A) = (V : Int) + U ∨ (if B = true then -A else A) = (V : Int) - U := by
      by_cases kb : B = true
      · rw [if_pos kb] at hA ⊢; omega
      · rw [if_neg kb] at hA ⊢; omega
    have q := beside_core (Z := W) hV hU hZ hE hE2
    have ee : d = ((if B = true then -A else A).natAbs : Int) := by rw [hd]; split <;> omega
    rw [ee, ← q]
    congr 1
    have sq : ((if B = true then -A else A : Int) : Rat) * ((if B = true then -A else A : Int) : Rat) = (A : Rat) * (A : Rat) := by
      split
      · rw [Rat.intCast_neg]; grind
      · rfl
    rw [sq]
  · rw [if_neg k1, if_pos (show other.toNat = (n.toNat + 3) % 4 by omega)]
    show [1, 2] ++ two _ = [1, 2] ++ besideI U V W Z d
    congr 1
    rw [hd]
    refine beside_core hU hV hW k0 ?_
    by_cases kb : B = true
    · rw [if_pos kb] at hA; exact Or.inr hA
    · rw [if_neg kb] at hA; exact Or.inl hA
theorem pin_opp {g a c r n other : Int} (h0 : 0 ≤ n) (h3 : n ≤ 3) (e : (n + 2) % 4 = other) : (pinI g a c r other).u = (pinI g a c r n).z ∧ (pinI g a c r other).v = (pinI g a c r n).w := by
  subst e
  rcases four_cases h0 h3 with h | h | h | h <;> subst h <;> exact ⟨rfl, rfl⟩
theorem whole7 {g a c r x y z : Int} (hg : 0 ≤ g) (ha : 0 ≤ a) (hc : 0 ≤ c) (hr : 0 ≤ r) (hx : 0 ≤ x) (hy : 0 ≤ y) (hz : 0 ≤ z) : Neutral.whole [g, a, c, r, x, y, z] = true := by
  simp [Neutral.whole, *]
theorem spec_line {g a c r pin folded other : Int} (hg : 0 ≤ g) (ha : 0 ≤ a) (hc : 0 ≤ c) (hr : 0 ≤ r) (hp : 0 ≤ pin) (hf : 0 ≤ folded) (ho : 0 ≤ other) :
    PyWqapbt.line g a c r pin folded other = ansLine g a c r pin folded other := by
  have e : PyWqapbt.line g a c r pin folded other = Neutral.shown (answer ⟨Neutral.four g a c r, .line pin.toNat folded.toNat other.toNat⟩) := by
    simp only [PyWqapbt.line, Neutral.step, Neutral.callOf, if_pos (whole7 hg ha hc hr hp hf ho), LkDSpec.step]
  rw [e]
  unfold answer ansLine
  dsimp only
  rw [four_lens g a c r hg ha hc hr]
  by_cases k : lensOk g a c r = false
  · rw [if_pos k, if_pos (Or.inl k)]; rfl
  rw [if_neg k]
  have qi : fine (.line pin.toNat folded.toNat other.toNat) = true ↔ (pin ≤ 3 ∧ other ≤ 3 ∧ other ≠ pin ∧ folded ≤ 1) := by
    unfold fine
    dsimp only
    rw [Bool.and_eq_true, Bool.and_eq_true, Bool.and_eq_true, decide_eq_true_iff, decide_eq_true_iff, decide_eq_true_iff, bne_iff_ne]
    omega
  by_cases kk : pin ≤ 3 ∧ other ≤ 3 ∧ other ≠ pin ∧ folded ≤ 1
  · have q := qi.2 kk
    rw [if_neg (by intro w; rcases w with w | w; exact k w; rw [q] at w; cases w), if_neg (not_not_intro kk)]
    obtain ⟨k3, ko, kne, kf⟩ := kk
    by_cases k0 : (Neutral.four g a c r).kind = 0
    · rw [if_pos k0, if_pos (kind_zero.2 k0)]; rfl
    rw [if_neg k0, if_neg (mt kind_zero.1 k0)]
    have eT : Neutral.shown (if (Neutral.four g a c r).inLine pin.toNat (folded.toNat == 1) = false then (⟨0, [[]]⟩ : Answer) else match (Neutral.four g a c r).lineCosine pin.toNat (folded.toNat == 1) other.toNat with
        | some x => ⟨1, [two x]⟩
        | none => says (-5)) = specLine (Neutral.four g a c r) pin.toNat (folded.toNat == 1) other.toNat := by
      unfold specLine
      split
      · rfl
      · cases (Neutral.four g a c r).lineCosine pin.toNat (folded.toNat == 1) other.toNat <;> rfl
    refine eT.trans ?_
    unfold specLine lineI
    obtain ⟨U, V, W, Z, hU, hV, hW, hZ, eP, e1, e2, e3, e4⟩ := pin_nats (Bool.not_eq_false _ ▸ k) pin
    have ek : (Neutral.four g a c r).at_ pin.toNat = (U, V, W, Z) := by rw [at_pin hp k3, e1, e2, e3, e4]
    generalize hB : (folded.toNat == 1) = B
    have hBi : B = true ↔ folded = 1 := by rw [← hB, beq_iff_eq]; omega
    have eA : (Neutral.four g a c r).apart pin.toNat B = if B = true then (U : Int) - V else (U : Int) + V := by
      unfold Four.apart
      rw [ek]
    generalize hAA : (Neutral.four g a c r).apart pin.toNat B = A at eA
    have ed : (if folded = 1 then ab ((U : Int) - V) else (U : Int) + V) = (A.natAbs : Int) := by
      by_cases kb : B = true
      · rw [if_pos kb] at eA; rw [if_pos (hBi.1 kb), eA]; unfold ab; split <;> omega
      · rw [if_neg kb] at eA; rw [if_neg (mt hBi.2 kb), eA]; omega
    have eI : (Neutral.four g a c r).inLine pin.toNat B = canBe W Z (A.natAbs : Int) := by
      unfold Four.inLine
      rw [ek, hAA]
      exact inLine_core W Z A.natAbs
    rw [eI, eP]
    dsimp only
    rw [ed]
    by_cases kc : canBe W Z (A.natAbs : Int) = false
    · rw [if_pos kc, if_pos kc]
    rw [if_neg kc, if_neg kc]
    unfold Four.lineCosine
    rw [ek, hAA]
    refine (line_core hU hV hW hZ hp k3 ho ko kne B eA _ rfl).trans ?_
    by_cases k2 : (pin + 2) % 4 = other
    · rw [if_pos k2, if_pos k2, (pin_opp hp k3 k2).1, (pin_opp hp k3 k2).2, eP]
    · rw [if_neg k2, if_neg k2]
  · have q : fine (.line pin.toNat folded.toNat other.toNat) = false := by
      cases h : fine (.line pin.toNat folded.toNat other.toNat)
      · rfl
      · exact absurd (qi.1 h) kk
    rw [if_pos (Or.inr q), if_pos kk]; rfl
end FB
/-! Four bars: what the walks of all the defs share. -/
namespace FW
open PySem L2 Evl

/-! ### callees by name -/
section
variable (P : Program) (w : World) (K : PySem.W.Frag) (mg : Str → Option Value) (base : Heap)
def Cal (k : Nat) (x : Str) (sp : Sp) : Prop := ∃ f fd ps, FnOk P w K mg base (L2.CX P w) k f fd ps sp ∧ mg x = some (.ref f) ∧ PySem.W.keepIn K (.ref f) = true ∧ Binds K fd ps []
def Met (k : Nat) (C : Addr) (m : Str) (sp : Sp) : Prop := ∃ f fd ps, FnOk P w K mg base (L2.CX P w) k f fd ps sp ∧ Meth K C m f ∧ Binds K fd ps []
def Mak (k : Nat) (x : Str) (C : Addr) (sp : Sp) : Prop := ∃ f fd ps, FnOk P w K mg base (L2.CX P w) k f fd ps sp ∧ Mk K C f ∧ mg x = some (.ref C) ∧ Binds K fd ps []
end
section
variable {X : Cx} {k j : Nat} {x m : Str} {C : Addr} {sp : Sp} {E : XK} {p pos apos : Pos} {e o : Expr} {es : List Expr} {t : TA} {ta : TE}
theorem pe_cal (c : Cal X.prog X.w X.K X.mg X.base k x sp) (hr : Room j X.A) (hk : k ≤ j) (hx : Passes (L2.CX X.prog X.w) X E) (ha : PA X (e :: es) t) (hg : Gl X x := by rfl) (hdb : (x == ("__debug__" : Str)) = false := by decide)
    (he : starEach (e :: es) X.env = (false, eval e X.env) :: starEach es X.env := by rfl) (hpl : (backTo pos (starEach es X.env)).any (·.1) = false := by rfl) : PE X (.Call (.Name x p) (e :: es) [] pos) (tCall sp [] E t) := by
  obtain ⟨f, fd, ps, F, hm, hkp, hb⟩ := c
  exact pe_call F (hr.mono hk) hg hm hkp hb .nil hx ha hdb he hpl
theorem pe_mak (c : Mak X.prog X.w X.K X.mg X.base k x C sp) (hr : Room j X.A) (hk : k + 1 ≤ j) (hx : Passes (L2.CX X.prog X.w) X E) (ha : PA X (e :: es) t) (hg : Gl X x := by rfl) (hdb : (x == ("__debug__" : Str)) = false := by decide)
    (he : starEach (e :: es) X.env = (false, eval e X.env) :: starEach es X.env := by rfl) (hpl : (backTo pos (starEach es X.env)).any (·.1) = false := by rfl) : PE X (.Call (.Name x p) (e :: es) [] pos) (tMake C sp [] E t) := by
  obtain ⟨f, fd, ps, F, M, hm, hb⟩ := c
  exact pe_make M F (hr.mono hk) hg hm hb .nil hx ha hdb he hpl
theorem pe_met0 {pl : Sem Bool} (he : PE X o ta) (cl : Cls X.K C) (c : Met X.prog X.w X.K X.mg X.base k C m sp) (hr : Room j X.A) (hk : k ≤ j) (hx : Passes (L2.CX X.prog X.w) X E)
    (ht : eval (.Call (.Attribute o m apos) [] [] pos) X.env = (do let ov ← eval o X.env; standAt apos.atName; let (f, first) ← holding [ov] (getMethod ov m pl); callWith pos f first (backTo pos (starEach [] X.env)) (backToKw pos (keywordEach [] X.env))) := by rfl) :
    PE X (.Call (.Attribute o m apos) [] [] pos) (tMeth C m sp [] E ta tNil) := by
  obtain ⟨f, fd, ps, F, M, hb⟩ := c
  exact pe_meth0 he cl M F (hr.mono hk) hb .nil hx ht
theorem pe_met {pl : Sem Bool} (he : PE X o ta) (cl : Cls X.K C) (c : Met X.prog X.w X.K X.mg X.base k C m sp) (hr : Room j X.A) (hk : k ≤ j) (hx : Passes (L2.CX X.prog X.w) X E) (ha : PA X (e :: es) t)
    (ht : eval (.Call (.Attribute o m apos) (e :: es) [] pos) X.env = (do let ov ← eval o X.env; standAt apos.atName; let (f, first) ← holding [ov] (getMethod ov m pl); callWith pos f first (backTo pos (starEach (e :: es) X.env)) (backToKw pos (keywordEach [] X.env))) := by rfl)
    (he2 : starEach (e :: es) X.env = (false, eval e X.env) :: starEach es X.env := by rfl) (hpl : (backTo pos (starEach es X.env)).any (·.1) = false := by rfl) :
    PE X (.Call (.Attribute o m apos) (e :: es) [] pos) (tMeth C m sp [] E ta t) := by
  obtain ⟨f, fd, ps, F, M, hb⟩ := c
  exact pe_meth he cl M F (hr.mono hk) hb .nil hx ha he2 hpl ht
end
/-- a def that lets nothing out, where others may -/
theorem fn_up {P : Program} {w : World} {K : PySem.W.Frag} {mg : Str → Option Value} {base : Heap} {k : Nat} {f : Addr} {fd : FuncData} {ps : List Str} {sp : Sp} (F : FnOk P w K mg base CX0 k f fd ps sp) : FnOk P w K mg base (L2.CX P w) k f fd ps sp :=
  ⟨F.len, fun A outer s H args us vs Q E hr en bt vl h => codeAny_mono (F.run A outer s H args us vs Q E hr en bt vl h) fun r s' q => by
    cases r with
    | error e => exact False.elim q
    | ok fl => cases fl <;> exact q⟩
/-! ### what is let out -/
/-- a refusal with its number -/
def Out (R : Addr) (E : XK) (n : Int) (H : Hp) : Prop := ∀ d H2, Ex H H2 → H2 d = some (.xd [(("code" : Str), .int n)]) → E (.ref R) (some d) H2
theorem Out.go {R : Addr} {E : XK} {n : Int} {H H' : Hp} (h : Out R E n H) (e : Ex H H') : Out R E n H' := fun d H2 e2 hd => h d H2 (e.trans e2) hd
/-- the wish of a try's body where the slots may stand as they like -/
abbrev EW (W : WX) (n : Nat) : XK := fun cls d H => ∀ σ : St, σ.length = n → W cls d σ H
theorem passLen {X : Cx} {W : WX} {n : Nat} (tk : Takes X W) (hn : X.N.length = n) : Passes (L2.CX X.prog X.w) X (EW W n) := fun _ σ _ _ e s' I c =>
  tk e s' (XE.of_call I (fun cls d H' h => h σ (I.len.trans hn)) c)
theorem passE {X : Cx} {E : XK} (tk : Takes X (fun cls d _ H => E cls d H)) : Passes (L2.CX X.prog X.w) X E := passes_call tk fun _ _ _ _ h => h

/-! ### what evaluates to what, further -/
section
variable {K : PySem.W.Frag} {σ : L2.St} {H H' : Hp} {ta tb te : TE} {x y z v : V}
theorem ev_fld {a C dx : Addr} {fs : List (Str × V)} {f : Str} (h : Ev ta σ H (.ref a)) (ho : H a = some (.ins C dx fs)) (hc : Cls K C) (hn : NoAttr K C f) (hl : fs.lookup f = some v) : Ev (tFld K ta f) σ H v := fun H1 e Q q =>
  h H1 e _ fun H2 e2 => ⟨a, C, dx, fs, v, rfl, e2 _ _ (e _ _ ho), hc, hn, hl, q H2 e2⟩
theorem ev_abs {ta : TE} {i : Int} (h : Ev ta σ H (.int i)) : Ev (tCB (fun xs H Q => ∃ i, xs = [V.int i] ∧ Q (.int (if i < 0 then -i else i)) H) (tCons ta tNil)) σ H (.int (FB.ab i)) := fun H1 e Q q =>
  h H1 e _ fun H2 e2 => ⟨i, rfl, q H2 e2⟩
theorem ev_intB {b : Bool} (h : Ev ta σ H (.bl b)) : Ev (tCB (fun xs H Q => (∃ i, xs = [V.int i] ∧ Q (.int i) H) ∨ ∃ k, xs = [V.bl k] ∧ Q (.int (if k then 1 else 0)) H) (tCons ta tNil)) σ H (.int (if b = true then 1 else 0)) := fun H1 e Q q =>
  h H1 e _ fun H2 e2 => Or.inr ⟨b, rfl, q H2 e2⟩
theorem ev_min2 {i j : Int} (ha : Ev ta σ H (.int i)) (hb : Ev tb σ H (.int j)) : Ev (tCB (fun xs H Q => ∃ i j, xs = [V.int i, V.int j] ∧ Q (.int (if j < i then j else i)) H) (tCons ta (tCons tb tNil))) σ H (.int (FB.mn i j)) := fun H1 e Q q =>
  ha H1 e _ fun H2 e2 => hb H2 (e.trans e2) _ fun H3 e3 => ⟨i, j, rfl, q H3 (e2.trans e3)⟩
theorem ev_mx2 {i j : Int} (ha : Ev ta σ H (.int i)) (hb : Ev tb σ H (.int j)) : Ev (tCB (fun xs H Q => ∃ i j, xs = [V.int i, V.int j] ∧ Q (.int (if j > i then j else i)) H) (tCons ta (tCons tb tNil))) σ H (.int (FB.mx i j)) := fun H1 e Q q =>
  ha H1 e _ fun H2 e2 => hb H2 (e.trans e2) _ fun H3 e3 => ⟨i, j, rfl, q H3 (e2.trans e3)⟩
/-- o.m(..), what m promises a value -/
theorem ev_meth {a C dx : Addr} {fs : List (Str × V)} {m : Str} {sp : Sp} {E : XK} {tr : TA} {vs : List V} (h : Ev ta σ H (.ref a)) (ho : H a = some (.ins C dx fs)) (hl : fs.lookup m = none) (hr : EvA tr σ H vs) (hs : SpV sp (.ref a :: vs) H z) : Ev (tMeth C m sp [] E ta tr) σ H z := fun H1 e Q q =>
  h H1 e _ fun H2 e2 => ⟨a, dx, fs, rfl, e2 _ _ (e _ _ ho), hl, hr H2 (e.trans e2) _ fun H3 e3 => by
    have k := hs H3 ((e.trans e2).trans e3) Q (fun H4 e4 => q H4 ((e2.trans e3).trans e4)) E
    show sp (V.ref a :: (vs ++ [])) H3 Q E
    rw [List.append_nil]
    exact k⟩
theorem ev_cal {sp : Sp} {E : XK} {tr : TA} {vs : List V} (hr : EvA tr σ H vs) (hs : SpV sp vs H z) : Ev (tCall sp [] E tr) σ H z := ev_call hr (by rw [List.append_nil]; exact hs)
theorem el_cal {sp : Sp} {E : XK} {tr : TA} {vs xs : List V} (hr : EvA tr σ H vs) (hs : SpL sp vs H xs) : EvL (tCall sp [] E tr) σ H xs := el_call hr (by rw [List.append_nil]; exact hs)
theorem el_meth {a C dx : Addr} {fs : List (Str × V)} {m : Str} {sp : Sp} {E : XK} {tr : TA} {vs xs : List V} (h : Ev ta σ H (.ref a)) (ho : H a = some (.ins C dx fs)) (hl : fs.lookup m = none) (hr : EvA tr σ H vs) (hs : SpL sp (.ref a :: vs) H xs) : EvL (tMeth C m sp [] E ta tr) σ H xs := fun H1 e Q q =>
  h H1 e _ fun H2 e2 => ⟨a, dx, fs, rfl, e2 _ _ (e _ _ ho), hl, hr H2 (e.trans e2) _ fun H3 e3 => by
    have k := hs H3 ((e.trans e2).trans e3) Q (fun p H4 hp e4 h4 => q p H4 (fresh_back (e2.trans e3) hp) ((e2.trans e3).trans e4) h4) E
    show sp (V.ref a :: (vs ++ [])) H3 Q E
    rw [List.append_nil]
    exact k⟩
/-- a new object of the class at C with these fields -/
def EvO1 (te : TE) (σ : L2.St) (H : Hp) (C : Addr) (fs : List (Str × V)) : Prop := ∀ H1, Ex H H1 → ∀ Q : VK, (∀ p dx H2, H1 p = none → Ex H1 H2 → H2 p = some (.ins C dx fs) → Q (.ref p) H2) → te σ H1 Q
/-- what a promise makes: a new object -/
def SpO (sp : Sp) (vs : List V) (H : Hp) (C : Addr) (fs : List (Str × V)) : Prop := ∀ H1, Ex H H1 → ∀ Q : VK, (∀ p dx H2, H1 p = none → Ex H1 H2 → H2 p = some (.ins C dx fs) → Q (.ref p) H2) → ∀ E : XK, sp vs H1 Q E
/-- a maker's promise: the fields of the object at p -/
def Fills (C : Addr) (H : Hp) (p dx : Addr) (fs : List (Str × V)) (Q : VK) : Prop := ∀ H2, (∀ b o, b ≠ p → H b = some o → H2 b = some o) → H2 p = some (.ins C dx fs) → Q .non H2
theorem ex_made {H H2 : Hp} {p dx C : Addr} (hp : H p = none) (hd : H dx = none) (k : ∀ b o, b ≠ p → (upd (upd H dx (.own p)) p (.ins C dx [])) b = some o → H2 b = some o) : Ex H H2 := fun b o hb => by
  have n1 : b ≠ p := ne_of_none hb hp
  have n2 : b ≠ dx := ne_of_none hb hd
  exact k b o n1 (by rw [upd_ne n1, upd_ne n2]; exact hb)
theorem eo_make {C : Addr} {sp : Sp} {E : XK} {tr : TA} {vs : List V} {fs : List (Str × V)} (hr : EvA tr σ H vs)
    (hs : ∀ H1 p dx Q, Ex H H1 → H1 p = some (.ins C dx []) → Fills C H1 p dx fs Q → sp (.ref p :: vs) H1 Q E) : EvO1 (tMake C sp [] E tr) σ H C fs := fun H1 e Q q =>
  hr H1 e _ fun H2 e2 => by
    intro p dx hp hd hne
    have ee : Ex H (upd (upd H2 dx (.own p)) p (.ins C dx [])) := fun b o hb => by
      have hb2 := e2 b o (e b o hb)
      rw [upd_ne (ne_of_none hb2 hp), upd_ne (ne_of_none hb2 hd)]
      exact hb2
    have k := hs (upd (upd H2 dx (.own p)) p (.ins C dx [])) p dx (fun v H3 => v = .non ∧ Q (.ref p) H3) ee upd_same (fun H3 k3 h3 => ⟨rfl, q p dx H3 (fresh_back e2 hp) (e2.trans (ex_made hp hd k3)) h3⟩)
    show sp (V.ref p :: (vs ++ [])) _ _ _
    rw [List.append_nil]
    exact k
theorem s_asgO {i : Nat} {D : Ends} {C : Addr} {fs : List (Str × V)} (h : EvO1 te σ H C fs) (k : ∀ p dx H1, H p = none → Ex H H1 → H1 p = some (.ins C dx fs) → D.nx (σ.set i (some (.ref p))) H1) : tAsg te (gName i) D σ H := h H (Ex.refl H) _ fun p dx H1 hp e h1 => k p dx H1 hp e h1
theorem q_asgO {i : Nat} {D : Ends} {tz : TS} {C : Addr} {fs : List (Str × V)} (h : EvO1 te σ H C fs) (k : ∀ p dx H1, H p = none → Ex H H1 → H1 p = some (.ins C dx fs) → tz D (σ.set i (some (.ref p))) H1) : tSeq (tAsg te (gName i)) tz D σ H := s_asgO (D := { D with nx := tz D }) h k
theorem s_retO {D : Ends} {C : Addr} {fs : List (Str × V)} (h : EvO1 te σ H C fs) (k : ∀ p dx H1, H p = none → Ex H H1 → H1 p = some (.ins C dx fs) → D.rt (.ref p) H1) : tRet te D σ H := h H (Ex.refl H) _ fun p dx H1 hp e h1 => k p dx H1 hp e h1
/-- self.f = v -/
theorem s_fld {D : Ends} {a C dx : Addr} {fs : List (Str × V)} {f : Str} (hv : Ev tb σ H y) (ha : Ev ta σ H (.ref a)) (ho : H a = some (.ins C dx fs)) (hc : Cls K C) (hn : NoAttr K C f) (hl : fs.length < 1000)
    (k : ∀ H1, Ex H H1 → H1 a = some (.ins C dx fs) → D.nx σ (upd H1 a (.ins C dx (putF f y fs)))) : sFld K ta tb f D σ H := hv H (Ex.refl H) _ fun H1 e1 =>
  ha H1 e1 _ fun H2 e2 => ⟨a, C, dx, fs, rfl, e2 _ _ (e1 _ _ ho), hc, hn, hl, k H2 (e1.trans e2) (e2 _ _ (e1 _ _ ho))⟩
theorem q_fld {D : Ends} {tz : TS} {a C dx : Addr} {fs : List (Str × V)} {f : Str} (hv : Ev tb σ H y) (ha : Ev ta σ H (.ref a)) (ho : H a = some (.ins C dx fs)) (hc : Cls K C) (hn : NoAttr K C f) (hl : fs.length < 1000)
    (k : ∀ H1, Ex H H1 → H1 a = some (.ins C dx fs) → tz D σ (upd H1 a (.ins C dx (putF f y fs)))) : tSeq (sFld K ta tb f) tz D σ H := s_fld (D := { D with nx := tz D }) hv ha ho hc hn hl k
end
/-! ### must -/
def spMust (R : Addr) : Sp := fun vs H Q E => ∃ (b : Bool) (n : Int), vs = [.bl b, .int n] ∧ (b = true → RetV .non H Q) ∧ (b = false → Out R E n H)
theorem q_must {σ : L2.St} {H : Hp} {D : Ends} {tz : TS} {R : Addr} {E : XK} {b : Bool} {n : Int} {tr : TA} (h : EvA tr σ H [.bl b, .int n]) (h1 : b = true → ∀ H1, Ex H H1 → tz D σ H1) (h2 : b = false → ∀ H1, Ex H H1 → Out R E n H1) :
    tSeq (tDrop (tCall (spMust R) [] E tr)) tz D σ H := h H (Ex.refl H) _ fun H1 e1 => ⟨b, n, rfl, fun hb H2 e2 => h1 hb H2 (e1.trans e2), fun hb => h2 hb H1 e1⟩
theorem s_must {σ : L2.St} {H : Hp} {D : Ends} {R : Addr} {E : XK} {b : Bool} {n : Int} {tr : TA} (h : EvA tr σ H [.bl b, .int n]) (h1 : b = true → ∀ H1, Ex H H1 → D.nx σ H1) (h2 : b = false → ∀ H1, Ex H H1 → Out R E n H1) :
    tDrop (tCall (spMust R) [] E tr) D σ H := h H (Ex.refl H) _ fun H1 e1 => ⟨b, n, rfl, fun hb H2 e2 => h1 hb H2 (e1.trans e2), fun hb => h2 hb H1 e1⟩
def spRI (R : Addr) : Sp := fun vs H Q _ => ∃ (a : Addr) (n : Int), vs = [.ref a, .int n] ∧ H a = some (exo a R none) ∧ ∀ dx, H dx = none → dx ≠ a → Q .non (upd (upd H dx (exd dx [(("code" : Str), .int n)])) a (exo a R (some dx)))
end FW
/-! Four bars: promises and readings of the defs that most calls share. -/
namespace FW
open PySem L2 Evl
section
variable {K : PySem.W.Frag} {σ : L2.St} {H H' : Hp} {ta tb te : TE} {x y z v : V} {D : Ends} {tz : TS}
def LI (ns : List Int) : List V := ns.map V.int
theorem ev_allL {bs : List Bool} (h : EvL te σ H (bs.map V.bl)) : Ev (tCB (rAll K) (tCons te tNil)) σ H (.bl (bs.all id)) := fun H1 e Q q =>
  h H1 e _ fun p H2 _ e2 hp => ⟨p, bs, rfl, sq_of hp, q H2 e2⟩
theorem q_sorted {i : Nat} {a : Addr} {ns : List Int} (h : Ev te σ H (.ref a)) (hl : SqL K H a (ns.map V.int)) (hn : ns.length < 64)
    (k : ∀ (ns' : List Int) (p : Addr) (H1 : Hp), ns'.Perm ns → ns'.Pairwise (· ≤ ·) → Ex H H1 → H1 p = some (.lst (ns'.map V.int)) → tz D (σ.set i (some (.ref p))) H1) : tSeq (tAsg (tCB (rSorted K) (tCons te tNil)) (gName i)) tz D σ H :=
  h H (Ex.refl H) _ fun H1 e => ⟨a, ns, rfl, ex_l e hl, hn, fun ns' p hp hw hf => k ns' p _ hp hw (e.trans (Ex.new hf)) upd_same⟩
theorem flat_ints : ∀ ns : List Int, (ns.map V.int).all flatV = true
  | [] => rfl
  | _ :: r => flat_ints r
theorem ev_index {a : Addr} {ns : List Int} {n : Int} {j : Nat} (h : Ev te σ H (.ref a)) (hl : SqL K H a (ns.map V.int)) (hx : Ev ta σ H (.int n)) (hj : ns[j]? = some n) (hm : ∀ (m : Nat) (z : Int), m < j → ns[m]? = some z → z ≠ n) :
    Ev (tBM K "list" (rIndex K) te (tCons ta tNil)) σ H (.int (j : Nat)) := fun H1 e Q q =>
  h H1 e _ fun H2 e2 => ⟨Or.inl ⟨rfl, _, ex_l (e.trans e2) hl⟩, hx H2 (e.trans e2) _ fun H3 e3 => ⟨a, ns.map V.int, .int n, j, .int n, rfl, rfl, ex_l ((e.trans e2).trans e3) hl, rfl, flat_ints ns, by rw [List.getElem?_map, hj] <;> rfl, by
      show (n == n) = true
      exact beq_self_eq_true n, fun m z' hmj hz => by
      rw [List.getElem?_map] at hz
      cases hq : ns[m]? with
      | none => rw [hq] at hz; cases hz
      | some u =>
        rw [hq] at hz
        cases hz
        show (u == n) = false
        exact beq_eq_false_iff_ne.mpr (hm m u hmj hq), q H3 (e2.trans e3)⟩⟩
theorem ev_ixL {a : Addr} {xs : List V} {n : Int} {j : Nat} (h : Ev te σ H (.ref a)) (hl : SqL K H a xs) (hx : Ev ta σ H (.int n)) (hn : n = (j : Int)) (hj : xs[j]? = some v) : Ev (tOp (rIxL K) te ta) σ H v := by
  subst hn
  exact ev_op h hx (rv_ixL hl (atI_nat hj))
theorem ev_ixT {a : Addr} {xs : List V} {n : Int} {j : Nat} (h : Ev te σ H (.ref a)) (hl : SqT K H a xs) (hx : Ev ta σ H (.int n)) (hn : n = (j : Int)) (hj : xs[j]? = some v) : Ev (tOp (rIxT K) te ta) σ H v := by
  subst hn
  exact ev_op h hx (rv_ixT hl (atI_nat hj))
theorem ev_neg {i : Int} (h : Ev te σ H (.int i)) : Ev (tUn (rU fun i => .int (-i)) te) σ H (.int (-i)) := ev_un h ru_neg
theorem et_val {b : Bool} (h : Ev te σ H (.bl b)) : EvT (tB te) σ H b := et_B h
theorem yes_T : EvT tYes σ H true := fun H1 _ Q q => q H1 (Ex.refl H1)
end
/-! ### the bars -/
/-- at p: the four lengths -/
def BarsAt (C : Addr) (H : Hp) (p : Addr) (g a c r : Int) : Prop := ∃ dx l, H p = some (.ins C dx [(("lengths" : Str), .ref l)]) ∧ H l = some (.lst (LI [g, a, c, r]))
theorem BarsAt.mono {C : Addr} {H H' : Hp} {p : Addr} {g a c r : Int} (e : Ex H H') (h : BarsAt C H p g a c r) : BarsAt C H' p g a c r := by
  obtain ⟨dx, l, h1, h2⟩ := h
  exact ⟨dx, l, e _ _ h1, e _ _ h2⟩
def spBI (R C : Addr) : Sp := fun vs H Q E => ∃ (p dx l : Addr) (g a c r : Int), vs = [.ref p, .ref l] ∧ H p = some (.ins C dx []) ∧ H l = some (.lst (LI [g, a, c, r])) ∧ p ≠ l ∧
  (FB.lensOk g a c r = true → Fills C H p dx [(("lengths" : Str), .ref l)] Q) ∧ (FB.lensOk g a c r = false → Out R E (-1) H)
def spBK (C : Addr) : Sp := fun vs H Q _ => ∃ (p : Addr) (g a c r : Int), vs = [.ref p] ∧ BarsAt C H p g a c r ∧ FB.lensOk g a c r = true ∧ RetV (.int (FB.kindI g a c r)) H Q
theorem spv_bk {C p : Addr} {H : Hp} {g a c r : Int} (h : BarsAt C H p g a c r) (hl : FB.lensOk g a c r = true) : SpV (spBK C) [.ref p] H (.int (FB.kindI g a c r)) := fun H1 e Q q E => ⟨p, g, a, c, r, rfl, h.mono e, hl, q⟩
/-- Bars([g, a, c, r]) -/
theorem mk_bars {σ : L2.St} {H : Hp} {R C : Addr} {E : XK} {g a c r : Int} {ta : TA} {Q : VK} (h : EvA ta σ H [.int g, .int a, .int c, .int r])
    (h1 : FB.lensOk g a c r = true → ∀ p H1, H p = none → Ex H H1 → BarsAt C H1 p g a c r → Q (.ref p) H1) (h2 : FB.lensOk g a c r = false → Out R E (-1) H) :
    tMake C (spBI R C) [] E (tCons (tLst ta) tNil) σ H Q :=
  h H (Ex.refl H) _ fun H1 e1 => ⟨by show 4 ≤ sizeLine; decide, fun l hl => by
    intro p dx hp hd hne
    have hlp : p ≠ l := fun z => by rw [z, upd_same] at hp; cases hp
    have e2 : Ex H1 (upd H1 l (.lst (LI [g, a, c, r]))) := Ex.new hl
    have e3 : Ex (upd H1 l (.lst (LI [g, a, c, r]))) (upd (upd (upd H1 l (.lst (LI [g, a, c, r]))) dx (.own p)) p (.ins C dx [])) := fun b o hb => by
      rw [upd_ne (ne_of_none hb hp), upd_ne (ne_of_none hb hd)]
      exact hb
    refine ⟨p, dx, l, g, a, c, r, rfl, upd_same, e3 _ _ upd_same, hlp, fun ok => ?_, fun bad => (h2 bad).go ((e1.trans e2).trans e3)⟩
    intro H2 k2 hp2
    have ee : Ex H1 H2 := (e2.trans (ex_made hp hd k2))
    exact ⟨rfl, h1 ok p H2 (fresh_back (e1.trans e2) hp) (e1.trans ee) ⟨dx, l, hp2, k2 l _ (Ne.symm hlp) (e3 _ _ upd_same)⟩⟩⟩
theorem q_bars {σ : L2.St} {H : Hp} {D : Ends} {tz : TS} {R C : Addr} {E : XK} {g a c r : Int} {i : Nat} {ta : TA} (h : EvA ta σ H [.int g, .int a, .int c, .int r])
    (h1 : FB.lensOk g a c r = true → ∀ p H1, H p = none → Ex H H1 → BarsAt C H1 p g a c r → tz D (σ.set i (some (.ref p))) H1) (h2 : FB.lensOk g a c r = false → Out R E (-1) H) :
    tSeq (tAsg (tMake C (spBI R C) [] E (tCons (tLst ta) tNil)) (gName i)) tz D σ H := mk_bars (Q := fun x H1 => gName i x σ H1 (tz D)) h h1 h2
theorem ev4 {σ : L2.St} {H : Hp} {g a c r : V} {i j k l : Nat} (h1 : σ[i]? = some (some g)) (h2 : σ[j]? = some (some a)) (h3 : σ[k]? = some (some c)) (h4 : σ[l]? = some (some r)) : EvA (tCons (tVar i) (tCons (tVar j) (tCons (tVar k) (tCons (tVar l) tNil)))) σ H [g, a, c, r] :=
  ea_cons (ev_var h1) (ea_cons (ev_var h2) (ea_cons (ev_var h3) (ea_cons (ev_var h4) ea_nil)))
/-! ### the try of each call -/
def tsR (R : Addr) (i : Nat) : Addr → Value → Option Addr → TS := fun a cls d => tRet (tLst (tCons (tXf a cls d R "code" (tVar i)) tNil))
/-- what a call hands back: a list of whole numbers -/
def Gives (ns : List Int) (Q : VK) : Prop := ∀ (p : Addr) (H' : Hp), H' p = some (.lst (LI ns)) → Q (.ref p) H'
theorem caught {K : PySem.W.Frag} {R : Addr} {i n : Nat} {Wo : WX} {D : Ends} {z : Int} {H : Hp} (te : PySem.W.exmOne K (.ref R) (.ref R) = some true) (hi : i < n) (k : Gives [z] D.rt) : Out R (EW (wAs K (.ref R) i (tsR R i) Wo D) n) z H := fun d H2 _ hd σ hs =>
  ⟨true, te, fun _ a _ => ⟨.ref a, List.getElem?_set_self (by omega), rfl, rfl, d, _, .int z, rfl, hd, rfl, by show 1 ≤ sizeLine; decide, fun p hp => k p _ upd_same⟩, fun q => Bool.noConfusion q⟩
theorem s_gives {σ : L2.St} {H : Hp} {te : TE} {D : Ends} {ns : List Int} (h : EvL te σ H (LI ns)) (k : Gives ns D.rt) : tRet te D σ H := s_retL h fun p H1 _ _ h1 => k p H1 h1
theorem open_ret1 {te : TE} {D : Ends} {σ : L2.St} {H : Hp} (h : te σ H fun x H1 => [x].length ≤ sizeLine ∧ ∀ p, H1 p = none → D.rt (.ref p) (upd H1 p (.lst [x]))) : tRet (tLst (tCons te tNil)) D σ H := h
theorem open_meth0 {ta : TE} {C : Addr} {m : Str} {sp : Sp} {E : XK} {σ : L2.St} {H : Hp} {Q : VK} (h : ta σ H fun x H1 => ∃ a dx fs, x = .ref a ∧ H1 a = some (.ins C dx fs) ∧ fs.lookup m = none ∧ sp [x] H1 Q E) : tMeth C m sp [] E ta tNil σ H Q := h
/-- x = o.m(), o a call -/
theorem q_asgM {ta : TE} {C : Addr} {m : Str} {sp : Sp} {E : XK} {σ : L2.St} {H : Hp} {D : Ends} {tz : TS} {i : Nat} (h : ta σ H fun x H1 => ∃ a dx fs, x = .ref a ∧ H1 a = some (.ins C dx fs) ∧ fs.lookup m = none ∧ sp [x] H1 (fun v H2 => tz D (σ.set i (some v)) H2) E) : tSeq (tAsg (tMeth C m sp [] E ta tNil) (gName i)) tz D σ H := h
theorem perm4 {l : List Int} {g a c r : Int} (h : l.Perm [g, a, c, r]) : ∃ x0 x1 x2 x3, l = [x0, x1, x2, x3] := by
  have e := h.length_eq
  match l, e with
  | [x0, x1, x2, x3], _ => exact ⟨x0, x1, x2, x3, rfl⟩
/-! ### the calls' promises -/
def spKind : Sp := fun vs H Q _ => ∃ (g a c r : Int), vs = [.int g, .int a, .int c, .int r] ∧ Gives (FB.ansKind g a c r) Q
def spCircuits : Sp := fun vs H Q _ => ∃ (g a c r : Int), vs = [.int g, .int a, .int c, .int r] ∧ Gives (FB.ansCircuits g a c r) Q
/-- an error of the class at S is what the clause names -/
theorem exm_same {K : PySem.W.Frag} {S : Addr} (b : PySem.W.subIn K (.ref S) (.type "BaseException") = some true) (i : PySem.W.isClsIn K S = true) (t : PySem.W.typeIn K (.ref S) = some (.type "type")) (s : PySem.W.subIn K (.ref S) (.ref S) = some true) : PySem.W.exmOne K (.ref S) (.ref S) = some true := by
  unfold PySem.W.exmOne
  rw [b]
  have i' : (PySem.W.clsIn K S).isSome = true := i
  show PySem.W.kitCls K (.ref S) (.ref S) = some true
  unfold PySem.W.kitCls
  show (if ((PySem.W.clsIn K S).isSome && PySem.W.typeIn K (.ref S) == some (.type "type")) = true then PySem.W.subIn K (.ref S) (.ref S) else none) = some true
  rw [i', t, s]
  rfl
end FW
/-! Four bars: promises and words for the pins. -/
namespace FW
open PySem L2 Evl
section
variable {K : PySem.W.Frag} {σ : L2.St} {H H' : Hp} {ta tb te : TE} {x y z v : V} {D : Ends} {tz : TS}
theorem cm {i j : Int} (h : -1000000000000000000 ≤ i ∧ i ≤ 1000000000000000000) : CMul i j := Or.inl ⟨by omega, by omega⟩
theorem rv_mul {i j : Int} (h : -1000000000000000000 ≤ i ∧ i ≤ 1000000000000000000) : RV (rI CMul fun i j => .int (i * j)) (.int i) (.int j) H (.int (i * j)) := rv_I (cm h)
theorem rv_mod {i : Int} : RV (rI (fun _ j => 0 < j) fun i j => .int (i % j)) (.int i) (.int 4) H (.int (i % 4)) := rv_I (C := fun _ j => 0 < j) (by decide)
/-- two lists, joined -/
theorem el_cat {xs ys : List V} (ha : EvL ta σ H xs) (hb : EvL tb σ H ys) (hn : xs.length + ys.length ≤ 100000) : EvL (tOp rCat ta tb) σ H (xs ++ ys) := fun H1 e Q q =>
  ha H1 e _ fun p H2 hp e2 h2 => hb H2 (e.trans e2) _ fun p' H3 hp' e3 h3 => ⟨p, p', xs, ys, rfl, rfl, e3 _ _ h2, h3, sz_of hn, fun l hl => q l _ (fresh_back (e2.trans e3) hl) ((e2.trans e3).trans (Ex.new hl)) upd_same⟩
/-- one, two, three, four = e, e a new list -/
theorem q_unl4 {i j k l : Nat} {a b c d : V} (h : EvL te σ H [a, b, c, d]) (q : ∀ H1, Ex H H1 → tz D ((((σ.set i (some a)).set j (some b)).set k (some c)).set l (some d)) H1) :
    tSeq (tAsg te (gUnl K 4 (gCons (gName i) (gCons (gName j) (gCons (gName k) (gCons (gName l) gNil)))))) tz D σ H :=
  h H (Ex.refl H) _ fun p H1 _ e1 h1 => ⟨p, _, rfl, sq_of h1, rfl, a, _, rfl, b, _, rfl, c, _, rfl, d, _, rfl, rfl, q H1 e1⟩
/-- the same of a list that stands -/
theorem q_unl4s {i j k l : Nat} {a b c d : V} {p : Addr} (h : Ev te σ H (.ref p)) (hl : SqL K H p [a, b, c, d]) (q : ∀ H1, Ex H H1 → tz D ((((σ.set i (some a)).set j (some b)).set k (some c)).set l (some d)) H1) :
    tSeq (tAsg te (gUnl K 4 (gCons (gName i) (gCons (gName j) (gCons (gName k) (gCons (gName l) gNil)))))) tz D σ H :=
  h H (Ex.refl H) _ fun H1 e1 => ⟨p, _, rfl, ex_l e1 hl, rfl, a, _, rfl, b, _, rfl, c, _, rfl, d, _, rfl, rfl, q H1 e1⟩
/-- f(o), o a new object -/
theorem ev_calO {C : Addr} {fs : List (Str × V)} {sp : Sp} {E : XK} (h : EvO1 ta σ H C fs) (hs : ∀ p dx H1, Ex H H1 → H1 p = some (.ins C dx fs) → SpV sp [.ref p] H1 z) : Ev (tCall sp [] E (tCons ta tNil)) σ H z := fun H1 e Q q =>
  h H1 e _ fun p dx H2 _ e2 h2 => hs p dx H2 (e.trans e2) h2 H2 (Ex.refl H2) Q (fun H3 e3 => q H3 (e2.trans e3)) E
theorem el_calO {C : Addr} {fs : List (Str × V)} {sp : Sp} {E : XK} {xs : List V} (h : EvO1 ta σ H C fs) (hs : ∀ p dx H1, Ex H H1 → H1 p = some (.ins C dx fs) → SpL sp [.ref p] H1 xs) : EvL (tCall sp [] E (tCons ta tNil)) σ H xs := fun H1 e Q q =>
  h H1 e _ fun p dx H2 _ e2 h2 => hs p dx H2 (e.trans e2) h2 H2 (Ex.refl H2) Q (fun l H3 hl e3 h3 => q l H3 (fresh_back e2 hl) (e2.trans e3) h3) E
/-- o.m(..), what m promises a new object -/
theorem eo_meth {a C C2 dx : Addr} {fs gs : List (Str × V)} {m : Str} {sp : Sp} {E : XK} {tr : TA} {vs : List V} (h : Ev ta σ H (.ref a)) (ho : H a = some (.ins C dx fs)) (hl : fs.lookup m = none) (hr : EvA tr σ H vs) (hs : SpO sp (.ref a :: vs) H C2 gs) : EvO1 (tMeth C m sp [] E ta tr) σ H C2 gs := fun H1 e Q q =>
  h H1 e _ fun H2 e2 => ⟨a, dx, fs, rfl, e2 _ _ (e _ _ ho), hl, hr H2 (e.trans e2) _ fun H3 e3 => by
    have k := hs H3 ((e.trans e2).trans e3) Q (fun p dx2 H4 hp e4 h4 => q p dx2 H4 (fresh_back (e2.trans e3) hp) ((e2.trans e3).trans e4) h4) E
    show sp (V.ref a :: (vs ++ [])) H3 Q E
    rw [List.append_nil]
    exact k⟩
/-- o.m(..), o a new object, m a new list -/
theorem el_methO {C : Addr} {fs : List (Str × V)} {m : Str} {sp : Sp} {E : XK} {tr : TA} {vs : List V} {xs : List V} (h : EvO1 ta σ H C fs) (hl : fs.lookup m = none) (hr : EvA tr σ H vs) (hs : ∀ p dx H1, Ex H H1 → H1 p = some (.ins C dx fs) → SpL sp (.ref p :: vs) H1 xs) : EvL (tMeth C m sp [] E ta tr) σ H xs := fun H1 e Q q =>
  h H1 e _ fun p dx H2 _ e2 h2 => ⟨p, dx, fs, rfl, h2, hl, hr H2 (e.trans e2) _ fun H3 e3 => by
    have k := hs p dx H3 ((e.trans e2).trans e3) (e3 _ _ h2) H3 (Ex.refl H3) Q (fun l H4 hp e4 h4 => q l H4 (fresh_back (e2.trans e3) hp) ((e2.trans e3).trans e4) h4) E
    show sp (V.ref p :: (vs ++ [])) H3 Q E
    rw [List.append_nil]
    exact k⟩
end
/-- x = f(..), what f promises told in full -/
theorem q_calR {σ : L2.St} {H : Hp} {D : Ends} {tz : TS} {i : Nat} {sp : Sp} {E : XK} {tr : TA} {vs : List V} (h : EvA tr σ H vs) (k : ∀ H1, Ex H H1 → sp vs H1 (fun x H2 => tz D (σ.set i (some x)) H2) E) : tSeq (tAsg (tCall sp [] E tr) (gName i)) tz D σ H := h H (Ex.refl H) _ (fun H1 e1 => by
  have q := k H1 e1
  show sp (vs ++ []) H1 _ E
  rw [List.append_nil]
  exact q)
/-- return [f(..)], the same -/
theorem r_calR {σ : L2.St} {H : Hp} {D : Ends} {sp : Sp} {E : XK} {tr : TA} {vs : List V} (h : EvA tr σ H vs) (k : ∀ H1, Ex H H1 → sp vs H1 (fun x H2 => ∀ p, H2 p = none → D.rt (.ref p) (upd H2 p (.lst [x]))) E) (hm : ∀ (Q Q' : VK), (∀ x H2, Q x H2 → Q' x H2) → ∀ H1, sp vs H1 Q E → sp vs H1 Q' E) :
    tRet (tLst (tCons (tCall sp [] E tr) tNil)) D σ H := h H (Ex.refl H) _ (fun H1 e1 => by
  have q := k H1 e1
  show sp (vs ++ []) H1 _ E
  rw [List.append_nil]
  exact hm _ _ (fun x H2 z => ⟨by show 1 ≤ sizeLine; decide, z⟩) H1 q)
/-! ### pins -/
def pinF (q : FB.P4) : List (Str × V) := [(("one" : Str), .int q.u), (("two" : Str), .int q.v), (("behind_one" : Str), .int q.w), (("behind_two" : Str), .int q.z)]
theorem pinF_is (u v w z : V) : putF "behind_two" z (putF "behind_one" w (putF "two" v (putF "one" u []))) = [(("one" : Str), u), (("two" : Str), v), (("behind_one" : Str), w), (("behind_two" : Str), z)] := by
  with_unfolding_all rfl
def spPinN (Pn : Addr) : Sp := fun vs H Q _ => ∃ (p dx : Addr) (u v w z : Int), vs = [.ref p, .int u, .int v, .int w, .int z] ∧ H p = some (.ins Pn dx []) ∧ Fills Pn H p dx (pinF ⟨u, v, w, z⟩) Q
def spPinL (Pn : Addr) : Sp := fun vs H Q _ => ∃ (p dx : Addr) (q : FB.P4), vs = [.ref p] ∧ H p = some (.ins Pn dx (pinF q)) ∧ RetV (.int (FB.ab (q.u - q.v))) H Q
def spPinM (Pn : Addr) : Sp := fun vs H Q _ => ∃ (p dx : Addr) (q : FB.P4), vs = [.ref p] ∧ H p = some (.ins Pn dx (pinF q)) ∧ RetV (.int (q.u + q.v)) H Q
def spPinC (Pn : Addr) : Sp := fun vs H Q _ => ∃ (p dx : Addr) (q : FB.P4) (d : Int), vs = [.ref p, .int d] ∧ H p = some (.ins Pn dx (pinF q)) ∧ RetV (.bl (FB.canBe q.w q.z d)) H Q
theorem spv_least {Pn p dx : Addr} {H : Hp} {q : FB.P4} (h : H p = some (.ins Pn dx (pinF q))) : SpV (spPinL Pn) [.ref p] H (.int (FB.ab (q.u - q.v))) := fun H1 e Q k E => ⟨p, dx, q, rfl, e _ _ h, k⟩
theorem spv_most {Pn p dx : Addr} {H : Hp} {q : FB.P4} (h : H p = some (.ins Pn dx (pinF q))) : SpV (spPinM Pn) [.ref p] H (.int (q.u + q.v)) := fun H1 e Q k E => ⟨p, dx, q, rfl, e _ _ h, k⟩
theorem spv_can {Pn p dx : Addr} {H : Hp} {q : FB.P4} {d : Int} (h : H p = some (.ins Pn dx (pinF q))) : SpV (spPinC Pn) [.ref p, .int d] H (.bl (FB.canBe q.w q.z d)) := fun H1 e Q k E => ⟨p, dx, q, d, rfl, e _ _ h, k⟩
/-- a pin of the bars -/
def spBP (B Pn : Addr) : Sp := fun vs H Q _ => ∃ (p : Addr) (n g a c r : Int), vs = [.ref p, .int n] ∧ BarsAt B H p g a c r ∧ ∀ q dx H2, H q = none → Ex H H2 → H2 q = some (.ins Pn dx (pinF (FB.pinI g a c r n))) → Q (.ref q) H2
theorem spo_pin {B Pn p : Addr} {H : Hp} {n g a c r : Int} (h : BarsAt B H p g a c r) : SpO (spBP B Pn) [.ref p, .int n] H Pn (pinF (FB.pinI g a c r n)) := fun H1 e Q k E => ⟨p, n, g, a, c, r, rfl, h.mono e, k⟩
/-- there must be a figure -/
def spBM (R B : Addr) : Sp := fun vs H Q E => ∃ (p : Addr) (g a c r : Int), vs = [.ref p] ∧ BarsAt B H p g a c r ∧ FB.lensOk g a c r = true ∧ (FB.kindI g a c r ≠ 0 → RetV .non H Q) ∧ (FB.kindI g a c r = 0 → Out R E (-2) H)
theorem q_mustbe {σ : L2.St} {H : Hp} {D : Ends} {tz : TS} {R B p : Addr} {E : XK} {g a c r : Int} {te : TE} (h : Ev te σ H (.ref p)) (hb : BarsAt B H p g a c r) (hl : FB.lensOk g a c r = true)
    (h1 : FB.kindI g a c r ≠ 0 → ∀ H1, Ex H H1 → tz D σ H1) (h2 : FB.kindI g a c r = 0 → Out R E (-2) H) : tSeq (tDrop (tMeth B "must_be" (spBM R B) [] E te tNil)) tz D σ H :=
  h H (Ex.refl H) _ fun H1 e1 => by
    have hb1 := hb.mono e1
    obtain ⟨dx, l, b1, b2⟩ := hb1
    exact ⟨p, dx, _, rfl, b1, by with_unfolding_all rfl, p, g, a, c, r, rfl, hb.mono e1, hl, fun hz H2 e2 => h1 hz H2 (e1.trans e2), fun hz => (h2 hz).go e1⟩
/-- whether full -/
def spIF (Pn : Addr) : Sp := fun vs H Q _ => ∃ (p dx : Addr) (q : FB.P4), vs = [.ref p] ∧ H p = some (.ins Pn dx (pinF q)) ∧ RetV (.bl (FB.fullI q)) H Q
def spFull : Sp := fun vs H Q _ => ∃ (g a c r pin : Int), vs = [.int g, .int a, .int c, .int r, .int pin] ∧ Gives (FB.ansFull g a c r pin) Q
end FW
/-! Four bars: promises and words for fractions, cosines and lines. -/
namespace FW
open PySem L2 Evl
theorem gcd_turn {x y : Int} (hx : 0 ≤ x) (hy : 0 < y) : Int.gcd y (x % y) = Int.gcd x y := by
  have e1 : (x % y).natAbs = x.natAbs % y.natAbs := Int.natAbs_emod_of_nonneg hx y
  show Nat.gcd y.natAbs (x % y).natAbs = Nat.gcd x.natAbs y.natAbs
  rw [e1, Nat.gcd_comm x.natAbs, Nat.gcd_comm y.natAbs (x.natAbs % y.natAbs), ← Nat.gcd_rec]
theorem gcd_end {x : Int} (hx : 0 ≤ x) : ((Int.gcd x 0 : Nat) : Int) = x := by
  rw [Int.gcd_zero_right]; omega
theorem gcd_ab {o u : Int} : Int.gcd (FB.ab o) u = Int.gcd o u := by
  unfold FB.ab
  split
  · rw [Int.neg_gcd]
  · rfl
theorem gcd_pos {o u : Int} (h : 0 < u) : 0 < ((Int.gcd o u : Nat) : Int) := by
  have : Int.gcd o u ≠ 0 := by
    intro z
    have := (Int.gcd_eq_zero_iff.1 z).2
    omega
  omega
theorem gcd_le {o u : Int} (h : 0 < u) : ((Int.gcd o u : Nat) : Int) ≤ u := by
  have d : ((Int.gcd o u : Nat) : Int) ∣ u := Int.gcd_dvd_right ..
  exact Int.le_of_dvd h d
def spCo : Sp := fun vs H Q _ => ∃ (x y : Int), vs = [.int x, .int y] ∧ 0 ≤ x ∧ 0 ≤ y ∧ RetV (.int ((Int.gcd x y : Nat) : Int)) H Q
theorem spv_co {H : Hp} {x y : Int} (hx : 0 ≤ x) (hy : 0 ≤ y) : SpV spCo [.int x, .int y] H (.int ((Int.gcd x y : Nat) : Int)) := fun H1 e Q k E => ⟨x, y, rfl, hx, hy, k⟩
def spFr : Sp := fun vs H Q _ => ∃ (o u : Int), vs = [.int o, .int u] ∧ 0 < u ∧ u < 1152921504606846976 ∧ RetL (LI (FB.fr o u)) H Q
theorem spl_fr {H : Hp} {o u : Int} (h0 : 0 < u) (h1 : u < 1152921504606846976) : SpL spFr [.int o, .int u] H (LI (FB.fr o u)) := fun H1 e Q k E => ⟨o, u, rfl, h0, h1, k⟩
theorem rv_fdiv {H : Hp} {i j : Int} (h0 : 0 < j) (h1 : j < 1152921504606846976) : RV (rI CDivW fun i j => .int (i / j)) (.int i) (.int j) H (.int (i / j)) :=
  rv_I (wide_div (b := 60) h0 (by have : (2 : Nat) ^ 60 = 1152921504606846976 := by decide
                                  omega) (by decide) (by decide))
/-- numbers of a pin's bars -/
structure Bd (x : Int) : Prop where
  lo : 1 ≤ x
  hi : x ≤ 999
structure BdP (q : FB.P4) : Prop where
  u : Bd q.u
  v : Bd q.v
  w : Bd q.w
  z : Bd q.z
theorem bd_pin {g a c r n : Int} (h : FB.lensOk g a c r = true) : BdP (FB.pinI g a c r n) :=
  ⟨⟨(FB.nth_ok h _).1, (FB.nth_ok h _).2⟩, ⟨(FB.nth_ok h _).1, (FB.nth_ok h _).2⟩, ⟨(FB.nth_ok h _).1, (FB.nth_ok h _).2⟩, ⟨(FB.nth_ok h _).1, (FB.nth_ok h _).2⟩⟩
theorem mul_bd {x y m n : Int} (hx : 0 ≤ x ∧ x ≤ m) (hy : 0 ≤ y ∧ y ≤ n) : 0 ≤ x * y ∧ x * y ≤ m * n :=
  ⟨Int.mul_nonneg hx.1 hy.1, Int.mul_le_mul hx.2 hy.2 hy.1 (by omega)⟩
theorem under_bd {u v : Int} (hu : Bd u) (hv : Bd v) : 0 < 2 * u * v ∧ 2 * u * v < 1152921504606846976 := by
  have a := Int.mul_pos (show 0 < 2 * u by have := hu.lo; omega) (show 0 < v by have := hv.lo; omega)
  have b := mul_bd (x := 2 * u) (y := v) (m := 1998) (n := 999) ⟨by have := hu.lo; omega, by have := hu.hi; omega⟩ ⟨by have := hv.lo; omega, hv.hi⟩
  exact ⟨a, by omega⟩
theorem ab_bd {x m : Int} (h : -m ≤ x ∧ x ≤ m) : 0 ≤ FB.ab x ∧ FB.ab x ≤ m := by unfold FB.ab; split <;> omega
def spPinS (Pn : Addr) : Sp := fun vs H Q _ => ∃ (p dx : Addr) (q : FB.P4) (d : Int), vs = [.ref p, .int d] ∧ H p = some (.ins Pn dx (pinF q)) ∧ Bd q.u ∧ Bd q.v ∧ (0 ≤ d ∧ d ≤ 1998) ∧ RetL (LI (FB.cosI q.u q.v d)) H Q
theorem spl_cos {Pn p dx : Addr} {H : Hp} {q : FB.P4} {d : Int} (h : H p = some (.ins Pn dx (pinF q))) (hu : Bd q.u) (hv : Bd q.v) (hd : 0 ≤ d ∧ d ≤ 1998) : SpL (spPinS Pn) [.ref p, .int d] H (LI (FB.cosI q.u q.v d)) := fun H1 e Q k E => ⟨p, dx, q, d, rfl, e _ _ h, hu, hv, hd, k⟩
def spRA (Pn : Addr) : Sp := fun vs H Q _ => ∃ (p dx : Addr) (q : FB.P4), vs = [.ref p] ∧ H p = some (.ins Pn dx (pinF q)) ∧ BdP q ∧ RetL (LI (FB.rangeI q)) H Q
def spRange : Sp := fun vs H Q _ => ∃ (g a c r pin : Int), vs = [.int g, .int a, .int c, .int r, .int pin] ∧ Gives (FB.ansRange g a c r pin) Q
theorem LI_app (xs ys : List Int) : LI (xs ++ ys) = LI xs ++ LI ys := List.map_append
theorem fr_len (o u : Int) : (LI (FB.fr o u)).length = 2 := rfl
def spCB : Sp := fun vs H Q _ => ∃ (own far side other d : Int), vs = [.int own, .int far, .int side, .int other, .int d] ∧ Bd side ∧ Bd other ∧ (0 < d ∧ d ≤ 1998) ∧ RetL (LI (FB.besideI own far side other d)) H Q
theorem spl_cb {H : Hp} {own far side other d : Int} (h1 : Bd side) (h2 : Bd other) (hd : 0 < d ∧ d ≤ 1998) : SpL spCB [.int own, .int far, .int side, .int other, .int d] H (LI (FB.besideI own far side other d)) := fun H1 e Q k E => ⟨own, far, side, other, d, rfl, h1, h2, hd, k⟩
/-- what line_at hands back: none, where the angle may be any -/
def lineV (g a c r n folded other : Int) : Option (List Int) :=
  let p := FB.pinI g a c r n
  let d := if folded = 1 then FB.ab (p.u - p.v) else p.u + p.v
  if FB.canBe p.w p.z d = false then some []
  else if (n + 2) % 4 = other then some (FB.cosI (FB.pinI g a c r other).u (FB.pinI g a c r other).v d)
  else if d ≤ 0 then none
  else if (n + 1) % 4 = other then some (FB.besideI p.v p.u p.z p.w d)
  else some (FB.besideI p.u p.v p.w p.z d)
theorem beside_ne (own far side other d : Int) : ∃ x y, FB.besideI own far side other d = [x, y] := by
  unfold FB.besideI FB.fr
  split
  · exact ⟨_, _, rfl⟩
  · exact ⟨_, _, rfl⟩
theorem lineV_is (g a c r n folded other : Int) : (lineV g a c r n folded other = none ∧ FB.lineI g a c r n folded other = [-5]) ∨ (lineV g a c r n folded other = some [] ∧ FB.lineI g a c r n folded other = [0, 0]) ∨
    ∃ x y, lineV g a c r n folded other = some [x, y] ∧ FB.lineI g a c r n folded other = [1, 2, x, y] := by
  unfold lineV FB.lineI
  dsimp only
  generalize (if folded = 1 then FB.ab ((FB.pinI g a c r n).u - (FB.pinI g a c r n).v) else (FB.pinI g a c r n).u + (FB.pinI g a c r n).v) = d
  by_cases k1 : FB.canBe (FB.pinI g a c r n).w (FB.pinI g a c r n).z d = false
  · rw [if_pos k1, if_pos k1]; exact Or.inr (Or.inl ⟨rfl, rfl⟩)
  rw [if_neg k1, if_neg k1]
  by_cases k2 : (n + 2) % 4 = other
  · rw [if_pos k2, if_pos k2]; exact Or.inr (Or.inr ⟨_, _, rfl, rfl⟩)
  rw [if_neg k2, if_neg k2]
  by_cases k3 : d ≤ 0
  · rw [if_pos k3, if_pos k3]; exact Or.inl ⟨rfl, rfl⟩
  rw [if_neg k3, if_neg k3]
  by_cases k4 : (n + 1) % 4 = other
  · rw [if_pos k4, if_pos k4]
    obtain ⟨x, y, e⟩ := beside_ne (FB.pinI g a c r n).v (FB.pinI g a c r n).u (FB.pinI g a c r n).z (FB.pinI g a c r n).w d
    rw [e]; exact Or.inr (Or.inr ⟨_, _, rfl, rfl⟩)
  · rw [if_neg k4, if_neg k4]
    obtain ⟨x, y, e⟩ := beside_ne (FB.pinI g a c r n).u (FB.pinI g a c r n).v (FB.pinI g a c r n).w (FB.pinI g a c r n).z d
    rw [e]; exact Or.inr (Or.inr ⟨_, _, rfl, rfl⟩)
def spLA (R B : Addr) : Sp := fun vs H Q E => ∃ (p : Addr) (n folded other g a c r : Int), vs = [.ref p, .int n, .int folded, .int other] ∧ BarsAt B H p g a c r ∧ FB.lensOk g a c r = true ∧
  (∀ l, lineV g a c r n folded other = some l → RetL (LI l) H Q) ∧ (lineV g a c r n folded other = none → Out R E (-5) H)
def spLine : Sp := fun vs H Q _ => ∃ (g a c r pin folded other : Int), vs = [.int g, .int a, .int c, .int r, .int pin, .int folded, .int other] ∧ Gives (FB.ansLine g a c r pin folded other) Q
section
variable {K : PySem.W.Frag} {σ : L2.St} {H H' : Hp} {ta tb te : TE}
theorem el_catV {xs ys : List V} {p : Addr} (ha : EvL ta σ H xs) (hb : Ev tb σ H (.ref p)) (hp : H p = some (.lst ys)) (hn : xs.length + ys.length ≤ 100000) : EvL (tOp rCat ta tb) σ H (xs ++ ys) := fun H1 e Q q =>
  ha H1 e _ fun p1 H2 hp1 e2 h2 => hb H2 (e.trans e2) _ fun H3 e3 => ⟨p1, p, xs, ys, rfl, rfl, e3 _ _ h2, ((e.trans e2).trans e3) _ _ hp, sz_of hn, fun l hl => q l _ (fresh_back (e2.trans e3) hl) ((e2.trans e3).trans (Ex.new hl)) upd_same⟩
theorem dp_LI : ∀ ns : List Int, DpAll K H (LI ns) (ns.map PyData.int)
  | [] => .nil
  | n :: r => .cons (.int n) (dp_LI r)
theorem et_isnil {p : Addr} {ns : List Int} {b : Bool} (ha : Ev ta σ H (.ref p)) (hp : H p = some (.lst (LI ns))) (hs : SeqAt.shaped (.list (ns.map PyData.int)) = true) (hb : PyData.eqv (.list (ns.map PyData.int)) (.list []) = b) : EvT (tTest (tOp (rEqD K) ta (tLst tNil))) σ H b :=
  et_test (ev_opL ha (el_lst ea_nil (by show 0 ≤ 100000; decide)) (fun q H1 hq e => fun H2 e2 Q k => ⟨.list (ns.map PyData.int), .list [], .lst (sq_of (e2 _ _ (e _ _ hp))) (dp_LI ns), .lst (sq_of (e2 _ _ hq)) .nil, hs, rfl, by rw [hb]; exact k H2 (Ex.refl H2)⟩))
end
end FW
namespace FW
open PySem L2 Evl
def top (i : Nat) : Stmt := PySem.Challenge.pw_fourbars_s04_line.main.body.getD i (.Pass ⟨0, 0, 0, 0⟩)
abbrev tx_Refused_new : Stmt := inClass (top 5) 0
abbrev tx_must : Stmt := top 6
abbrev tx_Bars_new : Stmt := inClass (top 10) 0
abbrev tx_Bars_kind : Stmt := inClass (top 10) 1
abbrev tx_Bars_must_be : Stmt := inClass (top 10) 3
abbrev tx_Pin_new : Stmt := inClass (top 9) 0
abbrev tx_Bars_pin : Stmt := inClass (top 10) 2
abbrev tx_Pin_most : Stmt := inClass (top 9) 2
abbrev tx_Pin_least : Stmt := inClass (top 9) 1
abbrev tx_Pin_can_be : Stmt := inClass (top 9) 3
abbrev tx_common : Stmt := top 7
abbrev tx_fraction : Stmt := top 8
abbrev tx_Pin_cosine : Stmt := inClass (top 9) 4
abbrev tx_cosine_beside : Stmt := top 11
abbrev tx_line_at : Stmt := top 12
abbrev tx_line : Stmt := top 14
section
variable {P : Program} {w : World} {K : PySem.W.Frag} {mg : Str → Option Value} {base : Heap} {B Pn R : Addr}
theorem sc_Refused_new : FnScope ["self", "code"] ["self", "code"] (defScope tx_Refused_new) := ⟨rfl, rfl, rfl, by decide +kernel, rfl, by decide +kernel, by decide +kernel⟩
theorem ok_Refused_new {f : Addr} {fd : FuncData} (F : Fun K "__init__" "Refused.__init__" tx_Refused_new f fd) (T : OexC K R) (hno : PySem.W.findIn K (.ref R) "code" = some none) : FnOk P w K mg base CX0 1 f fd ["self", "code"] (spRI R) := by
  refine F.ok sc_Refused_new (fun vs H Q E h => ?_) (fun cdv A outer s H vs Q E hr h => ?_)
  · obtain ⟨a, n, rfl, _⟩ := h
    rfl
  · obtain ⟨a, n, rfl, ha, k⟩ := h
    refine ⟨_, pss_one (ps_ost (pv 0) (pv 1)), ?_⟩
    exact ⟨_, rfl, _, rfl, a, R, rfl, T, hno, Or.inl ⟨ha, fun dx hd hne => k dx hd hne⟩⟩
theorem sc_must : FnScope ["is_so", "code"] ["is_so", "code"] (defScope tx_must) := ⟨rfl, rfl, rfl, by decide +kernel, rfl, by decide +kernel, by decide +kernel⟩
theorem ok_must {f fI : Addr} {fd fdI : FuncData} (F : Fun K "must" "must" tx_must f fd) (FI : Fun K "__init__" "Refused.__init__" tx_Refused_new fI fdI) (oex : OexC K R) (hno : PySem.W.findIn K (.ref R) "code" = some none)
    (iR : PySem.W.findIn K (.ref R) "__init__" = some (some (.ref fI))) (tR : PySem.W.typeIn K (.ref fI) = some (.type "function")) (bI : Binds K fdI ["self", "code"] []) (gR : mg "Refused" = some (.ref R)) : FnOk P w K mg base (L2.CX P w) 3 f fd ["is_so", "code"] (spMust R) := by
  have GI : FnOk P w K mg base CX0 1 fI fdI ["self", "code"] (spRI R) := ok_Refused_new FI oex hno
  refine F.okX sc_must (fun vs H Q E h => ?_) (fun cdv A outer s H vs Q E hr h => ?_)
  · obtain ⟨b, n, rfl, _⟩ := h
    rfl
  · obtain ⟨b, n, rfl, k1, k2⟩ := h
    refine ⟨_, (pss_one (ps_if (pt_not (pt_val (pv 0))) (pss_one (ps_raise rfl (takes_of rfl rfl rfl rfl) (pmk_oex oex iR tR GI hr bI .nil pass0 rfl gR (pa_cons (pv 1) pa_nil)))) pss_nil)), ?_⟩
    refine s_if (b := !b) (et_not (et_val (ev_var rfl))) (fun hb H1 e => ?_) (fun hb H1 e => ?_)
    · refine ⟨_, rfl, (by show 1 ≤ 1000; decide), fun a ha => ⟨a, n, rfl, upd_same, fun dx hdx hne => ⟨rfl, dx, [(("code" : Str), .int n)], upd_same, ?_, ?_, ?_⟩⟩⟩
      · rw [upd_ne hne]; exact upd_same
      · rw [upd_ne hne] at hdx; exact hdx
      · have hb' : b = false := by cases b <;> first | rfl | cases hb
        rw [upd_ne hne] at hdx
        refine k2 hb' dx _ (e.trans fun x o hx => ?_) upd_same
        have n1 : x ≠ dx := ne_of_none hx hdx
        have n2 : x ≠ a := ne_of_none hx ha
        rw [upd_ne n1, del_ne n2, upd_ne n2, upd_ne n1, upd_ne n2]
        exact hx
    · have hb' : b = true := by cases b <;> first | rfl | cases hb
      exact k1 hb' H1 e
theorem sc_Bars_new : FnScope ["self", "lengths", "one"] ["self", "lengths"] (defScope tx_Bars_new) := ⟨rfl, rfl, rfl, by decide +kernel, rfl, by decide +kernel, by decide +kernel⟩
theorem ok_Bars_new {f : Addr} {fd : FuncData} (F : Fun K "__init__" "Bars.__init__" tx_Bars_new f fd) (cmust : Cal P w K mg base 3 "must" (spMust R)) (zall : mg "all" = none) {tkgMOST_LENGTH : Tok} (gMOST_LENGTH : mg "MOST_LENGTH" = some (.int 999 tkgMOST_LENGTH)) (clBars : Cls K B) (nBars_lengths : NoAttr K B "lengths") :
    FnOk P w K mg base (L2.CX P w) 4 f fd ["self", "lengths"] (spBI R B) := by
  refine F.okX sc_Bars_new (fun vs H Q E h => ?_) (fun cdv A outer s H vs Q E hr h => ?_)
  · obtain ⟨p, dx, l, g, a, c, r, rfl, _⟩ := h
    rfl
  · obtain ⟨p, dx, l, g, a, c, r, rfl, hp, hl, hne, k1, k2⟩ := h
    refine ⟨_, (pss_cons (ps_expr (pe_cal cmust hr (by decide) (passE (takes_of rfl rfl rfl rfl)) (pa_cons (pe_callB (cr_all rfl) (by rfl) zall PyProof.Rows.boot_all (pa_cons (pe_lc (own := [("one", 2)]) (g := gName 2) (by rfl) sc_Bars_new.nd (pi_list (pv 1)) (blkOk_by (own := [("one", 2)]) (N := ["self", "lengths", "one"]) (sc := defScope tx_Bars_new) (by decide +kernel)) (fun _ _ _ _ _ => pg_name (i := 2) sc_Bars_new.nd rfl (Or.inl rfl)) (fun _ _ _ _ _ => pts_nil) (fun _ _ _ _ _ => (pe_and (pe_cmpR op_le pe_int (pv 2) (nomark _)) (pe_one (pe_cmpR op_le (pv 2) (pe_glob (v := .int 999) rfl gMOST_LENGTH ⟨_, rfl⟩) (nomark _)))))) pa_nil)) (pa_cons (pe_un un_neg pe_int) pa_nil))))
      (pss_one (ps_fld (pv 0) (pv 1) rfl))), ?_⟩
    refine q_must (b := FB.lensOk g a c r) (n := -1) (ea_cons (ev_is (ev_allL (bs := [(decide (1 ≤ g) && decide (g ≤ 999)), (decide (1 ≤ a) && decide (a ≤ 999)), (decide (1 ≤ c) && decide (c ≤ 999)), (decide (1 ≤ r) && decide (r ≤ 999))])
      (el_lcL (xs := LI [g, a, c, r]) (fun _ => true) (fun i => V.bl (decide (1 ≤ [g, a, c, r].getD i 0) && decide ([g, a, c, r].getD i 0 ≤ 999))) (ev_var rfl) (sq_of hl) (by show 4 ≤ 40000; decide) (fun _ => rfl) (fun _ _ _ _ _ => yes_T) (fun i x H1 e hi _ => ?_))) ?_) (ea_cons (ev_neg ev_c) ea_nil)) (fun hb H1 e => ?_) (fun hb H1 e => (k2 hb).go e)
    · obtain ⟨z, hz, rfl⟩ : ∃ z, [g, a, c, r][i]? = some z ∧ x = V.int z := by
        rw [LI, List.getElem?_map] at hi
        cases q : [g, a, c, r][i]? with
        | none => rw [q] at hi; cases hi
        | some z => rw [q] at hi; exact ⟨z, rfl, (Option.some.inj hi).symm⟩
      have e2 : [g, a, c, r].getD i 0 = z := by rw [List.getD_eq_getElem?_getD, hz]; rfl
      rw [e2]
      exact ev_andV (ev_op ev_c (ev_var rfl) rv_I0) fun _ => ev_op (ev_var rfl) ev_c rv_I0
    · simp [FB.lensOk]
    · refine s_fld (ev_var rfl) (ev_var rfl) (e _ _ hp) clBars nBars_lengths (by show 0 < 1000; decide) (fun H2 e2 hp2 => ?_)
      exact k1 hb _ (fun b o hb ho => by rw [upd_ne hb]; exact e2 _ _ (e _ _ ho)) upd_same
theorem sc_Bars_kind : FnScope ["self", "rising", "least", "longest", "others"] ["self"] (defScope tx_Bars_kind) := ⟨rfl, rfl, rfl, by decide +kernel, rfl, by decide +kernel, by decide +kernel⟩
theorem ok_Bars_kind {f : Addr} {fd : FuncData} (F : Fun K "kind" "Bars.kind" tx_Bars_kind f fd) (zsorted : mg "sorted" = none) (clBars : Cls K B) (nBars_lengths : NoAttr K B "lengths") {tkgIN_LINE : Tok} (gIN_LINE : mg "IN_LINE" = some (.int 1 tkgIN_LINE)) (zint : mg "int" = none) {tkgEVEN : Tok} (gEVEN : mg "EVEN" = some (.int 6 tkgEVEN)) :
    FnOk P w K mg base CX0 1 f fd ["self"] (spBK B) := by
  refine F.ok sc_Bars_kind (fun vs H Q E h => ?_) (fun cdv A outer s H vs Q E hr h => ?_)
  · obtain ⟨p, g, a, c, r, rfl, _⟩ := h
    rfl
  · obtain ⟨p, g, a, c, r, rfl, ⟨dx, l, hp, hl⟩, hok, k⟩ := h
    refine ⟨_, (pss_cons (ps_set (i := 1) sc_Bars_kind.nd rfl (Or.inl rfl) (pe_callB cr_sorted (by rfl) zsorted PyProof.Rows.boot_sorted (pa_cons (pe_fld (pv 0) rfl) pa_nil)))
      (pss_cons (ps_set (i := 2) sc_Bars_kind.nd rfl (Or.inl rfl) (pe_ix ix_list (pv 1) pe_int (fun _ _ => rfl)))
      (pss_cons (ps_set (i := 3) sc_Bars_kind.nd rfl (Or.inl rfl) (pe_ix ix_list (pv 1) pe_int (fun _ _ => rfl)))
      (pss_cons (ps_set (i := 4) sc_Bars_kind.nd rfl (Or.inl rfl) (pe_op op_add (pe_ix ix_list (pv 1) pe_int (fun _ _ => rfl)) (pe_ix ix_list (pv 1) pe_int (fun _ _ => rfl))))
      (pss_cons (ps_if (pt_cmpR op_ge (pv 3) (pe_op op_add (pv 2) (pv 4)) (nomark _)) (pss_one (ps_ret (pe_op op_sub (pe_glob (v := .int 1) rfl gIN_LINE ⟨_, rfl⟩) (pe_callTy call_int1 (by rfl) zint PyProof.Rows.boot_int (pa_cons (pe_cmpR op_gt (pv 3) (pe_op op_add (pv 2) (pv 4)) (nomark _)) pa_nil))))) pss_nil)
      (pss_cons (ps_if (pt_cmpR op_lt (pe_op op_add (pv 2) (pv 3)) (pv 4) (nomark _)) (pss_one (ps_ret (pe_op op_add pe_int (pe_bm PySem.F.plainAttrs_list PySem.F.slot_list_index PySem.F.type_list_index mt_index (pe_fld (pv 0) rfl) (pa_cons (pv 2) pa_nil))))) pss_nil)
      (pss_one (ps_ret (pe_op op_add (pe_glob (v := .int 6) rfl gEVEN ⟨_, rfl⟩) (pe_callTy call_int1 (by rfl) zint PyProof.Rows.boot_int (pa_cons (pe_cmpR op_gt (pe_op op_add (pv 2) (pv 3)) (pv 4) (nomark _)) pa_nil))))))))))), ?_⟩
    refine q_sorted (ns := [g, a, c, r]) (ev_fld (ev_var rfl) hp clBars nBars_lengths rfl) (sq_of hl) (by show 4 < 64; decide) (fun ns' q H1 hpm hpw e1 hq => ?_)
    obtain ⟨x0, x1, x2, x3, rfl⟩ := perm4 hpm
    have h01 : x0 ≤ x1 := (List.pairwise_cons.1 hpw).1 x1 (by simp)
    have h12 : x1 ≤ x2 := (List.pairwise_cons.1 (List.pairwise_cons.1 hpw).2).1 x2 (by simp)
    have h23 : x2 ≤ x3 := (List.pairwise_cons.1 (List.pairwise_cons.1 (List.pairwise_cons.1 hpw).2).2).1 x3 (by simp)
    have lo := FB.lensOk_iff.1 hok
    have ek := FB.kind_rising (g := g) (a := a) (c := c) (r := r) (by omega) (by omega) (by omega) (by omega) hpm h01 h12 h23
    refine q_asg (ev_ixL (j := 0) (ev_var rfl) (sq_of hq) ev_c rfl rfl) (fun H2 e2 => ?_)
    refine q_asg (ev_ixL (j := 3) (ev_var rfl) (sq_of (e2 _ _ hq)) ev_c rfl rfl) (fun H3 e3 => ?_)
    refine q_asg (ev_op (ev_ixL (j := 1) (ev_var rfl) (sq_of (e3 _ _ (e2 _ _ hq))) ev_c rfl rfl) (ev_ixL (j := 2) (ev_var rfl) (sq_of (e3 _ _ (e2 _ _ hq))) ev_c rfl rfl) rv_I0) (fun H4 e4 => ?_)
    have e14 : Ex H H4 := ((e1.trans e2).trans e3).trans e4
    refine q_when (b := decide (x0 + (x1 + x2) ≤ x3)) (et_test (ev_op (ev_var rfl) (ev_op (ev_var rfl) (ev_var rfl) rv_I0) rv_I0)) (fun hb H5 e5 => ?_) (fun hb H5 e5 => ?_)
    · have hb' := of_decide_eq_true hb
      refine s_ret (v := .int (FB.kindI g a c r)) (ev_is (ev_op ev_c (ev_intB (ev_op (ev_var rfl) (ev_op (ev_var rfl) (ev_var rfl) rv_I0) rv_I0)) rv_I0) ?_) (fun H6 e6 => k H6 ((e14.trans e5).trans e6))
      rw [ek]
      unfold FB.kindR
      rw [if_pos hb']
      congr 1
      by_cases z : x0 + (x1 + x2) < x3
      · rw [if_pos z, if_pos (decide_eq_true z)]; rfl
      · rw [if_neg z, if_neg (fun q => z (of_decide_eq_true q))]; rfl
    have hb' := of_decide_eq_false hb
    refine q_when (b := decide (x0 + x3 < x1 + x2)) (et_test (ev_op (ev_op (ev_var rfl) (ev_var rfl) rv_I0) (ev_var rfl) rv_I0)) (fun hc H6 e6 => ?_) (fun hc H6 e6 => ?_)
    · have hc' := of_decide_eq_true hc
      have m0 : x0 ∈ [g, a, c, r] := hpm.mem_iff.1 (by simp)
      have fin : ∀ (j : Nat), [g, a, c, r][j]? = some x0 → (∀ (m : Nat) (z : Int), m < j → [g, a, c, r][m]? = some z → z ≠ x0) → (2 : Int) + (j : Nat) = FB.kindI g a c r → (tRet (tOp (rI0 fun i j => V.int (i + j)) (tC (.int 2)) (tBM K "list" (rIndex K) (tFld K (tVar 0) "lengths") (tCons (tVar 2) tNil)))) { nx := fun _ H' => Q .non H', rt := Q } [some (.ref p), some (.ref q), some (.int x0), some (.int x3), some (.int (x1 + x2))] H6 := by
        intro j hj hm he
        refine s_ret (v := .int (FB.kindI g a c r)) (ev_is (ev_op ev_c (ev_index (ns := [g, a, c, r]) (ev_fld (ev_var rfl) (e6 _ _ (e5 _ _ (e14 _ _ hp))) clBars nBars_lengths rfl) (sq_of (e6 _ _ (e5 _ _ (e14 _ _ hl)))) (ev_var rfl) hj hm) rv_I0) (by rw [he])) (fun H7 e7 => k H7 (((e14.trans e5).trans e6).trans e7))
      rw [ek] at fin
      unfold FB.kindR at fin
      rw [if_neg hb', if_pos hc'] at fin
      by_cases k0 : g = x0
      · exact fin 0 (by rw [k0]; rfl) (fun m z hm => absurd hm (Nat.not_lt_zero _)) (by rw [if_pos k0]; rfl)
      by_cases k1 : a = x0
      · exact fin 1 (by rw [k1]; rfl) (fun m z hm hz => by
          match m, hm with
          | 0, _ => cases hz; exact k0) (by rw [if_neg k0, if_pos k1]; rfl)
      by_cases k2 : c = x0
      · exact fin 2 (by rw [k2]; rfl) (fun m z hm hz => by
          match m, hm with
          | 0, _ => cases hz; exact k0
          | 1, _ => cases hz; exact k1) (by rw [if_neg k0, if_neg k1, if_pos k2]; rfl)
      have k3 : r = x0 := by
        simp only [List.mem_cons, List.not_mem_nil, or_false] at m0
        omega
      exact fin 3 (by rw [k3]; rfl) (fun m z hm hz => by
          match m, hm with
          | 0, _ => cases hz; exact k0
          | 1, _ => cases hz; exact k1
          | 2, _ => cases hz; exact k2) (by rw [if_neg k0, if_neg k1, if_neg k2]; rfl)
    have hc' := of_decide_eq_false hc
    refine s_ret (v := .int (FB.kindI g a c r)) (ev_is (ev_op ev_c (ev_intB (ev_op (ev_op (ev_var rfl) (ev_var rfl) rv_I0) (ev_var rfl) rv_I0)) rv_I0) ?_) (fun H7 e7 => k H7 (((e14.trans e5).trans e6).trans e7))
    rw [ek]
    unfold FB.kindR
    rw [if_neg hb', if_neg hc']
    congr 1
    by_cases z : x1 + x2 < x0 + x3
    · rw [if_pos z, if_pos (decide_eq_true z)]; rfl
    · rw [if_neg z, if_neg (fun q => z (of_decide_eq_true q))]; rfl
theorem sc_Bars_must_be : FnScope ["self"] ["self"] (defScope tx_Bars_must_be) := ⟨rfl, rfl, rfl, by decide +kernel, rfl, by decide +kernel, by decide +kernel⟩
theorem ok_Bars_must_be {f : Addr} {fd : FuncData} (F : Fun K "must_be" "Bars.must_be" tx_Bars_must_be f fd) (cmust : Cal P w K mg base 3 "must" (spMust R)) (clBars : Cls K B) (cBars_kind : Met P w K mg base 1 B "kind" (spBK B)) {tkgNO_FIGURE : Tok} (gNO_FIGURE : mg "NO_FIGURE" = some (.int 0 tkgNO_FIGURE)) :
    FnOk P w K mg base (L2.CX P w) 4 f fd ["self"] (spBM R B) := by
  refine F.okX sc_Bars_must_be (fun vs H Q E h => ?_) (fun cdv A outer s H vs Q E hr h => ?_)
  · obtain ⟨p, g, a, c, r, rfl, _⟩ := h
    rfl
  · obtain ⟨p, g, a, c, r, rfl, hb, hok, k1, k2⟩ := h
    refine ⟨_, (pss_one (ps_expr (pe_cal cmust hr (by decide) (passE (takes_of rfl rfl rfl rfl)) (pa_cons (pe_cmpR op_ne (pe_met0 (pv 0) clBars cBars_kind hr (by decide) passL) (pe_glob (v := .int 0) rfl gNO_FIGURE ⟨_, rfl⟩) (nomark _)) (pa_cons (pe_un un_neg pe_int) pa_nil))))), ?_⟩
    have hb' := hb
    obtain ⟨dx, l, hp, hl⟩ := hb'
    refine s_must (b := !decide (FB.kindI g a c r = 0)) (n := -2) (ea_cons (ev_is (ev_op (ev_meth (ev_var rfl) hp (by with_unfolding_all rfl) ea_nil (spv_bk hb hok)) ev_c (rv_ne rfl)) (by simp)) (ea_cons (ev_neg ev_c) ea_nil)) (fun hz H1 e1 => k1 (by simpa using hz) H1 e1) (fun hz H1 e1 => (k2 (by simpa using hz)).go e1)
theorem sc_Pin_new : FnScope ["self", "one", "two", "behind_one", "behind_two"] ["self", "one", "two", "behind_one", "behind_two"] (defScope tx_Pin_new) := ⟨rfl, rfl, rfl, by decide +kernel, rfl, by decide +kernel, by decide +kernel⟩
theorem ok_Pin_new {f : Addr} {fd : FuncData} (F : Fun K "__init__" "Pin.__init__" tx_Pin_new f fd) (clPin : Cls K Pn) (nPin_one : NoAttr K Pn "one") (nPin_two : NoAttr K Pn "two") (nPin_behind_one : NoAttr K Pn "behind_one") (nPin_behind_two : NoAttr K Pn "behind_two") :
    FnOk P w K mg base CX0 1 f fd ["self", "one", "two", "behind_one", "behind_two"] (spPinN Pn) := by
  refine F.ok sc_Pin_new (fun vs H Q E h => ?_) (fun cdv A outer s H vs Q E hr h => ?_)
  · obtain ⟨p, dx, u, v, w1, z, rfl, _⟩ := h
    rfl
  · obtain ⟨p, dx, u, v, w1, z, rfl, hp, k⟩ := h
    refine ⟨_, (pss_cons (ps_fld (pv 0) (pv 1) rfl)
      (pss_cons (ps_fld (pv 0) (pv 2) rfl)
      (pss_cons (ps_fld (pv 0) (pv 3) rfl)
      (pss_one (ps_fld (pv 0) (pv 4) rfl))))), ?_⟩
    refine q_fld (ev_var rfl) (ev_var rfl) hp clPin nPin_one (by show 0 < 1000; decide) (fun H1 e1 h1 => ?_)
    refine q_fld (ev_var rfl) (ev_var rfl) upd_same clPin nPin_two (by show 1 < 1000; decide) (fun H2 e2 h2 => ?_)
    refine q_fld (ev_var rfl) (ev_var rfl) upd_same clPin nPin_behind_one (by show 2 < 1000; decide) (fun H3 e3 h3 => ?_)
    refine s_fld (ev_var rfl) (ev_var rfl) upd_same clPin nPin_behind_two (by show 3 < 1000; decide) (fun H4 e4 h4 => ?_)
    refine k _ (fun b o hb ho => ?_) ?_
    · rw [upd_ne hb]
      refine e4 _ _ ?_
      rw [upd_ne hb]
      refine e3 _ _ ?_
      rw [upd_ne hb]
      refine e2 _ _ ?_
      rw [upd_ne hb]
      exact e1 _ _ ho
    · rw [pinF_is]
      exact upd_same
theorem sc_Bars_pin : FnScope ["self", "number", "one", "two", "three", "four", "step"] ["self", "number"] (defScope tx_Bars_pin) := ⟨rfl, rfl, rfl, by decide +kernel, rfl, by decide +kernel, by decide +kernel⟩
theorem ok_Bars_pin {f : Addr} {fd : FuncData} (F : Fun K "pin" "Bars.pin" tx_Bars_pin f fd) (zrange : mg "range" = none) (clBars : Cls K B) (nBars_lengths : NoAttr K B "lengths") (cPin_new : Mak P w K mg base 1 "Pin" Pn (spPinN Pn)) :
    FnOk P w K mg base CX0 3 f fd ["self", "number"] (spBP B Pn) := by
  refine F.ok sc_Bars_pin (fun vs H Q E h => ?_) (fun cdv A outer s H vs Q E hr h => ?_)
  · obtain ⟨p, n, g, a, c, r, rfl, _⟩ := h
    rfl
  · obtain ⟨p, n, g, a, c, r, rfl, ⟨dx, l, hp, hl⟩, k⟩ := h
    refine ⟨_, (pss_cons (ps_asg (pe_lc (te := tOp (rIxL K) (tFld K (tVar 0) "lengths") (tOp (rI (fun _ j => 0 < j) fun i j => V.int (i % j)) (tOp (rI0 fun i j => V.int (i + j)) (tVar 1) (tVar 6)) (tC (.int 4)))) (own := [("step", 6)]) (g := gName 6) (by rfl) sc_Bars_pin.nd (pi_range1 rfl zrange (pa_cons pe_int pa_nil)) (blkOk_by (own := [("step", 6)]) (N := ["self", "number", "one", "two", "three", "four", "step"]) (sc := defScope tx_Bars_pin) (by decide +kernel)) (fun _ _ _ _ _ => pg_name (i := 6) sc_Bars_pin.nd rfl (Or.inl rfl)) (fun _ _ _ _ _ => pts_nil) (fun _ _ _ _ _ => (pe_ix ix_list (pe_fld (pv 0) rfl) (pe_op op_mod (pe_op op_add (pv 1) (pv 6)) pe_int) (fun _ _ => rfl)))) (pg_unl rfl (pgs_cons (pg_name (i := 2) sc_Bars_pin.nd rfl (Or.inl rfl)) (pgs_cons (pg_name (i := 3) sc_Bars_pin.nd rfl (Or.inl rfl)) (pgs_cons (pg_name (i := 4) sc_Bars_pin.nd rfl (Or.inl rfl)) (pgs_cons (pg_name (i := 5) sc_Bars_pin.nd rfl (Or.inl rfl)) pgs_nil))))))
      (pss_one (ps_ret (pe_mak cPin_new hr (by decide) passL (pa_cons (pv 2) (pa_cons (pv 3) (pa_cons (pv 5) (pa_cons (pv 4) pa_nil)))))))), ?_⟩
    refine q_unl4 (el_lcR1 (n := 4) (fun _ => true) (fun i => V.int (FB.nth g a c r ((n + (i : Nat)) % 4))) (ea_cons ev_c ea_nil) (by decide) (fun _ => rfl) (fun _ _ _ _ => yes_T) (fun i H1 e hi _ => ?_)) (fun H1 e1 => ?_)
    · have hj : ∃ j : Nat, (n + (i : Int)) % 4 = (j : Int) ∧ j < 4 := ⟨((n + (i : Int)) % 4).toNat, by omega, by omega⟩
      obtain ⟨j, ej, hj⟩ := hj
      rw [ej]
      refine ev_ixL (j := j) (ev_fld (ev_var rfl) (e _ _ hp) clBars nBars_lengths rfl) (sq_of (e _ _ hl)) (ev_op (ev_op (ev_var rfl) (ev_var rfl) rv_I0) ev_c rv_mod) ej ?_
      match j, hj with
      | 0, _ => rfl
      | 1, _ => rfl
      | 2, _ => rfl
      | 3, _ => rfl
    · refine s_retO (eo_make (fs := pinF (FB.pinI g a c r n)) (ea_cons (ev_var rfl) (ea_cons (ev_var rfl) (ea_cons (ev_var rfl) (ea_cons (ev_var rfl) ea_nil)))) (fun H2 q dq Q2 e2 hq k2 => ⟨q, dq, _, _, _, _, rfl, hq, k2⟩)) (fun q dq H2 hq e2 h2 => k q dq H2 (fresh_back e1 hq) (e1.trans e2) h2)
theorem sc_Pin_most : FnScope ["self"] ["self"] (defScope tx_Pin_most) := ⟨rfl, rfl, rfl, by decide +kernel, rfl, by decide +kernel, by decide +kernel⟩
theorem ok_Pin_most {f : Addr} {fd : FuncData} (F : Fun K "most" "Pin.most" tx_Pin_most f fd) (clPin : Cls K Pn) (nPin_one : NoAttr K Pn "one") (nPin_two : NoAttr K Pn "two") :
    FnOk P w K mg base CX0 1 f fd ["self"] (spPinM Pn) := by
  refine F.ok sc_Pin_most (fun vs H Q E h => ?_) (fun cdv A outer s H vs Q E hr h => ?_)
  · obtain ⟨p, dx, q, rfl, _⟩ := h
    rfl
  · obtain ⟨p, dx, q, rfl, hp, k⟩ := h
    refine ⟨_, (pss_one (ps_ret (pe_op op_add (pe_fld (pv 0) rfl) (pe_fld (pv 0) rfl)))), ?_⟩
    exact s_ret (ev_op (ev_fld (ev_var rfl) hp clPin nPin_one rfl) (ev_fld (ev_var rfl) hp clPin nPin_two rfl) rv_I0) k
theorem sc_Pin_least : FnScope ["self"] ["self"] (defScope tx_Pin_least) := ⟨rfl, rfl, rfl, by decide +kernel, rfl, by decide +kernel, by decide +kernel⟩
theorem ok_Pin_least {f : Addr} {fd : FuncData} (F : Fun K "least" "Pin.least" tx_Pin_least f fd) (zabs : mg "abs" = none) (clPin : Cls K Pn) (nPin_one : NoAttr K Pn "one") (nPin_two : NoAttr K Pn "two") :
    FnOk P w K mg base CX0 1 f fd ["self"] (spPinL Pn) := by
  refine F.ok sc_Pin_least (fun vs H Q E h => ?_) (fun cdv A outer s H vs Q E hr h => ?_)
  · obtain ⟨p, dx, q, rfl, _⟩ := h
    rfl
  · obtain ⟨p, dx, q, rfl, hp, k⟩ := h
    refine ⟨_, (pss_one (ps_ret (pe_callB call_abs (by rfl) zabs PyProof.Rows.boot_abs (pa_cons (pe_op op_sub (pe_fld (pv 0) rfl) (pe_fld (pv 0) rfl)) pa_nil)))), ?_⟩
    exact s_ret (ev_abs (ev_op (ev_fld (ev_var rfl) hp clPin nPin_one rfl) (ev_fld (ev_var rfl) hp clPin nPin_two rfl) rv_I0)) k
theorem sc_Pin_can_be : FnScope ["self", "distance"] ["self", "distance"] (defScope tx_Pin_can_be) := ⟨rfl, rfl, rfl, by decide +kernel, rfl, by decide +kernel, by decide +kernel⟩
theorem ok_Pin_can_be {f : Addr} {fd : FuncData} (F : Fun K "can_be" "Pin.can_be" tx_Pin_can_be f fd) (clPin : Cls K Pn) (nPin_behind_one : NoAttr K Pn "behind_one") (nPin_behind_two : NoAttr K Pn "behind_two") (zabs : mg "abs" = none) :
    FnOk P w K mg base CX0 1 f fd ["self", "distance"] (spPinC Pn) := by
  refine F.ok sc_Pin_can_be (fun vs H Q E h => ?_) (fun cdv A outer s H vs Q E hr h => ?_)
  · obtain ⟨p, dx, q, d, rfl, _⟩ := h
    rfl
  · obtain ⟨p, dx, q, d, rfl, hp, k⟩ := h
    refine ⟨_, (pss_one (ps_ret (pe_and (pe_cmpR op_le (pe_callB call_abs (by rfl) zabs PyProof.Rows.boot_abs (pa_cons (pe_op op_sub (pe_fld (pv 0) rfl) (pe_fld (pv 0) rfl)) pa_nil)) (pv 1) (nomark _)) (pe_one (pe_cmpR op_le (pv 1) (pe_op op_add (pe_fld (pv 0) rfl) (pe_fld (pv 0) rfl)) (nomark _)))))), ?_⟩
    exact s_ret (ev_andV (ev_op (ev_abs (ev_op (ev_fld (ev_var rfl) hp clPin nPin_behind_one rfl) (ev_fld (ev_var rfl) hp clPin nPin_behind_two rfl) rv_I0)) (ev_var rfl) rv_I0) fun _ => ev_op (ev_var rfl) (ev_op (ev_fld (ev_var rfl) hp clPin nPin_behind_one rfl) (ev_fld (ev_var rfl) hp clPin nPin_behind_two rfl) rv_I0) rv_I0) k
theorem sc_common : FnScope ["one", "other"] ["one", "other"] (defScope tx_common) := ⟨rfl, rfl, rfl, by decide +kernel, rfl, by decide +kernel, by decide +kernel⟩
theorem ok_common {f : Addr} {fd : FuncData} (F : Fun K "common" "common" tx_common f fd)  :
    FnOk P w K mg base CX0 1 f fd ["one", "other"] (spCo) := by
  refine F.ok sc_common (fun vs H Q E h => ?_) (fun cdv A outer s H vs Q E hr h => ?_)
  · obtain ⟨x, y, rfl, _⟩ := h
    rfl
  · obtain ⟨x, y, rfl, hx, hy, k⟩ := h
    refine ⟨_, (pss_cons (ps_while PassesOwn.never (pt_cmpR op_gt (pv 1) pe_int (nomark _)) (pss_one (ps_par (i := 0) (j := 1) rfl sc_common.nd rfl rfl (by decide) rfl rfl (pa_cons (pv 1) (pa_cons (pe_op op_mod (pv 0) (pv 1)) pa_nil)) (by rfl))))
      (pss_one (ps_ret (pv 0)))), ?_⟩
    refine q_while (fun m σ' H' => ∃ x' y' : Int, σ' = [some (.int x'), some (.int y')] ∧ 0 ≤ x' ∧ 0 ≤ y' ∧ Int.gcd x' y' = Int.gcd x y ∧ m = y'.toNat ∧ Ex H H') y.toNat ⟨x, y, rfl, hx, hy, rfl, rfl, Ex.refl H⟩ (fun m σ' H' hw => ?_)
    obtain ⟨x', y', rfl, hx', hy', hg, rfl, he⟩ := hw
    refine ⟨decide (0 < y'), et_test (ev_op (ev_var rfl) ev_c rv_I0), fun hb H1 e1 => ?_, fun hb H1 e1 => ?_⟩
    · have hp : 0 < y' := of_decide_eq_true hb
      refine ⟨fun σ2 H2 => ∃ m', m' < y'.toNat ∧ ∃ x2 y2 : Int, σ2 = [some (.int x2), some (.int y2)] ∧ 0 ≤ x2 ∧ 0 ≤ y2 ∧ Int.gcd x2 y2 = Int.gcd x y ∧ m' = y2.toNat ∧ Ex H H2, fun σ2 H2 h => h, ?_⟩
      refine (ea_cons (ev_var rfl) (ea_cons (ev_op (ev_var rfl) (ev_var rfl) (rv_I (C := fun _ j => 0 < j) hp)) ea_nil) : EvA _ _ H1 [V.int y', V.int (x' % y')]) H1 (Ex.refl H1) _ (fun H2 e2 => ⟨_, _, rfl, ?_⟩)
      have h1 := Int.emod_nonneg x' (show y' ≠ 0 by omega)
      have h2 := Int.emod_lt_of_pos x' hp
      exact ⟨(x' % y').toNat, by omega, y', x' % y', rfl, by omega, h1, by rw [gcd_turn hx' hp, hg], rfl, (he.trans e1).trans e2⟩
    · have hz : y' = 0 := by have := of_decide_eq_false hb; omega
      subst hz
      refine s_ret (v := .int x') (ev_var rfl) (fun H2 e2 => ?_)
      have e3 : x' = ((Int.gcd x y : Nat) : Int) := by rw [← hg, gcd_end hx']
      rw [e3]
      exact k H2 ((he.trans e1).trans e2)
theorem sc_fraction : FnScope ["over", "under", "both"] ["over", "under"] (defScope tx_fraction) := ⟨rfl, rfl, rfl, by decide +kernel, rfl, by decide +kernel, by decide +kernel⟩
theorem ok_fraction {f : Addr} {fd : FuncData} (F : Fun K "fraction" "fraction" tx_fraction f fd) (ccommon : Cal P w K mg base 1 "common" (spCo)) (zabs : mg "abs" = none) :
    FnOk P w K mg base CX0 2 f fd ["over", "under"] (spFr) := by
  refine F.ok sc_fraction (fun vs H Q E h => ?_) (fun cdv A outer s H vs Q E hr h => ?_)
  · obtain ⟨o, u, rfl, _⟩ := h
    rfl
  · obtain ⟨o, u, rfl, h0, h1, k⟩ := h
    refine ⟨_, (pss_cons (ps_set (i := 2) sc_fraction.nd rfl (Or.inl rfl) (pe_cal ccommon hr (by decide) passL (pa_cons (pe_callB call_abs (by rfl) zabs PyProof.Rows.boot_abs (pa_cons (pv 0) pa_nil)) (pa_cons (pv 1) pa_nil))))
      (pss_one (ps_ret (pe_lst (pa_cons (pe_op op_fdivW (pv 0) (pv 2)) (pa_cons (pe_op op_fdivW (pv 1) (pv 2)) pa_nil)))))), ?_⟩
    refine q_asg (v := .int ((Int.gcd o u : Nat) : Int)) (ev_is (ev_cal (ea_cons (ev_abs (ev_var rfl)) (ea_cons (ev_var rfl) ea_nil)) (spv_co (FB.ab_nonneg o) (Int.le_of_lt h0))) (by rw [gcd_ab])) (fun H1 e1 => ?_)
    have p := gcd_pos (o := o) h0
    have l := gcd_le (o := o) h0
    refine s_retL (xs := LI (FB.fr o u)) (el_lst (ea_cons (ev_op (ev_var rfl) (ev_var rfl) (rv_fdiv p (by omega))) (ea_cons (ev_op (ev_var rfl) (ev_var rfl) (rv_fdiv p (by omega))) ea_nil)) (by show 2 ≤ 100000; decide)) (fun p H2 hp e2 h2 => k p H2 (fresh_back e1 hp) (e1.trans e2) h2)
theorem sc_Pin_cosine : FnScope ["self", "distance"] ["self", "distance"] (defScope tx_Pin_cosine) := ⟨rfl, rfl, rfl, by decide +kernel, rfl, by decide +kernel, by decide +kernel⟩
theorem ok_Pin_cosine {f : Addr} {fd : FuncData} (F : Fun K "cosine" "Pin.cosine" tx_Pin_cosine f fd) (cfraction : Cal P w K mg base 2 "fraction" (spFr)) (clPin : Cls K Pn) (nPin_one : NoAttr K Pn "one") (nPin_two : NoAttr K Pn "two") :
    FnOk P w K mg base CX0 3 f fd ["self", "distance"] (spPinS Pn) := by
  refine F.ok sc_Pin_cosine (fun vs H Q E h => ?_) (fun cdv A outer s H vs Q E hr h => ?_)
  · obtain ⟨p, dx, q, d, rfl, _⟩ := h
    rfl
  · obtain ⟨p, dx, q, d, rfl, hp, hu, hv, hd, k⟩ := h
    refine ⟨_, (pss_one (ps_ret (pe_cal cfraction hr (by decide) passL (pa_cons (pe_op op_sub (pe_op op_add (pe_op op_mul (pe_fld (pv 0) rfl) (pe_fld (pv 0) rfl)) (pe_op op_mul (pe_fld (pv 0) rfl) (pe_fld (pv 0) rfl))) (pe_op op_mul (pv 1) (pv 1))) (pa_cons (pe_op op_mul (pe_op op_mul pe_int (pe_fld (pv 0) rfl)) (pe_fld (pv 0) rfl)) pa_nil))))), ?_⟩
    have b1 := hu.lo
    have b2 := hu.hi
    have b3 := hv.lo
    have b4 := hv.hi
    have ub := under_bd hu hv
    exact s_retL (xs := LI (FB.cosI q.u q.v d)) (el_cal (ea_cons (ev_op (ev_op (ev_op (ev_fld (ev_var rfl) hp clPin nPin_one rfl) (ev_fld (ev_var rfl) hp clPin nPin_one rfl) (rv_mul (by omega))) (ev_op (ev_fld (ev_var rfl) hp clPin nPin_two rfl) (ev_fld (ev_var rfl) hp clPin nPin_two rfl) (rv_mul (by omega))) rv_I0) (ev_op (ev_var rfl) (ev_var rfl) (rv_mul (by omega))) rv_I0) (ea_cons (ev_op (ev_op ev_c (ev_fld (ev_var rfl) hp clPin nPin_one rfl) (rv_mul (by omega))) (ev_fld (ev_var rfl) hp clPin nPin_two rfl) (rv_mul (by omega))) ea_nil)) (spl_fr ub.1 ub.2)) k
theorem sc_cosine_beside : FnScope ["own", "far", "side", "other", "distance", "over"] ["own", "far", "side", "other", "distance"] (defScope tx_cosine_beside) := ⟨rfl, rfl, rfl, by decide +kernel, rfl, by decide +kernel, by decide +kernel⟩
theorem ok_cosine_beside {f : Addr} {fd : FuncData} (F : Fun K "cosine_beside" "cosine_beside" tx_cosine_beside f fd) (cfraction : Cal P w K mg base 2 "fraction" (spFr)) :
    FnOk P w K mg base CX0 3 f fd ["own", "far", "side", "other", "distance"] (spCB) := by
  refine F.ok sc_cosine_beside (fun vs H Q E h => ?_) (fun cdv A outer s H vs Q E hr h => ?_)
  · obtain ⟨own, far, side, other, d, rfl, _⟩ := h
    rfl
  · obtain ⟨own, far, side, other, d, rfl, h1, h2, hd, k⟩ := h
    refine ⟨_, (pss_cons (ps_set (i := 5) sc_cosine_beside.nd rfl (Or.inl rfl) (pe_op op_sub (pe_op op_add (pe_op op_mul (pv 4) (pv 4)) (pe_op op_mul (pv 2) (pv 2))) (pe_op op_mul (pv 3) (pv 3))))
      (pss_cons (ps_if (PW.pt (pw_or (pt_cmpR op_eq (pv 4) (pe_op op_add (pv 0) (pv 1)) (nomark _)) (pw_or1 (pt_cmpR op_lt (pv 1) (pv 0) (nomark _))))) (pss_one (ps_ret (pe_cal cfraction hr (by decide) passL (pa_cons (pv 5) (pa_cons (pe_op op_mul (pe_op op_mul pe_int (pv 4)) (pv 2)) pa_nil))))) pss_nil)
      (pss_one (ps_ret (pe_cal cfraction hr (by decide) passL (pa_cons (pe_op op_sub pe_int (pv 5)) (pa_cons (pe_op op_mul (pe_op op_mul pe_int (pv 4)) (pv 2)) pa_nil))))))), ?_⟩
    have b1 := h1.lo
    have b2 := h1.hi
    have b3 := h2.lo
    have b4 := h2.hi
    refine q_asg (ev_op (ev_op (ev_op (ev_var rfl) (ev_var rfl) (rv_mul (by omega))) (ev_op (ev_var rfl) (ev_var rfl) (rv_mul (by omega))) rv_I0) (ev_op (ev_var rfl) (ev_var rfl) (rv_mul (by omega))) rv_I0) (fun H1 e1 => ?_)
    have a1 := Int.mul_pos (show 0 < 2 * d by omega) (show 0 < side by omega)
    have a2 := mul_bd (x := 2 * d) (y := side) (m := 3996) (n := 999) (by omega) (by omega)
    refine q_when (b := decide (d = own + far) || decide (far < own)) (et_or (et_is (et_test (ev_op (ev_var rfl) (ev_op (ev_var rfl) (ev_var rfl) rv_I0) (rv_eq rfl))) (by simp)) (fun _ => et_test (ev_op (ev_var rfl) (ev_var rfl) rv_I0))) (fun hb H2 e2 => ?_) (fun hb H2 e2 => ?_)
    · have hc : d = own + far ∨ far < own := by simpa using hb
      refine s_retL (xs := LI (FB.besideI own far side other d)) ?_ (fun l H3 hl e3 h3 => k l H3 (fresh_back (e1.trans e2) hl) ((e1.trans e2).trans e3) h3)
      unfold FB.besideI
      rw [if_pos hc]
      exact el_cal (ea_cons (ev_var rfl) (ea_cons (ev_op (ev_op ev_c (ev_var rfl) (rv_mul (by omega))) (ev_var rfl) (rv_mul (by omega))) ea_nil)) (spl_fr a1 (by omega))
    · have hc : ¬ (d = own + far ∨ far < own) := by simpa using hb
      refine s_retL (xs := LI (FB.besideI own far side other d)) ?_ (fun l H3 hl e3 h3 => k l H3 (fresh_back (e1.trans e2) hl) ((e1.trans e2).trans e3) h3)
      unfold FB.besideI
      rw [if_neg hc]
      exact el_cal (ea_cons (ev_op ev_c (ev_var rfl) rv_I0) (ea_cons (ev_op (ev_op ev_c (ev_var rfl) (rv_mul (by omega))) (ev_var rfl) (rv_mul (by omega))) ea_nil)) (spl_fr a1 (by omega))
theorem sc_line_at : FnScope ["bars", "number", "folded", "other", "pin", "distance"] ["bars", "number", "folded", "other"] (defScope tx_line_at) := ⟨rfl, rfl, rfl, by decide +kernel, rfl, by decide +kernel, by decide +kernel⟩
theorem ok_line_at {f : Addr} {fd : FuncData} (F : Fun K "line_at" "line_at" tx_line_at f fd) (clBars : Cls K B) (cBars_pin : Met P w K mg base 3 B "pin" (spBP B Pn)) (clPin : Cls K Pn) (cPin_most : Met P w K mg base 1 Pn "most" (spPinM Pn)) (cPin_least : Met P w K mg base 1 Pn "least" (spPinL Pn)) (cPin_can_be : Met P w K mg base 1 Pn "can_be" (spPinC Pn)) (cPin_cosine : Met P w K mg base 3 Pn "cosine" (spPinS Pn)) (cmust : Cal P w K mg base 3 "must" (spMust R)) (ccosine_beside : Cal P w K mg base 3 "cosine_beside" (spCB)) (nPin_behind_one : NoAttr K Pn "behind_one") (nPin_behind_two : NoAttr K Pn "behind_two") (nPin_one : NoAttr K Pn "one") (nPin_two : NoAttr K Pn "two") :
    FnOk P w K mg base (L2.CX P w) 4 f fd ["bars", "number", "folded", "other"] (spLA R B) := by
  refine F.okX sc_line_at (fun vs H Q E h => ?_) (fun cdv A outer s H vs Q E hr h => ?_)
  · obtain ⟨p, n, folded, other, g, a, c, r, rfl, _⟩ := h
    rfl
  · obtain ⟨p, n, folded, other, g, a, c, r, rfl, hb, ok, k1, k2⟩ := h
    refine ⟨_, (pss_cons (ps_set (i := 4) sc_line_at.nd rfl (Or.inl rfl) (pe_met (pv 0) clBars cBars_pin hr (by decide) passL (pa_cons (pv 1) pa_nil)))
      (pss_cons (ps_set (i := 5) sc_line_at.nd rfl (Or.inl rfl) (pe_met0 (pv 4) clPin cPin_most hr (by decide) passL))
      (pss_cons (ps_if (pt_cmpR op_eq (pv 2) pe_int (nomark _)) (pss_one (ps_set (i := 5) sc_line_at.nd rfl (Or.inl rfl) (pe_met0 (pv 4) clPin cPin_least hr (by decide) passL))) pss_nil)
      (pss_cons (ps_if (pt_not (pt_val (pe_met (pv 4) clPin cPin_can_be hr (by decide) passL (pa_cons (pv 5) pa_nil)))) (pss_one (ps_ret (pe_lst pa_nil))) pss_nil)
      (pss_cons (ps_if (pt_cmpR op_eq (pe_op op_mod (pe_op op_add (pv 1) pe_int) pe_int) (pv 3) (nomark _)) (pss_one (ps_ret (pe_met (pe_met (pv 0) clBars cBars_pin hr (by decide) passL (pa_cons (pv 3) pa_nil)) clPin cPin_cosine hr (by decide) passL (pa_cons (pv 5) pa_nil)))) pss_nil)
      (pss_cons (ps_expr (pe_cal cmust hr (by decide) (passE (takes_of rfl rfl rfl rfl)) (pa_cons (pe_cmpR op_gt (pv 5) pe_int (nomark _)) (pa_cons (pe_un un_neg pe_int) pa_nil))))
      (pss_cons (ps_if (pt_cmpR op_eq (pe_op op_mod (pe_op op_add (pv 1) pe_int) pe_int) (pv 3) (nomark _)) (pss_one (ps_ret (pe_cal ccosine_beside hr (by decide) passL (pa_cons (pe_fld (pv 4) rfl) (pa_cons (pe_fld (pv 4) rfl) (pa_cons (pe_fld (pv 4) rfl) (pa_cons (pe_fld (pv 4) rfl) (pa_cons (pv 5) pa_nil)))))))) pss_nil)
      (pss_one (ps_ret (pe_cal ccosine_beside hr (by decide) passL (pa_cons (pe_fld (pv 4) rfl) (pa_cons (pe_fld (pv 4) rfl) (pa_cons (pe_fld (pv 4) rfl) (pa_cons (pe_fld (pv 4) rfl) (pa_cons (pv 5) pa_nil))))))))))))))), ?_⟩
    have hb0 := hb
    obtain ⟨dx, l, b1, b2⟩ := hb0
    refine q_asgO (eo_meth (ev_var rfl) b1 (by with_unfolding_all rfl) (ea_cons (ev_var rfl) ea_nil) (spo_pin (n := n) hb)) (fun q dq H1 hq0 e1 hq => ?_)
    have bq := bd_pin (n := n) ok
    unfold lineV at k1 k2
    dsimp only at k1 k2
    generalize hP : FB.pinI g a c r n = P at *
    have c1 := bq.u.lo
    have c2 := bq.u.hi
    have c3 := bq.v.lo
    have c4 := bq.v.hi
    refine q_asg (ev_meth (ev_var rfl) hq (by with_unfolding_all rfl) ea_nil (spv_most hq)) (fun H2 e2 => ?_)
    have hq2 := e2 _ _ hq
    have dd : 0 ≤ (if folded = 1 then FB.ab (P.u - P.v) else P.u + P.v) ∧ (if folded = 1 then FB.ab (P.u - P.v) else P.u + P.v) ≤ 1998 := by
      have d1 := ab_bd (x := P.u - P.v) (m := 998) ⟨by omega, by omega⟩
      split <;> omega
    refine q_ifAsg (b := decide (folded = 1)) (v := .int (if folded = 1 then FB.ab (P.u - P.v) else P.u + P.v)) (et_is (et_test (ev_op (ev_var rfl) ev_c (rv_eq rfl))) (by simp)) (fun hf => ?_) (fun hf => ?_) (fun H3 e3 => ?_)
    · rw [if_pos (of_decide_eq_true hf)]
      exact ev_meth (ev_var rfl) hq2 (by with_unfolding_all rfl) ea_nil (spv_least hq2)
    · rw [if_neg (of_decide_eq_false hf)]
      rfl
    generalize (if folded = 1 then FB.ab (P.u - P.v) else P.u + P.v) = d at *
    have hq3 := e3 _ _ hq2
    have e13 : Ex H H3 := (e1.trans e2).trans e3
    refine q_when (b := !FB.canBe P.w P.z d) (et_not (et_val (ev_meth (ev_var rfl) hq3 (by with_unfolding_all rfl) (ea_cons (ev_var rfl) ea_nil) (spv_can hq3)))) (fun hc H4 e4 => ?_) (fun hc H4 e4 => ?_)
    · have hc' : FB.canBe P.w P.z d = false := by simpa using hc
      rw [if_pos hc'] at k1
      exact s_retL (xs := LI []) (el_lst ea_nil (by show 0 ≤ 100000; decide)) (fun l2 H5 hl e5 h5 => k1 [] rfl l2 H5 (fresh_back (e13.trans e4) hl) ((e13.trans e4).trans e5) h5)
    have hc' : ¬ FB.canBe P.w P.z d = false := by simpa using hc
    rw [if_neg hc'] at k1 k2
    have e14 := e13.trans e4
    refine q_when (b := decide ((n + 2) % 4 = other)) (et_is (et_test (ev_op (ev_op (ev_op (ev_var rfl) ev_c rv_I0) ev_c rv_mod) (ev_var rfl) (rv_eq rfl))) (by simp)) (fun hd H5 e5 => ?_) (fun hd H5 e5 => ?_)
    · rw [if_pos (of_decide_eq_true hd)] at k1
      have hb5 := (hb.mono e14).mono e5
      have b15 := e5 _ _ (e14 _ _ b1)
      have bo := bd_pin (n := other) ok
      refine s_retL (xs := LI (FB.cosI (FB.pinI g a c r other).u (FB.pinI g a c r other).v d)) (el_methO (eo_meth (ev_var rfl) b15 (by with_unfolding_all rfl) (ea_cons (ev_var rfl) ea_nil) (spo_pin (n := other) hb5)) (by with_unfolding_all rfl) (ea_cons (ev_var rfl) ea_nil) (fun p2 dx2 H6 e6 h6 => spl_cos h6 bo.u bo.v dd)) (fun l2 H6 hl e6 h6 => k1 _ rfl l2 H6 (fresh_back (e14.trans e5) hl) ((e14.trans e5).trans e6) h6)
    rw [if_neg (of_decide_eq_false hd)] at k1 k2
    have e15 := e14.trans e5
    refine q_must (b := decide (0 < d)) (n := -5) (ea_cons (ev_op (ev_var rfl) ev_c rv_I0) (ea_cons (ev_neg ev_c) ea_nil)) (fun hz H6 e6 => ?_) (fun hz H6 e6 => ?_)
    · have hz' : ¬ d ≤ 0 := by have := of_decide_eq_true hz; omega
      rw [if_neg hz'] at k1
      have e16 := e15.trans e6
      have hq6 := e6 _ _ (e5 _ _ (e4 _ _ hq3))
      refine q_when (b := decide ((n + 1) % 4 = other)) (et_is (et_test (ev_op (ev_op (ev_op (ev_var rfl) ev_c rv_I0) ev_c rv_mod) (ev_var rfl) (rv_eq rfl))) (by simp)) (fun hw H7 e7 => ?_) (fun hw H7 e7 => ?_)
      · have hq7 := e7 _ _ hq6
        rw [if_pos (of_decide_eq_true hw)] at k1
        exact s_retL (el_cal (ea_cons (ev_fld (ev_var rfl) hq7 clPin nPin_two rfl) (ea_cons (ev_fld (ev_var rfl) hq7 clPin nPin_one rfl) (ea_cons (ev_fld (ev_var rfl) hq7 clPin nPin_behind_two rfl) (ea_cons (ev_fld (ev_var rfl) hq7 clPin nPin_behind_one rfl) (ea_cons (ev_var rfl) ea_nil))))) (spl_cb (own := P.v) (far := P.u) bq.z bq.w ⟨by omega, dd.2⟩)) (fun l2 H8 hl e8 h8 => k1 _ rfl l2 H8 (fresh_back (e16.trans e7) hl) ((e16.trans e7).trans e8) h8)
      · have hq7 := e7 _ _ hq6
        rw [if_neg (of_decide_eq_false hw)] at k1
        exact s_retL (el_cal (ea_cons (ev_fld (ev_var rfl) hq7 clPin nPin_one rfl) (ea_cons (ev_fld (ev_var rfl) hq7 clPin nPin_two rfl) (ea_cons (ev_fld (ev_var rfl) hq7 clPin nPin_behind_one rfl) (ea_cons (ev_fld (ev_var rfl) hq7 clPin nPin_behind_two rfl) (ea_cons (ev_var rfl) ea_nil))))) (spl_cb (own := P.u) (far := P.v) bq.w bq.z ⟨by omega, dd.2⟩)) (fun l2 H8 hl e8 h8 => k1 _ rfl l2 H8 (fresh_back (e16.trans e7) hl) ((e16.trans e7).trans e8) h8)
    · have hz' : d ≤ 0 := by have := of_decide_eq_false hz; omega
      rw [if_pos hz'] at k2
      exact (k2 rfl).go (e15.trans e6)
theorem sc_line : FnScope ["g", "a", "c", "r", "pin", "folded", "other", "bars", "found", "refusal"] ["g", "a", "c", "r", "pin", "folded", "other"] (defScope tx_line) := ⟨rfl, rfl, rfl, by decide +kernel, rfl, by decide +kernel, by decide +kernel⟩
theorem ok_line {f : Addr} {fd : FuncData} (F : Fun K "line" "line" tx_line f fd) (gR : mg "Refused" = some (.ref R)) (xR : XfC K R) (hno : PySem.W.findIn K (.ref R) "code" = some none) (eR : PySem.W.exmOne K (.ref R) (.ref R) = some true) (cBars_new : Mak P w K mg base 4 "Bars" B (spBI R B)) (cmust : Cal P w K mg base 3 "must" (spMust R)) (clBars : Cls K B) (cBars_must_be : Met P w K mg base 4 B "must_be" (spBM R B)) (cline_at : Cal P w K mg base 4 "line_at" (spLA R B)) :
    FnOk P w K mg base CX0 6 f fd ["g", "a", "c", "r", "pin", "folded", "other"] (spLine) := by
  refine F.ok sc_line (fun vs H Q E h => ?_) (fun cdv A outer s H vs Q E hr h => ?_)
  · obtain ⟨g, a, c, r, pin, folded, other, rfl, _⟩ := h
    rfl
  · obtain ⟨g, a, c, r, pin, folded, other, rfl, k⟩ := h
    refine ⟨_, (pss_one (ps_try_as (i := 9) (ts := tsR R 9) (Wout := fun _ _ _ _ => False) rfl rfl sc_line.nd rfl rfl ⟨rfl, by decide, Or.inl gR⟩ takes0
      (fun W pn xe tk _ => (pss_cons (ps_set (i := 7) sc_line.nd rfl (Or.inl rfl) (pe_mak cBars_new hr (by decide) (passLen (n := 10) tk rfl) (pa_cons (pe_lst (pa_cons (pv 0) (pa_cons (pv 1) (pa_cons (pv 2) (pa_cons (pv 3) pa_nil))))) pa_nil)))
      (pss_cons (ps_expr (pe_cal cmust hr (by decide) (passLen (n := 10) tk rfl) (pa_cons (pe_and (pe_cmpR op_le (pv 4) pe_int (nomark _)) (pe_and (pe_cmpR op_le (pv 6) pe_int (nomark _)) (pe_and (pe_cmpR op_ne (pv 6) (pv 4) (nomark _)) (pe_one (pe_cmpR op_le (pv 5) pe_int (nomark _)))))) (pa_cons (pe_un un_neg pe_int) pa_nil))))
      (pss_cons (ps_expr (pe_met0 (pv 7) clBars cBars_must_be hr (by decide) (passLen (n := 10) tk rfl)))
      (pss_cons (ps_set (i := 8) sc_line.nd rfl (Or.inl rfl) (pe_cal cline_at hr (by decide) (passLen (n := 10) tk rfl) (pa_cons (pv 7) (pa_cons (pv 4) (pa_cons (pv 5) (pa_cons (pv 6) pa_nil))))))
      (pss_cons (ps_if (pt_cmpR (r := rEqD K) (op_eqD hr.units) (pv 8) (pe_lst pa_nil) (nomark _)) (pss_one (ps_ret (pe_lst (pa_cons pe_int (pa_cons pe_int pa_nil))))) pss_nil)
      (pss_one (ps_ret (pe_op op_cat (pe_lst (pa_cons pe_int (pa_cons pe_int pa_nil))) (pv 8))))))))))
      (fun a0 oe cls d pn hz hf => (pss_one (ps_ret (pe_lst (pa_cons (pe_xf xR hno hz hf (pv 9)) pa_nil))))))), ?_⟩
    unfold FB.ansLine at k
    refine q_bars (g := g) (a := a) (c := c) (r := r) (ev4 rfl rfl rfl rfl) (fun ok p H1 hp e1 hb => ?_) (fun bad => caught eR (by decide) (by rw [if_pos bad] at k; exact k))
    rw [if_neg (by rw [ok]; decide)] at k
    refine q_must (b := decide (pin ≤ 3) && (decide (other ≤ 3) && ((!decide (other = pin)) && decide (folded ≤ 1)))) (n := -1) (ea_cons (ev_andV (ev_op (ev_var rfl) ev_c rv_I0) fun _ => ev_andV (ev_op (ev_var rfl) ev_c rv_I0) fun _ => ev_andV (ev_is (ev_op (ev_var rfl) (ev_var rfl) (rv_ne rfl)) (by simp)) fun _ => ev_op (ev_var rfl) ev_c rv_I0) (ea_cons (ev_neg ev_c) ea_nil)) (fun hz H2 e2 => ?_) (fun hz H2 e2 => caught eR (by decide) (by
      have hz' : ¬ (pin ≤ 3 ∧ other ≤ 3 ∧ other ≠ pin ∧ folded ≤ 1) := by
        intro w
        have : (decide (pin ≤ 3) && (decide (other ≤ 3) && ((!decide (other = pin)) && decide (folded ≤ 1)))) = true := by simp [w.1, w.2.1, w.2.2.1, w.2.2.2]
        rw [this] at hz
        cases hz
      rw [if_pos hz'] at k
      exact k))
    have hz' : pin ≤ 3 ∧ other ≤ 3 ∧ other ≠ pin ∧ folded ≤ 1 := by simpa using hz
    rw [if_neg (not_not_intro hz')] at k
    refine q_mustbe (ev_var rfl) (hb.mono e2) ok (fun hk H3 e3 => ?_) (fun hk => caught eR (by decide) (by rw [if_pos hk] at k; exact k))
    rw [if_neg hk] at k
    have hb3 := (hb.mono e2).mono e3
    refine q_calR (vs := [V.ref p, V.int pin, V.int folded, V.int other]) (ea_cons (ev_var rfl) (ea_cons (ev_var rfl) (ea_cons (ev_var rfl) (ea_cons (ev_var rfl) ea_nil)))) (fun H4 e4 => ?_)
    rcases lineV_is g a c r pin folded other with ⟨q1, q2⟩ | ⟨q1, q2⟩ | ⟨x, y, q1, q2⟩
    · rw [q2] at k
      exact ⟨p, pin, folded, other, g, a, c, r, rfl, hb3.mono e4, ok, fun l hl => (by rw [q1] at hl; cases hl), fun _ => caught eR (by decide) k⟩
    · rw [q2] at k
      refine ⟨p, pin, folded, other, g, a, c, r, rfl, hb3.mono e4, ok, fun l hl => ?_, fun hn => by rw [q1] at hn; cases hn⟩
      rw [q1] at hl
      cases hl
      intro q H5 hq e5 h5
      refine q_when (b := true) (et_isnil (ns := []) (ev_var rfl) h5 (by decide +kernel) (by decide +kernel)) (fun _ H6 e6 => ?_) (fun hf => Bool.noConfusion hf)
      exact s_gives (el_lst (ea_cons ev_c (ea_cons ev_c ea_nil)) (by show 2 ≤ 100000; decide)) k
    · rw [q2] at k
      refine ⟨p, pin, folded, other, g, a, c, r, rfl, hb3.mono e4, ok, fun l hl => ?_, fun hn => by rw [q1] at hn; cases hn⟩
      rw [q1] at hl
      cases hl
      intro q H5 hq e5 h5
      refine q_when (b := false) (et_isnil (ns := [x, y]) (ev_var rfl) h5 (by rfl) (by rfl)) (fun hf => Bool.noConfusion hf) (fun _ H6 e6 => ?_)
      exact s_gives (el_catV (xs := LI [1, 2]) (ys := LI [x, y]) (el_lst (ea_cons ev_c (ea_cons ev_c ea_nil)) (by show 2 ≤ 100000; decide)) (ev_var rfl) (e6 _ _ h5) (by show 4 ≤ 100000; decide)) k
theorem all_mk {h : Heap} {fa f_Refused_new f_must f_Bars_new f_Bars_kind f_Bars_must_be f_Pin_new f_Bars_pin f_Pin_most f_Pin_least f_Pin_can_be f_common f_fraction f_Pin_cosine f_cosine_beside f_line_at f_line : Addr} (X : K.In h) (G : h.Ns mainGlobals mg) (hfa : mg "line" = some (.ref fa))
    {nm qn : Str} {NN : Addr} {bs : List Value} {sn : List Str} {sub : List Value} {ab : Bool} {col : Option Bool} {dd : Option Addr} {m0 m1 m2 m3 m5 : Option Value} {tkgMOST_LENGTH tkgIN_LINE tkgEVEN tkgNO_FIGURE : Tok} {od_Refused_new an_Refused_new od_must an_must od_Bars_new an_Bars_new od_Bars_kind an_Bars_kind od_Bars_must_be an_Bars_must_be od_Pin_new an_Pin_new od_Bars_pin an_Bars_pin od_Pin_most an_Pin_most od_Pin_least an_Pin_least od_Pin_can_be an_Pin_can_be od_common an_common od_fraction an_fraction od_Pin_cosine an_Pin_cosine od_cosine_beside an_cosine_beside od_line_at an_line_at od_line an_line : Option Addr} {sl_Refused_new sl_must sl_Bars_new sl_Bars_kind sl_Bars_must_be sl_Pin_new sl_Bars_pin sl_Pin_most sl_Pin_least sl_Pin_can_be sl_common sl_fraction sl_Pin_cosine sl_cosine_beside sl_line_at sl_line : Array (Option Value)} {oc_Refused_new kv_Refused_new dc_Refused_new pm_Refused_new cd_Refused_new ct_Refused_new oc_must kv_must dc_must pm_must cd_must ct_must oc_Bars_new kv_Bars_new dc_Bars_new pm_Bars_new cd_Bars_new ct_Bars_new oc_Bars_kind kv_Bars_kind dc_Bars_kind pm_Bars_kind cd_Bars_kind ct_Bars_kind oc_Bars_must_be kv_Bars_must_be dc_Bars_must_be pm_Bars_must_be cd_Bars_must_be ct_Bars_must_be oc_Pin_new kv_Pin_new dc_Pin_new pm_Pin_new cd_Pin_new ct_Pin_new oc_Bars_pin kv_Bars_pin dc_Bars_pin pm_Bars_pin cd_Bars_pin ct_Bars_pin oc_Pin_most kv_Pin_most dc_Pin_most pm_Pin_most cd_Pin_most ct_Pin_most oc_Pin_least kv_Pin_least dc_Pin_least pm_Pin_least cd_Pin_least ct_Pin_least oc_Pin_can_be kv_Pin_can_be dc_Pin_can_be pm_Pin_can_be cd_Pin_can_be ct_Pin_can_be oc_common kv_common dc_common pm_common cd_common ct_common oc_fraction kv_fraction dc_fraction pm_fraction cd_fraction ct_fraction oc_Pin_cosine kv_Pin_cosine dc_Pin_cosine pm_Pin_cosine cd_Pin_cosine ct_Pin_cosine oc_cosine_beside kv_cosine_beside dc_cosine_beside pm_cosine_beside cd_cosine_beside ct_cosine_beside oc_line_at kv_line_at dc_line_at pm_line_at cd_line_at ct_line_at oc_line kv_line dc_line pm_line cd_line ct_line : Value}
    (aR : PySem.W.nsIn K mainGlobals "Refused" = some (some (.ref R)))
    (xL : K.lookup R = some (excClassObj nm qn R NN bs [.type "ValueError", .type "Exception", .type "BaseException", .type "object"] true sn sub ab col dd m0 m1 m2 m3 m5 "ValueError.__new__"))
    (sa : PySem.W.findIn K (.ref R) "__setattr__" = some (some (.builtin "object.__setattr__")))
    (ga : PySem.W.findIn K (.ref R) "__getattribute__" = some (some (.builtin "BaseException.__getattribute__")))
    (gg : PySem.W.findIn K (.ref R) "__getattr__" = some none)
    (nb : PySem.W.findIn K (.ref R) "code" = some none)
    (kR : PySem.W.keepIn K (.ref R) = true)
    (bR : PySem.W.subIn K (.ref R) (.type "BaseException") = some true)
    (tyR : PySem.W.typeIn K (.ref R) = some (.type "type"))
    (hdR : PySem.W.hasDictIn K R = true)
    (isR : PySem.W.isClsIn K R = true)
    (suR : PySem.W.subIn K (.ref R) (.ref R) = some true)
    (aB : PySem.W.nsIn K mainGlobals "Bars" = some (some (.ref B)))
    (pgB : PySem.W.plainGet K B Str.empty = true)
    (hdB : PySem.W.hasDictIn K B = true)
    (poB : PySem.W.plainOver K B = true)
    (saB : PySem.W.findIn K (.ref B) "__setattr__" = some (some (.builtin "object.__setattr__")))
    (mkB : PySem.W.makesIn K B = true)
    (kcB : PySem.W.keepIn K (.ref B) = true)
    (aPn : PySem.W.nsIn K mainGlobals "Pin" = some (some (.ref Pn)))
    (pgPn : PySem.W.plainGet K Pn Str.empty = true)
    (hdPn : PySem.W.hasDictIn K Pn = true)
    (poPn : PySem.W.plainOver K Pn = true)
    (saPn : PySem.W.findIn K (.ref Pn) "__setattr__" = some (some (.builtin "object.__setattr__")))
    (mkPn : PySem.W.makesIn K Pn = true)
    (kcPn : PySem.W.keepIn K (.ref Pn) = true)
    (nRefused_code : PySem.W.findIn K (.ref R) "code" = some none)
    (nBars_lengths : PySem.W.findIn K (.ref B) "lengths" = some none)
    (nPin_one : PySem.W.findIn K (.ref Pn) "one" = some none)
    (nPin_two : PySem.W.findIn K (.ref Pn) "two" = some none)
    (nPin_behind_one : PySem.W.findIn K (.ref Pn) "behind_one" = some none)
    (nPin_behind_two : PySem.W.findIn K (.ref Pn) "behind_two" = some none)
    (a_Refused_new : PySem.W.findIn K (.ref R) "__init__" = some (some (.ref f_Refused_new)))
    (tRI : PySem.W.typeIn K (.ref f_Refused_new) = some (.type "function"))
    (l_Refused_new : K.lookup f_Refused_new = some ⟨oc_Refused_new, od_Refused_new, .func (PySem.W.fnOf "__init__" "Refused.__init__" (defArgs tx_Refused_new) (defBody tx_Refused_new) (defScope tx_Refused_new) .none kv_Refused_new dc_Refused_new pm_Refused_new an_Refused_new cd_Refused_new ct_Refused_new), sl_Refused_new⟩)
    (c_Refused_new : PySem.W.codeIn K cd_Refused_new "Refused.__init__" = true)
    (k_Refused_new : PySem.W.keepIn K (.ref f_Refused_new) = true)
    (a_must : PySem.W.nsIn K mainGlobals "must" = some (some (.ref f_must)))
    (l_must : K.lookup f_must = some ⟨oc_must, od_must, .func (PySem.W.fnOf "must" "must" (defArgs tx_must) (defBody tx_must) (defScope tx_must) .none kv_must dc_must pm_must an_must cd_must ct_must), sl_must⟩)
    (c_must : PySem.W.codeIn K cd_must "must" = true)
    (k_must : PySem.W.keepIn K (.ref f_must) = true)
    (a_Bars_new : PySem.W.findIn K (.ref B) "__init__" = some (some (.ref f_Bars_new)))
    (i_Bars_new : PySem.W.isFn K (.ref f_Bars_new) = true)
    (l_Bars_new : K.lookup f_Bars_new = some ⟨oc_Bars_new, od_Bars_new, .func (PySem.W.fnOf "__init__" "Bars.__init__" (defArgs tx_Bars_new) (defBody tx_Bars_new) (defScope tx_Bars_new) .none kv_Bars_new dc_Bars_new pm_Bars_new an_Bars_new cd_Bars_new ct_Bars_new), sl_Bars_new⟩)
    (c_Bars_new : PySem.W.codeIn K cd_Bars_new "Bars.__init__" = true)
    (k_Bars_new : PySem.W.keepIn K (.ref f_Bars_new) = true)
    (a_Bars_kind : PySem.W.findIn K (.ref B) "kind" = some (some (.ref f_Bars_kind)))
    (i_Bars_kind : PySem.W.isFn K (.ref f_Bars_kind) = true)
    (l_Bars_kind : K.lookup f_Bars_kind = some ⟨oc_Bars_kind, od_Bars_kind, .func (PySem.W.fnOf "kind" "Bars.kind" (defArgs tx_Bars_kind) (defBody tx_Bars_kind) (defScope tx_Bars_kind) .none kv_Bars_kind dc_Bars_kind pm_Bars_kind an_Bars_kind cd_Bars_kind ct_Bars_kind), sl_Bars_kind⟩)
    (c_Bars_kind : PySem.W.codeIn K cd_Bars_kind "Bars.kind" = true)
    (k_Bars_kind : PySem.W.keepIn K (.ref f_Bars_kind) = true)
    (a_Bars_must_be : PySem.W.findIn K (.ref B) "must_be" = some (some (.ref f_Bars_must_be)))
    (i_Bars_must_be : PySem.W.isFn K (.ref f_Bars_must_be) = true)
    (l_Bars_must_be : K.lookup f_Bars_must_be = some ⟨oc_Bars_must_be, od_Bars_must_be, .func (PySem.W.fnOf "must_be" "Bars.must_be" (defArgs tx_Bars_must_be) (defBody tx_Bars_must_be) (defScope tx_Bars_must_be) .none kv_Bars_must_be dc_Bars_must_be pm_Bars_must_be an_Bars_must_be cd_Bars_must_be ct_Bars_must_be), sl_Bars_must_be⟩)
    (c_Bars_must_be : PySem.W.codeIn K cd_Bars_must_be "Bars.must_be" = true)
    (k_Bars_must_be : PySem.W.keepIn K (.ref f_Bars_must_be) = true)
    (a_Pin_new : PySem.W.findIn K (.ref Pn) "__init__" = some (some (.ref f_Pin_new)))
    (i_Pin_new : PySem.W.isFn K (.ref f_Pin_new) = true)
    (l_Pin_new : K.lookup f_Pin_new = some ⟨oc_Pin_new, od_Pin_new, .func (PySem.W.fnOf "__init__" "Pin.__init__" (defArgs tx_Pin_new) (defBody tx_Pin_new) (defScope tx_Pin_new) .none kv_Pin_new dc_Pin_new pm_Pin_new an_Pin_new cd_Pin_new ct_Pin_new), sl_Pin_new⟩)
    (c_Pin_new : PySem.W.codeIn K cd_Pin_new "Pin.__init__" = true)
    (k_Pin_new : PySem.W.keepIn K (.ref f_Pin_new) = true)
    (a_Bars_pin : PySem.W.findIn K (.ref B) "pin" = some (some (.ref f_Bars_pin)))
    (i_Bars_pin : PySem.W.isFn K (.ref f_Bars_pin) = true)
    (l_Bars_pin : K.lookup f_Bars_pin = some ⟨oc_Bars_pin, od_Bars_pin, .func (PySem.W.fnOf "pin" "Bars.pin" (defArgs tx_Bars_pin) (defBody tx_Bars_pin) (defScope tx_Bars_pin) .none kv_Bars_pin dc_Bars_pin pm_Bars_pin an_Bars_pin cd_Bars_pin ct_Bars_pin), sl_Bars_pin⟩)
    (c_Bars_pin : PySem.W.codeIn K cd_Bars_pin "Bars.pin" = true)
    (k_Bars_pin : PySem.W.keepIn K (.ref f_Bars_pin) = true)
    (a_Pin_most : PySem.W.findIn K (.ref Pn) "most" = some (some (.ref f_Pin_most)))
    (i_Pin_most : PySem.W.isFn K (.ref f_Pin_most) = true)
    (l_Pin_most : K.lookup f_Pin_most = some ⟨oc_Pin_most, od_Pin_most, .func (PySem.W.fnOf "most" "Pin.most" (defArgs tx_Pin_most) (defBody tx_Pin_most) (defScope tx_Pin_most) .none kv_Pin_most dc_Pin_most pm_Pin_most an_Pin_most cd_Pin_most ct_Pin_most), sl_Pin_most⟩)
    (c_Pin_most : PySem.W.codeIn K cd_Pin_most "Pin.most" = true)
    (k_Pin_most : PySem.W.keepIn K (.ref f_Pin_most) = true)
    (a_Pin_least : PySem.W.findIn K (.ref Pn) "least" = some (some (.ref f_Pin_least)))
    (i_Pin_least : PySem.W.isFn K (.ref f_Pin_least) = true)
    (l_Pin_least : K.lookup f_Pin_least = some ⟨oc_Pin_least, od_Pin_least, .func (PySem.W.fnOf "least" "Pin.least" (defArgs tx_Pin_least) (defBody tx_Pin_least) (defScope tx_Pin_least) .none kv_Pin_least dc_Pin_least pm_Pin_least an_Pin_least cd_Pin_least ct_Pin_least), sl_Pin_least⟩)
    (c_Pin_least : PySem.W.codeIn K cd_Pin_least "Pin.least" = true)
    (k_Pin_least : PySem.W.keepIn K (.ref f_Pin_least) = true)
    (a_Pin_can_be : PySem.W.findIn K (.ref Pn) "can_be" = some (some (.ref f_Pin_can_be)))
    (i_Pin_can_be : PySem.W.isFn K (.ref f_Pin_can_be) = true)
    (l_Pin_can_be : K.lookup f_Pin_can_be = some ⟨oc_Pin_can_be, od_Pin_can_be, .func (PySem.W.fnOf "can_be" "Pin.can_be" (defArgs tx_Pin_can_be) (defBody tx_Pin_can_be) (defScope tx_Pin_can_be) .none kv_Pin_can_be dc_Pin_can_be pm_Pin_can_be an_Pin_can_be cd_Pin_can_be ct_Pin_can_be), sl_Pin_can_be⟩)
    (c_Pin_can_be : PySem.W.codeIn K cd_Pin_can_be "Pin.can_be" = true)
    (k_Pin_can_be : PySem.W.keepIn K (.ref f_Pin_can_be) = true)
    (a_common : PySem.W.nsIn K mainGlobals "common" = some (some (.ref f_common)))
    (l_common : K.lookup f_common = some ⟨oc_common, od_common, .func (PySem.W.fnOf "common" "common" (defArgs tx_common) (defBody tx_common) (defScope tx_common) .none kv_common dc_common pm_common an_common cd_common ct_common), sl_common⟩)
    (c_common : PySem.W.codeIn K cd_common "common" = true)
    (k_common : PySem.W.keepIn K (.ref f_common) = true)
    (a_fraction : PySem.W.nsIn K mainGlobals "fraction" = some (some (.ref f_fraction)))
    (l_fraction : K.lookup f_fraction = some ⟨oc_fraction, od_fraction, .func (PySem.W.fnOf "fraction" "fraction" (defArgs tx_fraction) (defBody tx_fraction) (defScope tx_fraction) .none kv_fraction dc_fraction pm_fraction an_fraction cd_fraction ct_fraction), sl_fraction⟩)
    (c_fraction : PySem.W.codeIn K cd_fraction "fraction" = true)
    (k_fraction : PySem.W.keepIn K (.ref f_fraction) = true)
    (a_Pin_cosine : PySem.W.findIn K (.ref Pn) "cosine" = some (some (.ref f_Pin_cosine)))
    (i_Pin_cosine : PySem.W.isFn K (.ref f_Pin_cosine) = true)
    (l_Pin_cosine : K.lookup f_Pin_cosine = some ⟨oc_Pin_cosine, od_Pin_cosine, .func (PySem.W.fnOf "cosine" "Pin.cosine" (defArgs tx_Pin_cosine) (defBody tx_Pin_cosine) (defScope tx_Pin_cosine) .none kv_Pin_cosine dc_Pin_cosine pm_Pin_cosine an_Pin_cosine cd_Pin_cosine ct_Pin_cosine), sl_Pin_cosine⟩)
    (c_Pin_cosine : PySem.W.codeIn K cd_Pin_cosine "Pin.cosine" = true)
    (k_Pin_cosine : PySem.W.keepIn K (.ref f_Pin_cosine) = true)
    (a_cosine_beside : PySem.W.nsIn K mainGlobals "cosine_beside" = some (some (.ref f_cosine_beside)))
    (l_cosine_beside : K.lookup f_cosine_beside = some ⟨oc_cosine_beside, od_cosine_beside, .func (PySem.W.fnOf "cosine_beside" "cosine_beside" (defArgs tx_cosine_beside) (defBody tx_cosine_beside) (defScope tx_cosine_beside) .none kv_cosine_beside dc_cosine_beside pm_cosine_beside an_cosine_beside cd_cosine_beside ct_cosine_beside), sl_cosine_beside⟩)
    (c_cosine_beside : PySem.W.codeIn K cd_cosine_beside "cosine_beside" = true)
    (k_cosine_beside : PySem.W.keepIn K (.ref f_cosine_beside) = true)
    (a_line_at : PySem.W.nsIn K mainGlobals "line_at" = some (some (.ref f_line_at)))
    (l_line_at : K.lookup f_line_at = some ⟨oc_line_at, od_line_at, .func (PySem.W.fnOf "line_at" "line_at" (defArgs tx_line_at) (defBody tx_line_at) (defScope tx_line_at) .none kv_line_at dc_line_at pm_line_at an_line_at cd_line_at ct_line_at), sl_line_at⟩)
    (c_line_at : PySem.W.codeIn K cd_line_at "line_at" = true)
    (k_line_at : PySem.W.keepIn K (.ref f_line_at) = true)
    (a_line : PySem.W.nsIn K mainGlobals "line" = some (some (.ref f_line)))
    (l_line : K.lookup f_line = some ⟨oc_line, od_line, .func (PySem.W.fnOf "line" "line" (defArgs tx_line) (defBody tx_line) (defScope tx_line) .none kv_line dc_line pm_line an_line cd_line ct_line), sl_line⟩)
    (c_line : PySem.W.codeIn K cd_line "line" = true)
    (k_line : PySem.W.keepIn K (.ref f_line) = true)
    (zall : PySem.W.nsIn K mainGlobals "all" = some none)
    (gMOST_LENGTH : PySem.W.nsIn K mainGlobals "MOST_LENGTH" = some (some (.int 999 tkgMOST_LENGTH)))
    (zsorted : PySem.W.nsIn K mainGlobals "sorted" = some none)
    (gIN_LINE : PySem.W.nsIn K mainGlobals "IN_LINE" = some (some (.int 1 tkgIN_LINE)))
    (zint : PySem.W.nsIn K mainGlobals "int" = some none)
    (gEVEN : PySem.W.nsIn K mainGlobals "EVEN" = some (some (.int 6 tkgEVEN)))
    (gNO_FIGURE : PySem.W.nsIn K mainGlobals "NO_FIGURE" = some (some (.int 0 tkgNO_FIGURE)))
    (zrange : PySem.W.nsIn K mainGlobals "range" = some none)
    (zabs : PySem.W.nsIn K mainGlobals "abs" = some none) :
    ∃ fd : FuncData, (∀ (s : Shared) (us : List Value), us.length = (["g", "a", "c", "r", "pin", "folded", "other"] : List Str).length → BindsTo s fd ⟨us, []⟩ ((["g", "a", "c", "r", "pin", "folded", "other"] : List Str).zip us)) ∧ ∀ base : Heap, K.In base → base.Ns mainGlobals mg → FnOk P w K mg base CX0 6 fa fd ["g", "a", "c", "r", "pin", "folded", "other"] (spLine) := by
  have e := hfa.symm.trans (PySem.W.mg_of X G a_line)
  cases e
  have oex : OexC K R := ⟨⟨nm, qn, NN, bs, _, sn, sub, ab, col, dd, m0, m1, m2, m3, m5, xL, by decide +kernel⟩, sa, bR, tyR, kR⟩
  have gR := PySem.W.mg_of X G aR
  have xR : XfC K R := ⟨ga, gg, bR, hdR⟩
  have eR := exm_same bR isR tyR suR
  have F_Refused_new := fun_mk (st := tx_Refused_new) l_Refused_new c_Refused_new k_Refused_new
  have b_Refused_new := F_Refused_new.binds (ps := ["self", "code"]) fun _ _ _ _ _ _ us hl => match us, hl with | [_, _], _ => rfl
  have F_must := fun_mk (st := tx_must) l_must c_must k_must
  have b_must := F_must.binds (ps := ["is_so", "code"]) fun _ _ _ _ _ _ us hl => match us, hl with | [_, _], _ => rfl
  have F_Bars_new := fun_mk (st := tx_Bars_new) l_Bars_new c_Bars_new k_Bars_new
  have b_Bars_new := F_Bars_new.binds (ps := ["self", "lengths"]) fun _ _ _ _ _ _ us hl => match us, hl with | [_, _], _ => rfl
  have F_Bars_kind := fun_mk (st := tx_Bars_kind) l_Bars_kind c_Bars_kind k_Bars_kind
  have b_Bars_kind := F_Bars_kind.binds (ps := ["self"]) fun _ _ _ _ _ _ us hl => match us, hl with | [_], _ => rfl
  have F_Bars_must_be := fun_mk (st := tx_Bars_must_be) l_Bars_must_be c_Bars_must_be k_Bars_must_be
  have b_Bars_must_be := F_Bars_must_be.binds (ps := ["self"]) fun _ _ _ _ _ _ us hl => match us, hl with | [_], _ => rfl
  have F_Pin_new := fun_mk (st := tx_Pin_new) l_Pin_new c_Pin_new k_Pin_new
  have b_Pin_new := F_Pin_new.binds (ps := ["self", "one", "two", "behind_one", "behind_two"]) fun _ _ _ _ _ _ us hl => match us, hl with | [_, _, _, _, _], _ => rfl
  have F_Bars_pin := fun_mk (st := tx_Bars_pin) l_Bars_pin c_Bars_pin k_Bars_pin
  have b_Bars_pin := F_Bars_pin.binds (ps := ["self", "number"]) fun _ _ _ _ _ _ us hl => match us, hl with | [_, _], _ => rfl
  have F_Pin_most := fun_mk (st := tx_Pin_most) l_Pin_most c_Pin_most k_Pin_most
  have b_Pin_most := F_Pin_most.binds (ps := ["self"]) fun _ _ _ _ _ _ us hl => match us, hl with | [_], _ => rfl
  have F_Pin_least := fun_mk (st := tx_Pin_least) l_Pin_least c_Pin_least k_Pin_least
  have b_Pin_least := F_Pin_least.binds (ps := ["self"]) fun _ _ _ _ _ _ us hl => match us, hl with | [_], _ => rfl
  have F_Pin_can_be := fun_mk (st := tx_Pin_can_be) l_Pin_can_be c_Pin_can_be k_Pin_can_be
  have b_Pin_can_be := F_Pin_can_be.binds (ps := ["self", "distance"]) fun _ _ _ _ _ _ us hl => match us, hl with | [_, _], _ => rfl
  have F_common := fun_mk (st := tx_common) l_common c_common k_common
  have b_common := F_common.binds (ps := ["one", "other"]) fun _ _ _ _ _ _ us hl => match us, hl with | [_, _], _ => rfl
  have F_fraction := fun_mk (st := tx_fraction) l_fraction c_fraction k_fraction
  have b_fraction := F_fraction.binds (ps := ["over", "under"]) fun _ _ _ _ _ _ us hl => match us, hl with | [_, _], _ => rfl
  have F_Pin_cosine := fun_mk (st := tx_Pin_cosine) l_Pin_cosine c_Pin_cosine k_Pin_cosine
  have b_Pin_cosine := F_Pin_cosine.binds (ps := ["self", "distance"]) fun _ _ _ _ _ _ us hl => match us, hl with | [_, _], _ => rfl
  have F_cosine_beside := fun_mk (st := tx_cosine_beside) l_cosine_beside c_cosine_beside k_cosine_beside
  have b_cosine_beside := F_cosine_beside.binds (ps := ["own", "far", "side", "other", "distance"]) fun _ _ _ _ _ _ us hl => match us, hl with | [_, _, _, _, _], _ => rfl
  have F_line_at := fun_mk (st := tx_line_at) l_line_at c_line_at k_line_at
  have b_line_at := F_line_at.binds (ps := ["bars", "number", "folded", "other"]) fun _ _ _ _ _ _ us hl => match us, hl with | [_, _, _, _], _ => rfl
  have F_line := fun_mk (st := tx_line) l_line c_line k_line
  have clBars : Cls K B := ⟨pgB, hdB, poB, saB⟩
  have clPin : Cls K Pn := ⟨pgPn, hdPn, poPn, saPn⟩
  have hzall := PySem.W.mg_none_of X G zall
  have hgMOST_LENGTH := PySem.W.mg_of X G gMOST_LENGTH
  have hzsorted := PySem.W.mg_none_of X G zsorted
  have hgIN_LINE := PySem.W.mg_of X G gIN_LINE
  have hzint := PySem.W.mg_none_of X G zint
  have hgEVEN := PySem.W.mg_of X G gEVEN
  have hgNO_FIGURE := PySem.W.mg_of X G gNO_FIGURE
  have hzrange := PySem.W.mg_none_of X G zrange
  have hzabs := PySem.W.mg_none_of X G zabs
  refine ⟨PySem.W.fnOf "line" "line" (defArgs tx_line) (defBody tx_line) (defScope tx_line) .none kv_line dc_line pm_line an_line cd_line ct_line, fun s us hu => match us, hu with | [_, _, _, _, _, _, _], _ => .of_eq rfl, fun base _ _ => ?_⟩
  have cmust : Cal P w K mg base 3 "must" (spMust R) := ⟨_, _, _, ok_must F_must F_Refused_new oex nb a_Refused_new tRI b_Refused_new gR, PySem.W.mg_of X G a_must, k_must, b_must⟩
  have cBars_new : Mak P w K mg base 4 "Bars" B (spBI R B) := ⟨_, _, _, ok_Bars_new F_Bars_new cmust hzall hgMOST_LENGTH clBars nBars_lengths, ⟨mkB, a_Bars_new, i_Bars_new, kcB⟩, PySem.W.mg_of X G aB, b_Bars_new⟩
  have cBars_kind : Met P w K mg base 1 B "kind" (spBK B) := ⟨_, _, _, fn_up (ok_Bars_kind F_Bars_kind hzsorted clBars nBars_lengths hgIN_LINE hzint hgEVEN), ⟨a_Bars_kind, i_Bars_kind, k_Bars_kind⟩, b_Bars_kind⟩
  have cBars_must_be : Met P w K mg base 4 B "must_be" (spBM R B) := ⟨_, _, _, ok_Bars_must_be F_Bars_must_be cmust clBars cBars_kind hgNO_FIGURE, ⟨a_Bars_must_be, i_Bars_must_be, k_Bars_must_be⟩, b_Bars_must_be⟩
  have cPin_new : Mak P w K mg base 1 "Pin" Pn (spPinN Pn) := ⟨_, _, _, fn_up (ok_Pin_new F_Pin_new clPin nPin_one nPin_two nPin_behind_one nPin_behind_two), ⟨mkPn, a_Pin_new, i_Pin_new, kcPn⟩, PySem.W.mg_of X G aPn, b_Pin_new⟩
  have cBars_pin : Met P w K mg base 3 B "pin" (spBP B Pn) := ⟨_, _, _, fn_up (ok_Bars_pin F_Bars_pin hzrange clBars nBars_lengths cPin_new), ⟨a_Bars_pin, i_Bars_pin, k_Bars_pin⟩, b_Bars_pin⟩
  have cPin_most : Met P w K mg base 1 Pn "most" (spPinM Pn) := ⟨_, _, _, fn_up (ok_Pin_most F_Pin_most clPin nPin_one nPin_two), ⟨a_Pin_most, i_Pin_most, k_Pin_most⟩, b_Pin_most⟩
  have cPin_least : Met P w K mg base 1 Pn "least" (spPinL Pn) := ⟨_, _, _, fn_up (ok_Pin_least F_Pin_least hzabs clPin nPin_one nPin_two), ⟨a_Pin_least, i_Pin_least, k_Pin_least⟩, b_Pin_least⟩
  have cPin_can_be : Met P w K mg base 1 Pn "can_be" (spPinC Pn) := ⟨_, _, _, fn_up (ok_Pin_can_be F_Pin_can_be clPin nPin_behind_one nPin_behind_two hzabs), ⟨a_Pin_can_be, i_Pin_can_be, k_Pin_can_be⟩, b_Pin_can_be⟩
  have ccommon : Cal P w K mg base 1 "common" (spCo) := ⟨_, _, _, fn_up (ok_common F_common ), PySem.W.mg_of X G a_common, k_common, b_common⟩
  have cfraction : Cal P w K mg base 2 "fraction" (spFr) := ⟨_, _, _, fn_up (ok_fraction F_fraction ccommon hzabs), PySem.W.mg_of X G a_fraction, k_fraction, b_fraction⟩
  have cPin_cosine : Met P w K mg base 3 Pn "cosine" (spPinS Pn) := ⟨_, _, _, fn_up (ok_Pin_cosine F_Pin_cosine cfraction clPin nPin_one nPin_two), ⟨a_Pin_cosine, i_Pin_cosine, k_Pin_cosine⟩, b_Pin_cosine⟩
  have ccosine_beside : Cal P w K mg base 3 "cosine_beside" (spCB) := ⟨_, _, _, fn_up (ok_cosine_beside F_cosine_beside cfraction), PySem.W.mg_of X G a_cosine_beside, k_cosine_beside, b_cosine_beside⟩
  have cline_at : Cal P w K mg base 4 "line_at" (spLA R B) := ⟨_, _, _, ok_line_at F_line_at clBars cBars_pin clPin cPin_most cPin_least cPin_can_be cPin_cosine cmust ccosine_beside nPin_behind_one nPin_behind_two nPin_one nPin_two, PySem.W.mg_of X G a_line_at, k_line_at, b_line_at⟩
  exact ok_line F_line gR xR nb eR cBars_new cmust clBars cBars_must_be cline_at
end
end FW
open PySem PySem.W PyProof.Rows
set_option maxRecDepth 100000 in
set_option maxHeartbeats 0 in
theorem PySem.Challenge.cw_fourbars_s04_line_holds : PySem.Challenge.rw_fourbars_s04_line.Holds := by
  w_on; k_headS; (case hw => exact ⟨[.int 0, .int 0, .int 0, .int 0, .int 0, .int 0, .int 0], by decide +kernel, by decide +kernel⟩)
  k_fillS
  refine L2.walk_specK (r := PySem.Challenge.rw_fourbars_s04_line) (k := 6) (CX := L2.CX0) (ps := ["g", "a", "c", "r", "pin", "folded", "other"]) (sp := fun _ => FW.spLine) (by decide +kernel) rfl rfl ⟨rfl, by decide, by decide⟩ (fun w h Y => PySem.W.kIn_of Y) ?F ?S (fun _ _ _ _ z => z)
  case F =>
    intro w mg fa h Y KX G hmg
    refine' FW.all_mk KX G hmg ?aR ?xL ?sa ?ga ?gg ?nb ?kR ?bR ?tyR ?hdR ?isR ?suR ?aB ?pgB ?hdB ?poB ?saB ?mkB ?kcB ?aPn ?pgPn ?hdPn ?poPn ?saPn ?mkPn ?kcPn ?nRefused_code ?nBars_lengths ?nPin_one ?nPin_two ?nPin_behind_one ?nPin_behind_two ?a_Refused_new ?tRI ?l_Refused_new ?c_Refused_new ?k_Refused_new ?a_must ?l_must ?c_must ?k_must ?a_Bars_new ?i_Bars_new ?l_Bars_new ?c_Bars_new ?k_Bars_new ?a_Bars_kind ?i_Bars_kind ?l_Bars_kind ?c_Bars_kind ?k_Bars_kind ?a_Bars_must_be ?i_Bars_must_be ?l_Bars_must_be ?c_Bars_must_be ?k_Bars_must_be ?a_Pin_new ?i_Pin_new ?l_Pin_new ?c_Pin_new ?k_Pin_new ?a_Bars_pin ?i_Bars_pin ?l_Bars_pin ?c_Bars_pin ?k_Bars_pin ?a_Pin_most ?i_Pin_most ?l_Pin_most ?c_Pin_most ?k_Pin_most ?a_Pin_least ?i_Pin_least ?l_Pin_least ?c_Pin_least ?k_Pin_least ?a_Pin_can_be ?i_Pin_can_be ?l_Pin_can_be ?c_Pin_can_be ?k_Pin_can_be ?a_common ?l_common ?c_common ?k_common ?a_fraction ?l_fraction ?c_fraction ?k_fraction ?a_Pin_cosine ?i_Pin_cosine ?l_Pin_cosine ?c_Pin_cosine ?k_Pin_cosine ?a_cosine_beside ?l_cosine_beside ?c_cosine_beside ?k_cosine_beside ?a_line_at ?l_line_at ?c_line_at ?k_line_at ?a_line ?l_line ?c_line ?k_line ?zall ?gMOST_LENGTH ?zsorted ?gIN_LINE ?zint ?gEVEN ?gNO_FIGURE ?zrange ?zabs
    (case aR => k_is)
    (case xL => k_is)
    (case sa => k_is)
    (case ga => k_is)
    (case gg => k_is)
    (case nb => k_is)
    (case kR => k_is)
    (case bR => k_is)
    (case tyR => k_is)
    (case hdR => k_is)
    (case isR => k_is)
    (case suR => first | rfl | k_is)
    (case aB => k_is)
    (case pgB => k_is)
    (case hdB => k_is)
    (case poB => k_is)
    (case saB => k_is)
    (case mkB => k_is)
    (case kcB => k_is)
    (case aPn => k_is)
    (case pgPn => k_is)
    (case hdPn => k_is)
    (case poPn => k_is)
    (case saPn => k_is)
    (case mkPn => k_is)
    (case kcPn => k_is)
    (case nRefused_code => k_is)
    (case nBars_lengths => k_is)
    (case nPin_one => k_is)
    (case nPin_two => k_is)
    (case nPin_behind_one => k_is)
    (case nPin_behind_two => k_is)
    (case a_Refused_new => k_is)
    (case tRI => k_is)
    (case l_Refused_new => k_is)
    (case c_Refused_new => k_is)
    (case k_Refused_new => k_is)
    (case a_must => k_is)
    (case l_must => k_is)
    (case c_must => k_is)
    (case k_must => k_is)
    (case a_Bars_new => k_is)
    (case i_Bars_new => k_is)
    (case l_Bars_new => k_is)
    (case c_Bars_new => k_is)
    (case k_Bars_new => k_is)
    (case a_Bars_kind => k_is)
    (case i_Bars_kind => k_is)
    (case l_Bars_kind => k_is)
    (case c_Bars_kind => k_is)
    (case k_Bars_kind => k_is)
    (case a_Bars_must_be => k_is)
    (case i_Bars_must_be => k_is)
    (case l_Bars_must_be => k_is)
    (case c_Bars_must_be => k_is)
    (case k_Bars_must_be => k_is)
    (case a_Pin_new => k_is)
    (case i_Pin_new => k_is)
    (case l_Pin_new => k_is)
    (case c_Pin_new => k_is)
    (case k_Pin_new => k_is)
    (case a_Bars_pin => k_is)
    (case i_Bars_pin => k_is)
    (case l_Bars_pin => k_is)
    (case c_Bars_pin => k_is)
    (case k_Bars_pin => k_is)
    (case a_Pin_most => k_is)
    (case i_Pin_most => k_is)
    (case l_Pin_most => k_is)
    (case c_Pin_most => k_is)
    (case k_Pin_most => k_is)
    (case a_Pin_least => k_is)
    (case i_Pin_least => k_is)
    (case l_Pin_least => k_is)
    (case c_Pin_least => k_is)
    (case k_Pin_least => k_is)
    (case a_Pin_can_be => k_is)
    (case i_Pin_can_be => k_is)
    (case l_Pin_can_be => k_is)
    (case c_Pin_can_be => k_is)
    (case k_Pin_can_be => k_is)
    (case a_common => k_is)
    (case l_common => k_is)
    (case c_common => k_is)
    (case k_common => k_is)
    (case a_fraction => k_is)
    (case l_fraction => k_is)
    (case c_fraction => k_is)
    (case k_fraction => k_is)
    (case a_Pin_cosine => k_is)
    (case i_Pin_cosine => k_is)
    (case l_Pin_cosine => k_is)
    (case c_Pin_cosine => k_is)
    (case k_Pin_cosine => k_is)
    (case a_cosine_beside => k_is)
    (case l_cosine_beside => k_is)
    (case c_cosine_beside => k_is)
    (case k_cosine_beside => k_is)
    (case a_line_at => k_is)
    (case l_line_at => k_is)
    (case c_line_at => k_is)
    (case k_line_at => k_is)
    (case a_line => k_is)
    (case l_line => k_is)
    (case c_line => k_is)
    (case k_line => k_is)
    (case zall => k_is)
    (case gMOST_LENGTH => k_is)
    (case zsorted => k_is)
    (case gIN_LINE => k_is)
    (case zint => k_is)
    (case gEVEN => k_is)
    (case gNO_FIGURE => k_is)
    (case zrange => k_is)
    (case zabs => k_is)
  case S =>
    intro K H xs a hO hwi hask hx
    have e := L2.ints_dw [a.1, a.2.1, a.2.2.1, a.2.2.2.1, a.2.2.2.2.1, a.2.2.2.2.2.1, a.2.2.2.2.2.2.1] xs hx
    subst e
    obtain ⟨x0, x1, x2, x3, x4, x5, x6, u⟩ := a
    have q : (Codec.inInt 0 9223372036854775807 x0 && (Codec.inInt 0 9223372036854775807 x1 && (Codec.inInt 0 9223372036854775807 x2 && (Codec.inInt 0 9223372036854775807 x3 && (Codec.inInt 0 9223372036854775807 x4 && (Codec.inInt 0 9223372036854775807 x5 && (Codec.inInt 0 9223372036854775807 x6 && true))))))) = true := hwi
    rw [Bool.and_eq_true, Bool.and_eq_true, Bool.and_eq_true, Bool.and_eq_true, Bool.and_eq_true, Bool.and_eq_true, Bool.and_eq_true, Codec.inInt_iff, Codec.inInt_iff, Codec.inInt_iff, Codec.inInt_iff, Codec.inInt_iff, Codec.inInt_iff, Codec.inInt_iff] at q
    refine ⟨x0, x1, x2, x3, x4, x5, x6, rfl, fun p H' hp => ?_⟩
    show L2.Dw K H' (.ref p) (WData.list ((PyWqapbt.line x0 x1 x2 x3 x4 x5 x6).map WData.int))
    rw [FB.spec_line q.1.1 q.2.1.1 q.2.2.1.1 q.2.2.2.1.1 q.2.2.2.2.1.1 q.2.2.2.2.2.1.1 q.2.2.2.2.2.2.1.1]
    exact .lst (L2.SqL.of hp) (L2.dw_ints _)
#print axioms PySem.Challenge.cw_fourbars_s04_line_holds
