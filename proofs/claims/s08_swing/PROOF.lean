import PyProof.Rows.All
import Wide.All
import OpenK.AllK
import Wide.FinOn
import PyProof.EqAt
import PyProof.EqKinds
import PyProof.TupleCall
import Open.SpecLaws
import KE.OsGo
import HandS.ForSpec
import HandS.Comp
import HandS.ExcInit
import HandS.ExcField
import HandS.Evl
import HandS.NoneIn
import HandS.Wide
import PySem.Challenge.RW_fourbars_s08_swing
set_option Elab.async false
set_option linter.all false
set_option maxRecDepth 100000
set_option maxHeartbeats 8000000
/-! Four bars: plain law, part 1: lengths, kind. -/
namespace FB
open LkFour LkDSpec

/-- all four lengths told as they may be -/
def lensOk (g a c r : Int) : Bool :=
  (decide (1 ≤ g) && decide (g ≤ 999)) && ((decide (1 ≤ a) && decide (a ≤ 999)) && ((decide (1 ≤ c) && decide (c ≤ 999)) && (decide (1 ≤ r) && decide (r ≤ 999))))

theorem lensOk_iff {g a c r : Int} : lensOk g a c r = true ↔ (1 ≤ g ∧ g ≤ 999) ∧ (1 ≤ a ∧ a ≤ 999) ∧ (1 ≤ c ∧ c ≤ 999) ∧ (1 ≤ r ∧ r ≤ 999) := by
  simp [lensOk]

/-- the kind, over rising lengths x0 ≤ x1 ≤ x2 ≤ x3 -/
def kindR (g a c x0 x1 x2 x3 : Int) : Int :=
  if x0 + (x1 + x2) ≤ x3 then (if x0 + (x1 + x2) < x3 then 0 else 1)
  else if x0 + x3 < x1 + x2 then (if g = x0 then 2 else if a = x0 then 3 else if c = x0 then 4 else 5)
  else if x1 + x2 < x0 + x3 then 7 else 6

/-- the kind, as the specification has it -/
def kindI (g a c r : Int) : Int := ((Neutral.four g a c r).kind : Nat)

theorem isLength_iff {n : Nat} : isLength n = true ↔ 1 ≤ n ∧ n ≤ 999 := by
  unfold isLength
  rw [Bool.and_eq_true, decide_eq_true_iff, decide_eq_true_iff]
  exact Iff.rfl

theorem four_lens (g a c r : Int) (hg : 0 ≤ g) (ha : 0 ≤ a) (hc : 0 ≤ c) (hr : 0 ≤ r) : lengths (Neutral.four g a c r) = lensOk g a c r := by
  rw [Bool.eq_iff_iff, lensOk_iff]
  unfold lengths
  rw [Bool.and_eq_true, Bool.and_eq_true, Bool.and_eq_true, isLength_iff, isLength_iff, isLength_iff, isLength_iff]
  show (1 ≤ g.toNat ∧ g.toNat ≤ 999) ∧ (1 ≤ a.toNat ∧ a.toNat ≤ 999) ∧ (1 ≤ c.toNat ∧ c.toNat ≤ 999) ∧ (1 ≤ r.toNat ∧ r.toNat ≤ 999) ↔ _
  omega

theorem perm_sum : ∀ {l m : List Int}, l.Perm m → l.sum = m.sum := by
  intro l m h
  induction h with
  | nil => rfl
  | cons x _ ih => simp [ih]
  | swap x y l => simp; omega
  | trans _ _ h1 h2 => exact h1.trans h2

theorem or_bounds {x0 x1 x2 x3 g : Int} (h01 : x0 ≤ x1) (h12 : x1 ≤ x2) (h23 : x2 ≤ x3) (h : g = x0 ∨ g = x1 ∨ g = x2 ∨ g = x3) : x0 ≤ g ∧ g ≤ x3 := by
  omega

theorem longest_of {g a c r x3 : Int} (m3 : x3 = g ∨ x3 = a ∨ x3 = c ∨ x3 = r) (h0 : 0 ≤ x3) (bg : g ≤ x3) (ba : a ≤ x3) (bc : c ≤ x3) (br : r ≤ x3) :
    ((Neutral.four g a c r).longest : Int) = x3 := by
  show ((max (max g.toNat a.toNat) (max c.toNat r.toNat) : Nat) : Int) = x3
  have e := Int.toNat_of_nonneg h0
  have e1 : g.toNat ≤ x3.toNat := by omega
  have e2 : a.toNat ≤ x3.toNat := by omega
  have e3 : c.toNat ≤ x3.toNat := by omega
  have e4 : r.toNat ≤ x3.toNat := by omega
  have e5 : max (max g.toNat a.toNat) (max c.toNat r.toNat) = x3.toNat := by
    refine Nat.le_antisymm (Nat.max_le.2 ⟨Nat.max_le.2 ⟨e1, e2⟩, Nat.max_le.2 ⟨e3, e4⟩⟩) ?_
    rcases m3 with h | h | h | h <;> subst h
    · exact Nat.le_trans (Nat.le_max_left _ _) (Nat.le_max_left _ _)
    · exact Nat.le_trans (Nat.le_max_right _ _) (Nat.le_max_left _ _)
    · exact Nat.le_trans (Nat.le_max_left _ _) (Nat.le_max_right _ _)
    · exact Nat.le_trans (Nat.le_max_right _ _) (Nat.le_max_right _ _)
  rw [e5, e]

theorem shortest_of {g a c r x0 : Int} (m0 : x0 = g ∨ x0 = a ∨ x0 = c ∨ x0 = r) (h0 : 0 ≤ x0) (bg : x0 ≤ g) (ba : x0 ≤ a) (bc : x0 ≤ c) (br : x0 ≤ r) :
    ((Neutral.four g a c r).shortest : Int) = x0 := by
  show ((min (min g.toNat a.toNat) (min c.toNat r.toNat) : Nat) : Int) = x0
  have e := Int.toNat_of_nonneg h0
  have e1 : x0.toNat ≤ g.toNat := by omega
  have e2 : x0.toNat ≤ a.toNat := by omega
  have e3 : x0.toNat ≤ c.toNat := by omega
  have e4 : x0.toNat ≤ r.toNat := by omega
  have e5 : min (min g.toNat a.toNat) (min c.toNat r.toNat) = x0.toNat := by
    refine Nat.le_antisymm ?_ (Nat.le_min.2 ⟨Nat.le_min.2 ⟨e1, e2⟩, Nat.le_min.2 ⟨e3, e4⟩⟩)
    rcases m0 with h | h | h | h <;> subst h
    · exact Nat.le_trans (Nat.min_le_left _ _) (Nat.min_le_left _ _)
    · exact Nat.le_trans (Nat.min_le_left _ _) (Nat.min_le_right _ _)
    · exact Nat.le_trans (Nat.min_le_right _ _) (Nat.min_le_left _ _)
    · exact Nat.le_trans (Nat.min_le_right _ _) (Nat.min_le_right _ _)
  rw [e5, e]

theorem kind_core {L S T G A C : Nat} {g a c x0 x1 x2 x3 : Int} (eL : (L : Int) = x3) (eS : (S : Int) = x0) (eT : (T : Int) = x0 + x1 + x2 + x3) (eg : (G : Int) = g) (ea : (A : Int) = a) (ec : (C : Int) = c)
    (h01 : x0 ≤ x1) (h12 : x1 ≤ x2) (h23 : x2 ≤ x3) :
    ((if S + (T - L - S) < L then 0 else if S + (T - L - S) = L then 1 else if S + L < T - L - S then (if G = S then 2 else if A = S then 3 else if C = S then 4 else 5) else if S + L = T - L - S then 6 else 7 : Nat) : Int) = kindR g a c x0 x1 x2 x3 := by
  have eM : T - L - S = (x1 + x2).toNat := by omega
  have e0 : 0 ≤ x1 + x2 := by omega
  have eM' : ((T - L - S : Nat) : Int) = x1 + x2 := by omega
  generalize T - L - S = M at *
  clear eM
  unfold kindR
  by_cases k1 : S + M < L
  · rw [if_pos k1, if_pos (show x0 + (x1 + x2) ≤ x3 by omega), if_pos (show x0 + (x1 + x2) < x3 by omega)]; rfl
  rw [if_neg k1]
  by_cases k2 : S + M = L
  · rw [if_pos k2, if_pos (show x0 + (x1 + x2) ≤ x3 by omega), if_neg (show ¬ x0 + (x1 + x2) < x3 by omega)]; rfl
  rw [if_neg k2, if_neg (show ¬ x0 + (x1 + x2) ≤ x3 by omega)]
  by_cases k3 : S + L < M
  · rw [if_pos k3, if_pos (show x0 + x3 < x1 + x2 by omega)]
    by_cases j1 : G = S
    · rw [if_pos j1, if_pos (show g = x0 by omega)]; rfl
    rw [if_neg j1, if_neg (show ¬ g = x0 by omega)]
    by_cases j2 : A = S
    · rw [if_pos j2, if_pos (show a = x0 by omega)]; rfl
    rw [if_neg j2, if_neg (show ¬ a = x0 by omega)]
    by_cases j3 : C = S
    · rw [if_pos j3, if_pos (show c = x0 by omega)]; rfl
    rw [if_neg j3, if_neg (show ¬ c = x0 by omega)]; rfl
  rw [if_neg k3, if_neg (show ¬ x0 + x3 < x1 + x2 by omega)]
  by_cases k4 : S + L = M
  · rw [if_pos k4, if_neg (show ¬ x1 + x2 < x0 + x3 by omega)]; rfl
  rw [if_neg k4, if_pos (show x1 + x2 < x0 + x3 by omega)]; rfl

theorem kind_rising {g a c r x0 x1 x2 x3 : Int} (hg : 0 ≤ g) (ha : 0 ≤ a) (hc : 0 ≤ c) (hr : 0 ≤ r)
    (hp : [x0, x1, x2, x3].Perm [g, a, c, r]) (h01 : x0 ≤ x1) (h12 : x1 ≤ x2) (h23 : x2 ≤ x3) :
    kindI g a c r = kindR g a c x0 x1 x2 x3 := by
  have hs := perm_sum hp
  simp only [List.sum_cons, List.sum_nil] at hs
  have m0 : x0 ∈ [g, a, c, r] := hp.mem_iff.1 (by simp)
  have m3 : x3 ∈ [g, a, c, r] := hp.mem_iff.1 (by simp)
  have ng : g ∈ [x0, x1, x2, x3] := hp.mem_iff.2 (by simp)
  have na : a ∈ [x0, x1, x2, x3] := hp.mem_iff.2 (by simp)
  have nc : c ∈ [x0, x1, x2, x3] := hp.mem_iff.2 (by simp)
  have nr : r ∈ [x0, x1, x2, x3] := hp.mem_iff.2 (by simp)
  simp only [List.mem_cons, List.not_mem_nil, or_false] at m0 m3 ng na nc nr
  have bg := or_bounds h01 h12 h23 ng
  have ba := or_bounds h01 h12 h23 na
  have bc := or_bounds h01 h12 h23 nc
  have br := or_bounds h01 h12 h23 nr
  clear ng na nc nr hp
  have p3 : 0 ≤ x3 := by omega
  have p0 : 0 ≤ x0 := by rcases m0 with h | h | h | h <;> (rw [h]; assumption)
  have eL := longest_of m3 p3 bg.2 ba.2 bc.2 br.2
  have eS := shortest_of m0 p0 bg.1 ba.1 bc.1 br.1
  have eT : ((Neutral.four g a c r).sum : Int) = x0 + x1 + x2 + x3 := by
    show ((g.toNat + a.toNat + c.toNat + r.toNat : Nat) : Int) = x0 + x1 + x2 + x3
    clear m0 m3
    omega
  exact kind_core eL eS eT (Int.toNat_of_nonneg hg) (Int.toNat_of_nonneg ha) (Int.toNat_of_nonneg hc) h01 h12 h23
end FB
/-! Four bars: plain law, part 2: pins, cosines, lines. -/
namespace FB
open LkFour LkDSpec

def ab (i : Int) : Int := if i < 0 then -i else i
/-- a fraction in lowest terms -/
def fr (o u : Int) : List Int := [o / ((Int.gcd o u : Nat) : Int), u / ((Int.gcd o u : Nat) : Int)]
def nth (g a c r k : Int) : Int := if k = 0 then g else if k = 1 then a else if k = 2 then c else r
def canBe (w z d : Int) : Bool := decide (ab (w - z) ≤ d) && decide (d ≤ w + z)
def cosI (u v d : Int) : List Int := fr (u * u + v * v - d * d) (2 * u * v)
def mn (i j : Int) : Int := if j < i then j else i
def mx (i j : Int) : Int := if j > i then j else i
/-- a pin's bars: u, v meet there; w goes on from u, z from v -/
structure P4 where
  u : Int
  v : Int
  w : Int
  z : Int
def pinI (g a c r n : Int) : P4 := ⟨nth g a c r ((n + 0) % 4), nth g a c r ((n + 1) % 4), nth g a c r ((n + 3) % 4), nth g a c r ((n + 2) % 4)⟩
def fullI (p : P4) : Bool := canBe p.w p.z (ab (p.u - p.v)) && canBe p.w p.z (p.u + p.v)
def rangeI (p : P4) : List Int := cosI p.u p.v (mn (p.u + p.v) (p.w + p.z)) ++ cosI p.u p.v (mx (ab (p.u - p.v)) (ab (p.w - p.z)))
def besideI (own far side other d : Int) : List Int :=
  if d = own + far ∨ far < own then fr (d * d + side * side - other * other) (2 * d * side) else fr (0 - (d * d + side * side - other * other)) (2 * d * side)
def lineI (g a c r n folded other : Int) : List Int :=
  let p := pinI g a c r n
  let d := if folded = 1 then ab (p.u - p.v) else p.u + p.v
  if canBe p.w p.z d = false then [0, 0]
  else if (n + 2) % 4 = other then [1, 2] ++ cosI (pinI g a c r other).u (pinI g a c r other).v d
  else if d ≤ 0 then [-5]
  else if (n + 1) % 4 = other then [1, 2] ++ besideI p.v p.u p.z p.w d
  else [1, 2] ++ besideI p.u p.v p.w p.z d

def ansKind (g a c r : Int) : List Int := if lensOk g a c r = false then [-1] else [kindI g a c r]
def ansFull (g a c r pin : Int) : List Int :=
  if lensOk g a c r = false then [-1] else if ¬ pin ≤ 3 then [-1] else if kindI g a c r = 0 then [-2] else [if fullI (pinI g a c r pin) = true then 1 else 0]
def ansRange (g a c r pin : Int) : List Int :=
  if lensOk g a c r = false then [-1] else if ¬ pin ≤ 3 then [-1] else if kindI g a c r = 0 then [-2] else [0, 4] ++ rangeI (pinI g a c r pin)
def ansLine (g a c r pin folded other : Int) : List Int :=
  if lensOk g a c r = false then [-1] else if ¬ (pin ≤ 3 ∧ other ≤ 3 ∧ other ≠ pin ∧ folded ≤ 1) then [-1] else if kindI g a c r = 0 then [-2] else lineI g a c r pin folded other
def ansCircuits (g a c r : Int) : List Int :=
  if lensOk g a c r = false then [-1] else if kindI g a c r = 0 then [0] else [1 + (if 2 ≤ kindI g a c r ∧ kindI g a c r ≤ 5 then 1 else 0)]

/-! ### the specification's own words opened -/
theorem whole4 {g a c r : Int} (hg : 0 ≤ g) (ha : 0 ≤ a) (hc : 0 ≤ c) (hr : 0 ≤ r) : Neutral.whole [g, a, c, r] = true := by
  simp [Neutral.whole, *]
theorem spec_kind {g a c r : Int} (hg : 0 ≤ g) (ha : 0 ≤ a) (hc : 0 ≤ c) (hr : 0 ≤ r) : PyWqapbt.kind g a c r = ansKind g a c r := by
  have e : PyWqapbt.kind g a c r = Neutral.shown (answer ⟨Neutral.four g a c r, .kind⟩) := by
    simp only [PyWqapbt.kind, Neutral.step, Neutral.callOf, if_pos (whole4 hg ha hc hr), LkDSpec.step]
  rw [e]
  unfold answer ansKind
  dsimp only
  rw [four_lens g a c r hg ha hc hr]
  by_cases k : lensOk g a c r = false
  · rw [if_pos k, if_pos (Or.inl k)]; rfl
  · rw [if_neg k, if_neg (by intro q; rcases q with q | q; exact k q; cases q)]; rfl
theorem spec_circuits {g a c r : Int} (hg : 0 ≤ g) (ha : 0 ≤ a) (hc : 0 ≤ c) (hr : 0 ≤ r) : PyWqapbt.circuits g a c r = ansCircuits g a c r := by
  have e : PyWqapbt.circuits g a c r = Neutral.shown (answer ⟨Neutral.four g a c r, .circuits⟩) := by
    simp only [PyWqapbt.circuits, Neutral.step, Neutral.callOf, if_pos (whole4 hg ha hc hr), LkDSpec.step]
  rw [e]
  unfold answer ansCircuits
  dsimp only
  rw [four_lens g a c r hg ha hc hr]
  by_cases k : lensOk g a c r = false
  · rw [if_pos k, if_pos (Or.inl k)]; rfl
  · rw [if_neg k, if_neg (by intro q; rcases q with q | q; exact k q; cases q)]
    show [(((Neutral.four g a c r).circuits : Nat) : Int)] = _
    unfold Four.circuits kindI
    generalize (Neutral.four g a c r).kind = K
    by_cases k0 : K = 0
    · rw [if_pos k0, if_pos (show (K : Int) = 0 by omega)]; rfl
    · rw [if_neg k0, if_neg (show ¬ (K : Int) = 0 by omega)]
      by_cases k1 : 2 ≤ K ∧ K ≤ 5
      · rw [if_pos k1, if_pos (show 2 ≤ (K : Int) ∧ (K : Int) ≤ 5 by omega)]; rfl
      · rw [if_neg k1, if_neg (show ¬ (2 ≤ (K : Int) ∧ (K : Int) ≤ 5) by omega)]; rfl

theorem two_div (a b : Int) (hb : 0 < b) : two ((a : Rat) / (b : Rat)) = fr a b := by
  rw [← Rat.divInt_eq_div]
  unfold two fr
  rw [Rat.num_divInt, Rat.den_divInt, if_neg (by omega), Int.sign_eq_one_of_pos hb, Int.one_mul, Int.gcd_comm]
  congr 1
  congr 1
  rw [Int.natCast_ediv]; congr 1; omega
theorem two_cosine {u v : Nat} {s : Int} (hu : 1 ≤ u) (hv : 1 ≤ v) : two (cosine u v s) = fr ((u : Int) * u + (v : Int) * v - s) (2 * (u : Int) * v) := by
  have p : 0 < 2 * (u : Int) * v := Int.mul_pos (by omega) (by omega)
  rw [← two_div _ _ p]
  unfold cosine
  congr 1
  congr 1
  · rw [Rat.intCast_sub]; rfl
theorem ab_le {x y : Int} : ab x ≤ y ↔ x ≤ y ∧ -x ≤ y := by
  unfold ab; split <;> omega
theorem ab_nonneg (x : Int) : 0 ≤ ab x := by
  unfold ab; split <;> omega
theorem ab_sq (x : Int) : ab x * ab x = x * x := by
  unfold ab; split
  · rw [Int.neg_mul_neg]
  · rfl
theorem gap_cast (x y : Nat) : ((gap x y : Nat) : Int) = ab ((x : Int) - y) := by
  unfold gap ab; split <;> omega
end FB
/-! Four bars: plain law, part 3: full, range_of, line against the specification. -/
namespace FB
open LkFour LkDSpec

theorem four_cases {n : Int} (h0 : 0 ≤ n) (h3 : n ≤ 3) : n = 0 ∨ n = 1 ∨ n = 2 ∨ n = 3 := by omega
theorem at_pin {g a c r n : Int} (h0 : 0 ≤ n) (h3 : n ≤ 3) :
    (Neutral.four g a c r).at_ n.toNat = ((pinI g a c r n).u.toNat, (pinI g a c r n).v.toNat, (pinI g a c r n).w.toNat, (pinI g a c r n).z.toNat) := by
  rcases four_cases h0 h3 with h | h | h | h <;> subst h <;> rfl
theorem nth_ok {g a c r : Int} (h : lensOk g a c r = true) (k : Int) : 1 ≤ nth g a c r k ∧ nth g a c r k ≤ 999 := by
  have q := lensOk_iff.1 h
  unfold nth
  split
  · exact q.1
  · split
    · exact q.2.1
    · split
      · exact q.2.2.1
      · exact q.2.2.2
theorem canBe_iff {w z d : Int} : canBe w z d = true ↔ ab (w - z) ≤ d ∧ d ≤ w + z := by
  unfold canBe
  rw [Bool.and_eq_true, decide_eq_true_iff, decide_eq_true_iff]
theorem full_core (U V W Z : Nat) : (decide (U + V ≤ W + Z) && decide (gap W Z ≤ gap U V)) = fullI ⟨U, V, W, Z⟩ := by
  rw [Bool.eq_iff_iff]
  unfold fullI
  rw [Bool.and_eq_true, decide_eq_true_iff, decide_eq_true_iff, Bool.and_eq_true, canBe_iff, canBe_iff]
  have g1 := gap_cast W Z
  have g2 := gap_cast U V
  have k1 : ab ((U : Int) - V) ≤ U + V := by rw [ab_le]; omega
  dsimp only
  omega
theorem fr_neg_self {k : Int} (h : 0 < k) : fr (-k) k = [-1, 1] := by
  unfold fr
  rw [Int.neg_gcd, Int.gcd_self]
  have e : ((k.natAbs : Nat) : Int) = k := by omega
  rw [e, Int.neg_ediv_self _ (by omega), Int.ediv_self (by omega)]
theorem fr_self {k : Int} (h : 0 < k) : fr k k = [1, 1] := by
  unfold fr
  rw [Int.gcd_self]
  have e : ((k.natAbs : Nat) : Int) = k := by omega
  rw [e, Int.ediv_self (by omega)]
theorem cos_far {u v : Int} (hu : 1 ≤ u) (hv : 1 ≤ v) : cosI u v (u + v) = [-1, 1] := by
  have p : 0 < 2 * u * v := Int.mul_pos (by omega) (by omega)
  rw [← fr_neg_self p]
  unfold cosI
  congr 1
  grind
theorem cos_near {u v : Int} (hu : 1 ≤ u) (hv : 1 ≤ v) : cosI u v (ab (u - v)) = [1, 1] := by
  have p : 0 < 2 * u * v := Int.mul_pos (by omega) (by omega)
  rw [← fr_self p]
  unfold cosI
  rw [ab_sq]
  congr 1
  grind
theorem range_core {U V W Z : Nat} (hu : 1 ≤ U) (hv : 1 ≤ V) :
    two (if U + V ≤ W + Z then -1 else cosine U V (((W + Z) * (W + Z) : Nat) : Int)) ++ two (if gap W Z ≤ gap U V then 1 else cosine U V ((gap W Z * gap W Z : Nat) : Int)) = rangeI ⟨U, V, W, Z⟩ := by
  have g1 := gap_cast W Z
  have g2 := gap_cast U V
  unfold rangeI
  dsimp only
  congr 1
  · by_cases k : U + V ≤ W + Z
    · rw [if_pos k]
      have e : mn ((U : Int) + V) (W + Z) = U + V := by unfold mn; rw [if_neg (by omega)]
      rw [e, cos_far (by omega) (by omega)]
      rfl
    · rw [if_neg k]
      have e : mn ((U : Int) + V) (W + Z) = W + Z := by unfold mn; rw [if_pos (by omega)]
      rw [e, two_cosine hu hv]
      unfold cosI
      rw [Int.natCast_mul, Int.natCast_add]
  · by_cases k : gap W Z ≤ gap U V
    · rw [if_pos k]
      have e : mx (ab ((U : Int) - V)) (ab ((W : Int) - Z)) = ab ((U : Int) - V) := by unfold mx; rw [if_neg (by omega)]
      rw [e, cos_near (by omega) (by omega)]
      rfl
    · rw [if_neg k]
      have e : mx (ab ((U : Int) - V)) (ab ((W : Int) - Z)) = ab ((W : Int) - Z) := by unfold mx; rw [if_pos (by omega)]
      rw [e, two_cosine hu hv]
      unfold cosI
      rw [Int.natCast_mul, g1]

/-- a pin's bars as natural numbers -/
theorem pin_nats {g a c r : Int} (h : lensOk g a c r = true) (n : Int) :
    ∃ U V W Z : Nat, 1 ≤ U ∧ 1 ≤ V ∧ 1 ≤ W ∧ 1 ≤ Z ∧ pinI g a c r n = ⟨U, V, W, Z⟩ ∧ (pinI g a c r n).u.toNat = U ∧ (pinI g a c r n).v.toNat = V ∧ (pinI g a c r n).w.toNat = W ∧ (pinI g a c r n).z.toNat = Z := by
  have b0 := nth_ok h ((n + 0) % 4)
  have b1 := nth_ok h ((n + 1) % 4)
  have b2 := nth_ok h ((n + 2) % 4)
  have b3 := nth_ok h ((n + 3) % 4)
  unfold pinI
  revert b0 b1 b2 b3
  generalize nth g a c r ((n + 0) % 4) = u
  generalize nth g a c r ((n + 1) % 4) = v
  generalize nth g a c r ((n + 2) % 4) = z
  generalize nth g a c r ((n + 3) % 4) = w
  intro b0 b1 b2 b3
  refine ⟨u.toNat, v.toNat, w.toNat, z.toNat, by omega, by omega, by omega, by omega, ?_, rfl, rfl, rfl, rfl⟩
  rw [Int.toNat_of_nonneg (by omega), Int.toNat_of_nonneg (by omega), Int.toNat_of_nonneg (by omega), Int.toNat_of_nonneg (by omega)]

theorem whole5 {g a c r x : Int} (hg : 0 ≤ g) (ha : 0 ≤ a) (hc : 0 ≤ c) (hr : 0 ≤ r) (hx : 0 ≤ x) : Neutral.whole [g, a, c, r, x] = true := by
  simp [Neutral.whole, *]
theorem kind_zero {g a c r : Int} : kindI g a c r = 0 ↔ (Neutral.four g a c r).kind = 0 := by
  unfold kindI; omega
theorem spec_full {g a c r pin : Int} (hg : 0 ≤ g) (ha : 0 ≤ a) (hc : 0 ≤ c) (hr : 0 ≤ r) (hp : 0 ≤ pin) : PyWqapbt.full g a c r pin = ansFull g a c r pin := by
  have e : PyWqapbt.full g a c r pin = Neutral.shown (answer ⟨Neutral.four g a c r, .full pin.toNat⟩) := by
    simp only [PyWqapbt.full, Neutral.step, Neutral.callOf, if_pos (whole5 hg ha hc hr hp), LkDSpec.step]
  rw [e]
  unfold answer ansFull
  dsimp only
  rw [four_lens g a c r hg ha hc hr]
  by_cases k : lensOk g a c r = false
  · rw [if_pos k, if_pos (Or.inl k)]; rfl
  rw [if_neg k]
  by_cases k3 : pin ≤ 3
  · have q : fine (.full pin.toNat) = true := decide_eq_true (show pin.toNat ≤ 3 by omega)
    rw [if_neg (by intro w; rcases w with w | w; exact k w; rw [q] at w; cases w), if_neg (not_not_intro k3)]
    by_cases k0 : (Neutral.four g a c r).kind = 0
    · rw [if_pos k0, if_pos (kind_zero.2 k0)]; rfl
    rw [if_neg k0, if_neg (mt kind_zero.1 k0)]
    obtain ⟨U, V, W, Z, _, _, _, _, eP, e1, e2, e3, e4⟩ := pin_nats (Bool.not_eq_false _ ▸ k) pin
    have eF : (Neutral.four g a c r).full pin.toNat = fullI (pinI g a c r pin) := by
      unfold Four.full
      rw [at_pin hp k3, e1, e2, e3, e4, eP]
      exact full_core U V W Z
    rw [eF]
    by_cases kf : fullI (pinI g a c r pin) = true
    · rw [if_pos kf]; rfl
    · rw [if_neg kf]; rfl
  · have q : fine (.full pin.toNat) = false := decide_eq_false (show ¬ pin.toNat ≤ 3 by omega)
    rw [if_pos (Or.inr q), if_pos k3]; rfl
theorem spec_range {g a c r pin : Int} (hg : 0 ≤ g) (ha : 0 ≤ a) (hc : 0 ≤ c) (hr : 0 ≤ r) (hp : 0 ≤ pin) : PyWqapbt.range_of g a c r pin = ansRange g a c r pin := by
  have e : PyWqapbt.range_of g a c r pin = Neutral.shown (answer ⟨Neutral.four g a c r, .range pin.toNat⟩) := by
    simp only [PyWqapbt.range_of, Neutral.step, Neutral.callOf, if_pos (whole5 hg ha hc hr hp), LkDSpec.step]
  rw [e]
  unfold answer ansRange
  dsimp only
  rw [four_lens g a c r hg ha hc hr]
  by_cases k : lensOk g a c r = false
  · rw [if_pos k, if_pos (Or.inl k)]; rfl
  rw [if_neg k]
  by_cases k3 : pin ≤ 3
  · have q : fine (.range pin.toNat) = true := decide_eq_true (show pin.toNat ≤ 3 by omega)
    rw [if_neg (by intro w; rcases w with w | w; exact k w; rw [q] at w; cases w), if_neg (not_not_intro k3)]
    by_cases k0 : (Neutral.four g a c r).kind = 0
    · rw [if_pos k0, if_pos (kind_zero.2 k0)]; rfl
    rw [if_neg k0, if_neg (mt kind_zero.1 k0)]
    obtain ⟨U, V, W, Z, hU, hV, _, _, eP, e1, e2, e3, e4⟩ := pin_nats (Bool.not_eq_false _ ▸ k) pin
    have eF : two ((Neutral.four g a c r).range pin.toNat).1 ++ two ((Neutral.four g a c r).range pin.toNat).2 = rangeI (pinI g a c r pin) := by
      unfold Four.range
      rw [at_pin hp k3, e1, e2, e3, e4, eP]
      exact range_core hU hV
    rw [eF]
    show 0 :: (((rangeI (pinI g a c r pin)).length : Nat) : Int) :: (rangeI (pinI g a c r pin) ++ []) = _
    rw [List.append_nil]
    rfl
  · have q : fine (.range pin.toNat) = false := decide_eq_false (show ¬ pin.toNat ≤ 3 by omega)
    rw [if_pos (Or.inr q), if_pos k3]; rfl
end FB
/-! Four bars: plain law, part 4: line. -/
namespace FB
open LkFour LkDSpec
/-- the cosine beside, whatever the sign of the distance -/
theorem beside_core {U V W Z : Nat} {A : Int} (hU : 1 ≤ U) (hV : 1 ≤ V) (hW : 1 ≤ W) (hA : A ≠ 0) (h : A = (U : Int) + V ∨ A = (U : Int) - V) :
    two ((A * A + ((W * W : Nat) : Int) - ((Z * Z : Nat) : Int) : Rat) / (2 * A * (W : Int) : Rat)) = besideI U V W Z (A.natAbs : Int) := by
  have e1 : (A * A + ((W * W : Nat) : Int) - ((Z * Z : Nat) : Int) : Rat) = ((A * A + (W : Int) * W - (Z : Int) * Z : Int) : Rat) := by
    rw [Rat.intCast_sub, Rat.intCast_add, Rat.intCast_mul, Int.natCast_mul, Int.natCast_mul]
  have e2 : (2 * A * (W : Int) : Rat) = ((2 * A * (W : Int) : Int) : Rat) := by
    rw [Rat.intCast_mul, Rat.intCast_mul]; rfl
  rw [e1, e2]
  unfold besideI
  by_cases k : 0 < A
  · have ea : (A.natAbs : Int) = A := by omega
    rw [if_pos (by omega), ea, two_div _ _ (Int.mul_pos (by omega) (by omega))]
  · have ea : (A.natAbs : Int) = -A := by omega
    rw [if_neg (by omega), ea]
    have p : 0 < 2 * -A * (W : Int) := Int.mul_pos (by omega) (by omega)
    rw [← two_div _ _ p]
    congr 1
    rw [← Rat.divInt_eq_div, ← Rat.divInt_eq_div, ← Rat.neg_divInt_neg]
    congr 1 <;> grind
theorem inLine_core (W Z D : Nat) : (decide (gap W Z ≤ D) && decide (D ≤ W + Z)) = canBe W Z D := by
  rw [Bool.eq_iff_iff, canBe_iff, Bool.and_eq_true, decide_eq_true_iff, decide_eq_true_iff]
  have g1 := gap_cast W Z
  omega
/-- what's told of a line -/
def told (x : Option Rat) : List Int := match x with
  | some x => [1, 2] ++ two x
  | none => [-5]
def specLine (f : Four) (pin : Nat) (folded : Bool) (other : Nat) : List Int := if f.inLine pin folded = false then [0, 0] else told (f.lineCosine pin folded other)
theorem line_core {U V W Z : Nat} {A : Int} {n other : Int} (hU : 1 ≤ U) (hV : 1 ≤ V) (hW : 1 ≤ W) (hZ : 1 ≤ Z) (n0 : 0 ≤ n) (n3 : n ≤ 3) (o0 : 0 ≤ other) (o3 : other ≤ 3) (hne : other ≠ n) (B : Bool)
    (hA : A = if B = true then (U : Int) - V else (U : Int) + V) (d : Int) (hd : d = (A.natAbs : Int)) :
    told (if other.toNat = (n.toNat + 2) % 4 then some (cosine W Z (A * A))
      else if A = 0 then none
      else if other.toNat = (n.toNat + 3) % 4 then some ((A * A + ((W * W : Nat) : Int) - ((Z * Z : Nat) : Int) : Rat) / (2 * A * (W : Int) : Rat))
      else
        let e := if B = true then -A else A
        some ((A * A + ((Z * Z : Nat) : Int) - ((W * W : Nat) : Int) : Rat) / (2 * e * (Z : Int) : Rat))) =
    (if (n + 2) % 4 = other then [1, 2] ++ cosI Z W d
      else if d ≤ 0 then [-5]
      else if (n + 1) % 4 = other then [1, 2] ++ besideI V U Z W d
      else [1, 2] ++ besideI U V W Z d) := by
  by_cases k2 : (n + 2) % 4 = other
  · rw [if_pos k2, if_pos (show other.toNat = (n.toNat + 2) % 4 by omega)]
    show [1, 2] ++ two (cosine W Z (A * A)) = [1, 2] ++ cosI Z W d
    rw [two_cosine hW hZ]
    unfold cosI
    have e : d * d = A * A := by rw [hd, ← Int.natCast_mul, Int.natAbs_mul_self]
    rw [e]
    congr 2 <;> grind
  rw [if_neg k2, if_neg (show ¬ other.toNat = (n.toNat + 2) % 4 by omega)]
  by_cases k0 : A = 0
  · rw [if_pos k0, if_pos (show d ≤ 0 by omega)]; rfl
  rw [if_neg k0, if_neg (show ¬ d ≤ 0 by omega)]
  by_cases k1 : (n + 1) % 4 = other
  · rw [if_pos k1, if_neg (show ¬ other.toNat = (n.toNat + 3) % 4 by omega)]
    show [1, 2] ++ two _ = [1, 2] ++ besideI V U Z W d
    congr 1
    have hE : (if B = true then -A else A) ≠ 0 := by split <;> omega
    have hE2 : (if B = true then -A else A) = (V : Int) + U ∨ (if B = true then -A else A) = (V : Int) - U := by
      by_cases kb : B = true
      · rw [if_pos kb] at hA ⊢; omega
      · rw [if_neg kb] at hA ⊢; omega
    have q := beside_core (Z := W) hV hU hZ hE hE2
    have ee : d = ((if B = true then -A else A).natAbs : Int) := by rw [hd]; split <;> omega
    rw [ee, ← q]
    congr 1
    have sq : ((if B = true then -A else A : Int) : Rat) * ((if B = true then -A else A : Int) : Rat) = (A : Rat) * (A : Rat) := by
      split
      · rw [Rat.intCast_neg]; grind
      · rfl
    rw [sq]
  · rw [if_neg k1, if_pos (show other.toNat = (n.toNat + 3) % 4 by omega)]
    show [1, 2] ++ two _ = [1, 2] ++ besideI U V W Z d
    congr 1
    rw [hd]
    refine beside_core hU hV hW k0 ?_
    by_cases kb : B = true
    · rw [if_pos kb] at hA; exact Or.inr hA
    · rw [if_neg kb] at hA; exact Or.inl hA
theorem pin_opp {g a c r n other : Int} (h0 : 0 ≤ n) (h3 : n ≤ 3) (e : (n + 2) % 4 = other) : (pinI g a c r other).u = (pinI g a c r n).z ∧ (pinI g a c r other).v = (pinI g a c r n).w := by
  subst e
  rcases four_cases h0 h3 with h | h | h | h <;> subst h <;> exact ⟨rfl, rfl⟩
theorem whole7 {g a c r x y z : Int} (hg : 0 ≤ g) (ha : 0 ≤ a) (hc : 0 ≤ c) (hr : 0 ≤ r) (hx : 0 ≤ x) (hy : 0 ≤ y) (hz : 0 ≤ z) : Neutral.whole [g, a, c, r, x, y, z] = true := by
  simp [Neutral.whole, *]
theorem spec_line {g a c r pin folded other : Int} (hg : 0 ≤ g) (ha : 0 ≤ a) (hc : 0 ≤ c) (hr : 0 ≤ r) (hp : 0 ≤ pin) (hf : 0 ≤ folded) (ho : 0 ≤ other) :
    PyWqapbt.line g a c r pin folded other = ansLine g a c r pin folded other := by
  have e : PyWqapbt.line g a c r pin folded other = Neutral.shown (answer ⟨Neutral.four g a c r, .line pin.toNat folded.toNat other.toNat⟩) := by
    simp only [PyWqapbt.line, Neutral.step, Neutral.callOf, if_pos (whole7 hg ha hc hr hp hf ho), LkDSpec.step]
  rw [e]
  unfold answer ansLine
  dsimp only
  rw [four_lens g a c r hg ha hc hr]
  by_cases k : lensOk g a c r = false
  · rw [if_pos k, if_pos (Or.inl k)]; rfl
  rw [if_neg k]
  have qi : fine (.line pin.toNat folded.toNat other.toNat) = true ↔ (pin ≤ 3 ∧ other ≤ 3 ∧ other ≠ pin ∧ folded ≤ 1) := by
    unfold fine
    dsimp only
    rw [Bool.and_eq_true, Bool.and_eq_true, Bool.and_eq_true, decide_eq_true_iff, decide_eq_true_iff, decide_eq_true_iff, bne_iff_ne]
    omega
  by_cases kk : pin ≤ 3 ∧ other ≤ 3 ∧ other ≠ pin ∧ folded ≤ 1
  · have q := qi.2 kk
    rw [if_neg (by intro w; rcases w with w | w; exact k w; rw [q] at w; cases w), if_neg (not_not_intro kk)]
    obtain ⟨k3, ko, kne, kf⟩ := kk
    by_cases k0 : (Neutral.four g a c r).kind = 0
    · rw [if_pos k0, if_pos (kind_zero.2 k0)]; rfl
    rw [if_neg k0, if_neg (mt kind_zero.1 k0)]
    have eT : Neutral.shown (if (Neutral.four g a c r).inLine pin.toNat (folded.toNat == 1) = false then (⟨0, [[]]⟩ : Answer) else match (Neutral.four g a c r).lineCosine pin.toNat (folded.toNat == 1) other.toNat with
        | some x => ⟨1, [two x]⟩
        | none => says (-5)) = specLine (Neutral.four g a c r) pin.toNat (folded.toNat == 1) other.toNat := by
      unfold specLine
      split
      · rfl
      · cases (Neutral.four g a c r).lineCosine pin.toNat (folded.toNat == 1) other.toNat <;> rfl
    refine eT.trans ?_
    unfold specLine lineI
    obtain ⟨U, V, W, Z, hU, hV, hW, hZ, eP, e1, e2, e3, e4⟩ := pin_nats (Bool.not_eq_false _ ▸ k) pin
    have ek : (Neutral.four g a c r).at_ pin.toNat = (U, V, W, Z) := by rw [at_pin hp k3, e1, e2, e3, e4]
    generalize hB : (folded.toNat == 1) = B
    have hBi : B = true ↔ folded = 1 := by rw [← hB, beq_iff_eq]; omega
    have eA : (Neutral.four g a c r).apart pin.toNat B = if B = true then (U : Int) - V else (U : Int) + V := by
      unfold Four.apart
      rw [ek]
    generalize hAA : (Neutral.four g a c r).apart pin.toNat B = A at eA
    have ed : (if folded = 1 then ab ((U : Int) - V) else (U : Int) + V) = (A.natAbs : Int) := by
      by_cases kb : B = true
      · rw [if_pos kb] at eA; rw [if_pos (hBi.1 kb), eA]; unfold ab; split <;> omega
      · rw [if_neg kb] at eA; rw [if_neg (mt hBi.2 kb), eA]; omega
    have eI : (Neutral.four g a c r).inLine pin.toNat B = canBe W Z (A.natAbs : Int) := by
      unfold Four.inLine
      rw [ek, hAA]
      exact inLine_core W Z A.natAbs
    rw [eI, eP]
    dsimp only
    rw [ed]
    by_cases kc : canBe W Z (A.natAbs : Int) = false
    · rw [if_pos kc, if_pos kc]
    rw [if_neg kc, if_neg kc]
    unfold Four.lineCosine
    rw [ek, hAA]
    refine (line_core hU hV hW hZ hp k3 ho ko kne B eA _ rfl).trans ?_
    by_cases k2 : (pin + 2) % 4 = other
    · rw [if_pos k2, if_pos k2, (pin_opp hp k3 k2).1, (pin_opp hp k3 k2).2, eP]
    · rw [if_neg k2, if_neg k2]
  · have q : fine (.line pin.toNat folded.toNat other.toNat) = false := by
      cases h : fine (.line pin.toNat folded.toNat other.toNat)
      · rfl
      · exact absurd (qi.1 h) kk
    rw [if_pos (Or.inr q), if_pos kk]; rfl
end FB
/-! Four bars: plain law, part 11: angles doubled, in a tower of two roots. -/
namespace FB
open LkFour LkDSpec LkNum LkPlane
/-- an angle: its cosine A + D root(P Q), its sine B root(P) + C root(Q), both enlarged alike -/
structure Tn where
  P : Int
  Q : Int
  A : Int
  D : Int
  B : Int
  C : Int
def Tn.dbl (T : Tn) : Tn := ⟨T.P, T.Q, T.A * T.A + T.D * T.D * T.P * T.Q - T.B * T.B * T.P - T.C * T.C * T.Q, 2 * (T.A * T.D - T.B * T.C), 2 * (T.A * T.B + T.D * T.C * T.Q), 2 * (T.A * T.C + T.D * T.B * T.P)⟩
def sg (f P s Q : Int) : Int := (if f * ab f * P + s * ab s * Q > 0 then 1 else 0) - (if f * ab f * P + s * ab s * Q < 0 then 1 else 0)
def Tn.half (T : Tn) : Bool := if sg T.B T.P T.C T.Q < 0 then true else if sg T.B T.P T.C T.Q = 0 then decide (sg T.A 1 T.D (T.P * T.Q) < 0) else false
def parts : Nat → Tn → Int → Int
  | 0, _, r => r
  | m + 1, T, r => parts m T.dbl (2 * r + (if T.half = true then 1 else 0))

/-! ### the tower of two roots, of p and of q -/
def tw1 (p : Rat) : Tower := [[p]]
def tw2 (p q : Rat) : Tower := [[q, 0], [p]]
theorem lo2 (a b : Rat) : lo [a, b] = [a] := by simp [lo]
theorem hi2 (a b : Rat) : hi [a, b] = [b] := by simp [hi]
theorem lo4 (a b c d : Rat) : lo [a, b, c, d] = [a, b] := by simp [lo]
theorem hi4 (a b c d : Rat) : hi [a, b, c, d] = [c, d] := by simp [hi]
theorem plus1 (a b : Rat) : plus [a] [b] = [a + b] := rfl
theorem plus2 (a b c d : Rat) : plus [a, b] [c, d] = [a + c, b + d] := rfl
theorem mul0 (a b : Rat) : mul [] [a] [b] = [a * b] := by
  unfold mul; rfl
theorem mul1 (p a b c d : Rat) : mul (tw1 p) [a, b] [c, d] = [a * c + b * d * p, a * d + b * c] := by
  unfold tw1 mul
  rw [lo2, lo2, hi2, hi2, mul0, mul0, mul0, mul0, mul0, plus1, plus1]
  rfl
theorem mul2 (p q a b c d a' b' c' d' : Rat) : mul (tw2 p q) [a, b, c, d] [a', b', c', d'] =
    [(a * a' + b * b' * p) + ((c * c' + d * d' * p) * q + (c * d' + d * c') * 0 * p), (a * b' + b * a') + ((c * c' + d * d' * p) * 0 + (c * d' + d * c') * q),
     (a * c' + b * d' * p) + (c * a' + d * b' * p), (a * d' + b * c') + (c * b' + d * a')] := by
  unfold tw2 mul
  rw [lo4, lo4, hi4, hi4]
  show plus (mul (tw1 p) [a, b] [a', b']) (mul (tw1 p) (mul (tw1 p) [c, d] [c', d']) [q, 0]) ++ plus (mul (tw1 p) [a, b] [c', d']) (mul (tw1 p) [c, d] [a', b']) = _
  rw [mul1, mul1, mul1, mul1, mul1, plus2, plus2]
  rfl
theorem mul_ee (p q a d a' d' : Rat) : mul (tw2 p q) [a, 0, 0, d] [a', 0, 0, d'] = [a * a' + d * d' * p * q, 0, 0, a * d' + d * a'] := by
  rw [mul2]; congr 1; · grind
  congr 1; · grind
  congr 1; · grind
  congr 1; grind
theorem mul_oo (p q b c b' c' : Rat) : mul (tw2 p q) [0, b, c, 0] [0, b', c', 0] = [b * b' * p + c * c' * q, 0, 0, b * c' + c * b'] := by
  rw [mul2]; congr 1; · grind
  congr 1; · grind
  congr 1; · grind
  congr 1; grind
theorem mul_eo (p q a d b' c' : Rat) : mul (tw2 p q) [a, 0, 0, d] [0, b', c', 0] = [0, a * b' + d * c' * q, a * c' + d * b' * p, 0] := by
  rw [mul2]; congr 1; · grind
  congr 1; · grind
  congr 1; · grind
  congr 1; grind
theorem minus4 (a b c d a' b' c' d' : Rat) : minus [a, b, c, d] [a', b', c', d'] = [a + -1 * a', b + -1 * b', c + -1 * c', d + -1 * d'] := rfl
theorem plus4 (a b c d a' b' c' d' : Rat) : plus [a, b, c, d] [a', b', c', d'] = [a + a', b + b', c + c', d + d'] := rfl
theorem times4 (k a b c d : Rat) : times k [a, b, c, d] = [k * a, k * b, k * c, k * d] := rfl

/-! ### signs -/
/-- the sign of a root(p) + b root(q), from those of a and b -/
def sgn2 (a b w : Rat) : Int := if signOf b = 0 then signOf a else if signOf a = 0 ∨ signOf a = signOf b then signOf b else signOf a * signOf w
theorem signOf_zero : signOf 0 = 0 := by decide +kernel
theorem signOf_pos {x : Rat} (h : 0 < x) : signOf x = 1 := by
  unfold signOf; rw [if_neg (by grind), if_pos h]
theorem sign0 (a : Rat) : sign [] [a] = signOf a := by
  unfold sign; rfl
theorem minus1 (a b : Rat) : minus [a] [b] = [a + -1 * b] := rfl
theorem sign1 (p a b : Rat) : sign (tw1 p) [a, b] = (if (if signOf p = 0 then 0 else signOf b) = 0 then signOf a else if signOf a = 0 ∨ signOf a = (if signOf p = 0 then 0 else signOf b) then (if signOf p = 0 then 0 else signOf b) else signOf a * signOf (a * a + -1 * (b * b * p))) := by
  unfold tw1 sign
  dsimp only
  rw [lo2, hi2, sign0, sign0, sign0, mul0, mul0, mul0, minus1, sign0]
theorem sign1_e {p a : Rat} : sign (tw1 p) [a, 0] = signOf a := by
  rw [sign1, signOf_zero, ite_self, if_pos rfl]
theorem sign1_o {p b : Rat} (hp : 0 < p) : sign (tw1 p) [0, b] = signOf b := by
  rw [sign1, signOf_pos hp, signOf_zero, if_neg (show ¬ (1 : Int) = 0 by decide)]
  by_cases h : signOf b = 0
  · rw [if_pos h, h]
  · rw [if_neg h, if_pos (Or.inl rfl)]
theorem sign2 (p q a b c d : Rat) : sign (tw2 p q) [a, b, c, d] =
    (if (if sign (tw1 p) [q, 0] = 0 then 0 else sign (tw1 p) [c, d]) = 0 then sign (tw1 p) [a, b] else if sign (tw1 p) [a, b] = 0 ∨ sign (tw1 p) [a, b] = (if sign (tw1 p) [q, 0] = 0 then 0 else sign (tw1 p) [c, d]) then (if sign (tw1 p) [q, 0] = 0 then 0 else sign (tw1 p) [c, d])
      else sign (tw1 p) [a, b] * sign (tw1 p) (minus (mul (tw1 p) [a, b] [a, b]) (mul (tw1 p) (mul (tw1 p) [c, d] [c, d]) [q, 0]))) := by
  show sign ([q, 0] :: tw1 p) [a, b, c, d] = _
  rw [sign]
  rw [lo4, hi4]
theorem minus2 (a b c d : Rat) : minus [a, b] [c, d] = [a + -1 * c, b + -1 * d] := rfl
theorem sign_ee {p q a d : Rat} (hp : 0 < p) (hq : 0 < q) : sign (tw2 p q) [a, 0, 0, d] = sgn2 a d (a * a - d * d * p * q) := by
  rw [sign2, sign1_e, signOf_pos hq, if_neg (show ¬ (1 : Int) = 0 by decide), sign1_o hp, sign1_e, mul1, mul1, mul1, minus2]
  have e1 : a * a + 0 * 0 * p + -1 * ((0 * 0 + d * d * p) * q + (0 * d + d * 0) * 0 * p) = a * a - d * d * p * q := by grind
  have e2 : a * 0 + 0 * a + -1 * ((0 * 0 + d * d * p) * 0 + (0 * d + d * 0) * q) = 0 := by grind
  rw [e1, e2, sign1_e]
  rfl
theorem sign_oo {p q b c : Rat} (hp : 0 < p) (hq : 0 < q) : sign (tw2 p q) [0, b, c, 0] = sgn2 b c (b * b * p - c * c * q) := by
  rw [sign2, sign1_e, signOf_pos hq, if_neg (show ¬ (1 : Int) = 0 by decide), sign1_e, sign1_o hp, mul1, mul1, mul1, minus2]
  have e1 : 0 * 0 + b * b * p + -1 * ((c * c + 0 * 0 * p) * q + (c * 0 + 0 * c) * 0 * p) = b * b * p - c * c * q := by grind
  have e2 : 0 * b + b * 0 + -1 * ((c * c + 0 * 0 * p) * 0 + (c * 0 + 0 * c) * q) = 0 := by grind
  rw [e1, e2, sign1_e]
  rfl
/-- the sign of a whole number -/
def sI (x : Int) : Int := if x < 0 then -1 else if 0 < x then 1 else 0
theorem signOf_scale {x k : Rat} {n : Int} (hk : 0 < k) (e : x * k = (n : Rat)) : signOf x = sI n := by
  unfold signOf sI
  have h1 : x < 0 ↔ n < 0 := by
    rw [← Rat.intCast_lt_intCast, ← e, Rat.intCast_zero]
    have := Rat.mul_lt_mul_right (a := x) (b := 0) hk
    rw [Rat.zero_mul] at this
    exact this.symm
  have h2 : 0 < x ↔ 0 < n := by
    rw [← Rat.intCast_lt_intCast, ← e, Rat.intCast_zero]
    have := Rat.mul_lt_mul_right (a := 0) (b := x) hk
    rw [Rat.zero_mul] at this
    exact this.symm
  by_cases a : n < 0
  · rw [if_pos a, if_pos (h1.2 a)]
  rw [if_neg a, if_neg (mt h1.1 a)]
  by_cases b : 0 < n
  · rw [if_pos b, if_pos (h2.2 b)]
  · rw [if_neg b, if_neg (mt h2.1 b)]
theorem sI_sg {f P s Q : Int} (hP : 0 < P) (hQ : 0 < Q) : sg f P s Q = (if sI s = 0 then sI f else if sI f = 0 ∨ sI f = sI s then sI s else sI f * sI (f * f * P - s * s * Q)) := by
  have ff : ∀ x : Int, 0 < x → ab x = x := fun x h => by unfold ab; rw [if_neg (by omega)]
  have fn : ∀ x : Int, x < 0 → ab x = -x := fun x h => by unfold ab; rw [if_pos h]
  have pos : ∀ x : Int, 0 < x → 0 < x * x := fun x h => Int.mul_pos h h
  have neg : ∀ x : Int, x < 0 → 0 < x * x := fun x h => Int.mul_pos_of_neg_of_neg h h
  have key : ∀ v : Int, (if v > 0 then (1 : Int) else 0) - (if v < 0 then 1 else 0) = sI v := fun v => by unfold sI; split <;> split <;> (try split) <;> omega
  unfold sg
  rw [key]
  have sp : ∀ x : Int, 0 < x → sI x = 1 := fun x h => by unfold sI; rw [if_neg (by omega), if_pos h]
  have sn : ∀ x : Int, x < 0 → sI x = -1 := fun x h => by unfold sI; rw [if_pos h]
  have sz : sI 0 = 0 := rfl
  have sneg : ∀ x : Int, sI (-x) = -1 * sI x := fun x => by unfold sI; split <;> split <;> (try split) <;> omega
  rcases Int.lt_trichotomy s 0 with hs | hs | hs
  · rcases Int.lt_trichotomy f 0 with hf | hf | hf
    · have a1 := Int.mul_pos (neg f hf) hP
      have a2 := Int.mul_pos (neg s hs) hQ
      have e : f * ab f * P + s * ab s * Q = -(f * f * P + s * s * Q) := by rw [fn f hf, fn s hs]; grind
      rw [e, sn s hs, sn f hf, if_neg (by decide), if_pos (Or.inr rfl), sn _ (by omega)]
    · subst hf
      have a2 := Int.mul_pos (neg s hs) hQ
      have e : 0 * ab 0 * P + s * ab s * Q = -(s * s * Q) := by rw [fn s hs]; grind
      rw [e, sn s hs, sz, if_neg (by decide), if_pos (Or.inl rfl), sn _ (by omega)]
    · have e : f * ab f * P + s * ab s * Q = f * f * P - s * s * Q := by rw [ff f hf, fn s hs]; grind
      rw [e, sn s hs, sp f hf, if_neg (by decide), if_neg (by decide), Int.one_mul]
  · subst hs
    rw [sz, if_pos rfl]
    have e : f * ab f * P + 0 * ab 0 * Q = f * ab f * P := by grind
    rw [e]
    rcases Int.lt_trichotomy f 0 with hf | hf | hf
    · have a1 := Int.mul_pos (neg f hf) hP
      have e2 : f * ab f * P = -(f * f * P) := by rw [fn f hf]; grind
      rw [e2, sn f hf, sn _ (by omega)]
    · subst hf; rw [Int.zero_mul, Int.zero_mul]
    · have a1 := Int.mul_pos (pos f hf) hP
      rw [ff f hf, sp f hf, sp _ a1]
  · rcases Int.lt_trichotomy f 0 with hf | hf | hf
    · have e : f * ab f * P + s * ab s * Q = -(f * f * P - s * s * Q) := by rw [fn f hf, ff s hs]; grind
      rw [e, sp s hs, sn f hf, if_neg (by decide), if_neg (by decide), sneg]
    · subst hf
      have a2 := Int.mul_pos (pos s hs) hQ
      have e : 0 * ab 0 * P + s * ab s * Q = s * s * Q := by rw [ff s hs]; grind
      rw [e, sp s hs, sz, if_neg (by decide), if_pos (Or.inl rfl), sp _ a2]
    · have a1 := Int.mul_pos (pos f hf) hP
      have a2 := Int.mul_pos (pos s hs) hQ
      rw [ff f hf, ff s hs, sp s hs, sp f hf, if_neg (by decide), if_pos (Or.inr rfl), sp _ (by omega)]
/-- the program's angle and the specification's -/
structure Rel (p q : Rat) (T : Tn) (d : Vec) (al be ka e0 e1 e2 e3 : Rat) : Prop where
  hp : 0 < p
  hq : 0 < q
  ha : 0 < al
  hb : 0 < be
  hk : 0 < ka
  eP : p * (al * al) = (T.P : Rat)
  eQ : q * (be * be) = (T.Q : Rat)
  dx : d.x = [e0, 0, 0, e3]
  dy : d.y = [0, e1, e2, 0]
  r0 : e0 * ka = (T.A : Rat)
  r3 : e3 * ka = (T.D : Rat) * (al * be)
  r1 : e1 * ka = (T.B : Rat) * al
  r2 : e2 * ka = (T.C : Rat) * be
theorem castpos {n : Int} {x : Rat} (h : 0 < x) (e : x = (n : Rat)) : 0 < n := by
  rw [e, ← Rat.intCast_zero, Rat.intCast_lt_intCast] at h
  exact h
section
variable {p q : Rat} {T : Tn} {d : Vec} {al be ka e0 e1 e2 e3 : Rat}
theorem Rel.P0 (h : Rel p q T d al be ka e0 e1 e2 e3) : 0 < T.P := castpos (Rat.mul_pos h.hp (Rat.mul_pos h.ha h.ha)) h.eP
theorem Rel.Q0 (h : Rel p q T d al be ka e0 e1 e2 e3) : 0 < T.Q := castpos (Rat.mul_pos h.hq (Rat.mul_pos h.hb h.hb)) h.eQ
theorem inv_of {x : Rat} (h : 0 < x) : ∃ y, 0 < y ∧ x * y = 1 := ⟨x⁻¹, Rat.inv_pos.2 h, Rat.mul_inv_cancel x (by grind)⟩
theorem sgn2_of {a b w k1 k2 k3 : Rat} {x y z : Int} (h1 : 0 < k1) (h2 : 0 < k2) (h3 : 0 < k3) (e1 : a * k1 = (x : Rat)) (e2 : b * k2 = (y : Rat)) (e3 : w * k3 = (z : Rat)) :
    sgn2 a b w = (if sI y = 0 then sI x else if sI x = 0 ∨ sI x = sI y then sI y else sI x * sI z) := by
  unfold sgn2
  rw [signOf_scale h1 e1, signOf_scale h2 e2, signOf_scale h3 e3]
theorem Rel.sy (h : Rel p q T d al be ka e0 e1 e2 e3) : sign (tw2 p q) d.y = sg T.B T.P T.C T.Q := by
  obtain ⟨ia, ja, ka'⟩ := inv_of h.ha
  obtain ⟨ib, jb, kb'⟩ := inv_of h.hb
  rw [h.dy, sign_oo h.hp h.hq, sI_sg h.P0 h.Q0]
  refine sgn2_of (k1 := ka * ia) (k2 := ka * ib) (k3 := ka * ka) (Rat.mul_pos h.hk ja) (Rat.mul_pos h.hk jb) (Rat.mul_pos h.hk h.hk) ?_ ?_ ?_
  · have := h.r1; grind
  · have := h.r2; grind
  · rw [Rat.intCast_sub, Rat.intCast_mul, Rat.intCast_mul, Rat.intCast_mul, Rat.intCast_mul, ← h.eP, ← h.eQ]
    have q1 := h.r1
    have q2 := h.r2
    have s1 : (e1 * ka) * (e1 * ka) * p = ((T.B : Rat) * al) * ((T.B : Rat) * al) * p := by rw [q1]
    have s2 : (e2 * ka) * (e2 * ka) * q = ((T.C : Rat) * be) * ((T.C : Rat) * be) * q := by rw [q2]
    grind
theorem Rel.sx (h : Rel p q T d al be ka e0 e1 e2 e3) : sign (tw2 p q) d.x = sg T.A 1 T.D (T.P * T.Q) := by
  obtain ⟨ia, ja, ka'⟩ := inv_of h.ha
  obtain ⟨ib, jb, kb'⟩ := inv_of h.hb
  rw [h.dx, sign_ee h.hp h.hq, sI_sg (by decide) (Int.mul_pos h.P0 h.Q0)]
  refine sgn2_of (k1 := ka) (k2 := ka * (ia * ib)) (k3 := ka * ka) h.hk (Rat.mul_pos h.hk (Rat.mul_pos ja jb)) (Rat.mul_pos h.hk h.hk) h.r0 ?_ ?_
  · have := h.r3; grind
  · rw [Rat.intCast_sub, Rat.intCast_mul, Rat.intCast_mul, Rat.intCast_mul, Rat.intCast_mul, Rat.intCast_mul, ← h.eP, ← h.eQ]
    have q1 := h.r0
    have q2 := h.r3
    have s1 : (e0 * ka) * (e0 * ka) = (T.A : Rat) * (T.A : Rat) := by rw [q1]
    have s2 : (e3 * ka) * (e3 * ka) * (p * q) = ((T.D : Rat) * (al * be)) * ((T.D : Rat) * (al * be)) * (p * q) := by rw [q2]
    have o : ((1 : Int) : Rat) = 1 := rfl
    rw [o]
    grind
theorem Rel.half (h : Rel p q T d al be ka e0 e1 e2 e3) : (decide (sign (tw2 p q) d.y < 0) || (decide (sign (tw2 p q) d.y = 0) && decide (sign (tw2 p q) d.x < 0))) = T.half := by
  rw [h.sy, h.sx]
  unfold Tn.half
  by_cases a : sg T.B T.P T.C T.Q < 0
  · rw [if_pos a, decide_eq_true a]; rfl
  · rw [if_neg a, decide_eq_false a]
    by_cases b : sg T.B T.P T.C T.Q = 0
    · rw [if_pos b, decide_eq_true b]; rfl
    · rw [if_neg b, decide_eq_false b]; rfl
theorem Rel.dbl (h : Rel p q T d al be ka e0 e1 e2 e3) :
    Rel p q T.dbl ⟨minus (mul (tw2 p q) d.x d.x) (mul (tw2 p q) d.y d.y), times 2 (mul (tw2 p q) d.x d.y)⟩ al be (ka * ka) (e0 * e0 + e3 * e3 * p * q + -1 * (e1 * e1 * p + e2 * e2 * q)) (2 * (e0 * e1 + e3 * e2 * q)) (2 * (e0 * e2 + e3 * e1 * p)) (e0 * e3 + e3 * e0 + -1 * (e1 * e2 + e2 * e1)) := by
  have q0 := h.r0
  have q1 := h.r1
  have q2 := h.r2
  have q3 := h.r3
  have eP := h.eP
  have eQ := h.eQ
  refine ⟨h.hp, h.hq, h.ha, h.hb, Rat.mul_pos h.hk h.hk, h.eP, h.eQ, ?_, ?_, ?_, ?_, ?_, ?_⟩
  · show minus (mul (tw2 p q) d.x d.x) (mul (tw2 p q) d.y d.y) = _
    rw [h.dx, h.dy, mul_ee, mul_oo, minus4]
    have z : (0 : Rat) + -1 * 0 = 0 := by grind
    rw [z]
  · show times 2 (mul (tw2 p q) d.x d.y) = _
    rw [h.dx, h.dy, mul_eo, times4]
    have z : (2 : Rat) * 0 = 0 := by grind
    rw [z]
  · show _ = ((T.A * T.A + T.D * T.D * T.P * T.Q - T.B * T.B * T.P - T.C * T.C * T.Q : Int) : Rat)
    rw [Rat.intCast_sub, Rat.intCast_sub, Rat.intCast_add, Rat.intCast_mul, Rat.intCast_mul, Rat.intCast_mul, Rat.intCast_mul, Rat.intCast_mul, Rat.intCast_mul, Rat.intCast_mul, Rat.intCast_mul, ← eP, ← eQ]
    have s0 : (e0 * ka) * (e0 * ka) = (T.A : Rat) * (T.A : Rat) := by rw [q0]
    have s3 : (e3 * ka) * (e3 * ka) * (p * q) = ((T.D : Rat) * (al * be)) * ((T.D : Rat) * (al * be)) * (p * q) := by rw [q3]
    have s1 : (e1 * ka) * (e1 * ka) * p = ((T.B : Rat) * al) * ((T.B : Rat) * al) * p := by rw [q1]
    have s2 : (e2 * ka) * (e2 * ka) * q = ((T.C : Rat) * be) * ((T.C : Rat) * be) * q := by rw [q2]
    grind
  · show _ = ((2 * (T.A * T.D - T.B * T.C) : Int) : Rat) * (al * be)
    rw [Rat.intCast_mul, Rat.intCast_sub, Rat.intCast_mul, Rat.intCast_mul]
    have s0 : (e0 * ka) * (e3 * ka) = (T.A : Rat) * ((T.D : Rat) * (al * be)) := by rw [q0, q3]
    have s1 : (e1 * ka) * (e2 * ka) = ((T.B : Rat) * al) * ((T.C : Rat) * be) := by rw [q1, q2]
    have o : ((2 : Int) : Rat) = 2 := rfl
    rw [o]
    grind
  · show _ = ((2 * (T.A * T.B + T.D * T.C * T.Q) : Int) : Rat) * al
    rw [Rat.intCast_mul, Rat.intCast_add, Rat.intCast_mul, Rat.intCast_mul, Rat.intCast_mul, ← eQ]
    have s0 : (e0 * ka) * (e1 * ka) = (T.A : Rat) * ((T.B : Rat) * al) := by rw [q0, q1]
    have s1 : (e3 * ka) * (e2 * ka) * q = ((T.D : Rat) * (al * be)) * ((T.C : Rat) * be) * q := by rw [q3, q2]
    have o : ((2 : Int) : Rat) = 2 := rfl
    rw [o]
    grind
  · show _ = ((2 * (T.A * T.C + T.D * T.B * T.P) : Int) : Rat) * be
    rw [Rat.intCast_mul, Rat.intCast_add, Rat.intCast_mul, Rat.intCast_mul, Rat.intCast_mul, ← eP]
    have s0 : (e0 * ka) * (e2 * ka) = (T.A : Rat) * ((T.C : Rat) * be) := by rw [q0, q2]
    have s1 : (e3 * ka) * (e1 * ka) * p = ((T.D : Rat) * (al * be)) * ((T.B : Rat) * al) * p := by rw [q3, q1]
    have o : ((2 : Int) : Rat) = 2 := rfl
    rw [o]
    grind
end
theorem turn_parts {p q al be : Rat} : ∀ (m : Nat) (T : Tn) (d : Vec) (ka e0 e1 e2 e3 : Rat) (r : Nat), Rel p q T d al be ka e0 e1 e2 e3 → ((turnOf (tw2 p q) m d r : Nat) : Int) = parts m T (r : Int)
  | 0, _, _, _, _, _, _, _, _, _ => rfl
  | m + 1, T, d, ka, e0, e1, e2, e3, r, h => by
    have ih := turn_parts m _ _ _ _ _ _ _ (2 * r + (if T.half = true then 1 else 0)) h.dbl
    unfold turnOf parts
    dsimp only
    rw [h.half]
    refine ih.trans ?_
    congr 1
    split <;> simp
/-! ### the two roots told the other way round -/
def Tn.swap (T : Tn) : Tn := ⟨T.Q, T.P, T.A, T.D, T.C, T.B⟩
theorem swap_dbl (T : Tn) : T.swap.dbl = T.dbl.swap := by
  unfold Tn.dbl Tn.swap
  dsimp only
  congr 1 <;> grind
theorem sg_comm (f P s Q : Int) : sg f P s Q = sg s Q f P := by
  unfold sg
  rw [Int.add_comm]
theorem swap_half (T : Tn) : T.swap.half = T.half := by
  unfold Tn.half Tn.swap
  dsimp only
  rw [sg_comm T.C T.Q T.B T.P, Int.mul_comm T.Q T.P]
theorem swap_parts : ∀ (m : Nat) (T : Tn) (r : Int), parts m T.swap r = parts m T r
  | 0, _, _ => rfl
  | m + 1, T, r => by
    unfold parts
    rw [swap_dbl, swap_half]
    exact swap_parts m _ _
end FB
/-! Four bars: plain law, part 12: swing against the specification. -/
namespace FB
open LkFour LkDSpec LkNum LkPlane
/-- an angle of a triangle: its cosine, its sine's square, both enlarged -/
structure An where
  c : Int
  s : Int
def angI (n f o : Int) : An := ⟨n * n + f * f - o * o, 4 * n * n * f * f - (n * n + f * f - o * o) * (n * n + f * f - o * o)⟩
def diffT (x y : An) : Tn := ⟨x.s, y.s, x.c * y.c, 1, y.c, 0 - x.c⟩
def Tn.contrary (T : Tn) : Tn := ⟨T.P, T.Q, 0 - T.A, 0 - T.D, 0 - T.B, 0 - T.C⟩
def rockerT (g a c r : Int) : Tn := diffT (angI g r (c + a)) (angI g r (c - a))
def crankT (g a c r : Int) : Tn := (diffT (angI g (c - a) r) (angI g (c + a) r)).contrary
def ansSwing (g a c r which m : Int) : List Int :=
  if lensOk g a c r = false then [-1] else if ¬ (which ≤ 1 ∧ 1 ≤ m ∧ m ≤ 8) then [-1] else if kindI g a c r ≠ 3 then [-2]
  else [0, 1, parts m.toNat (if which = 1 then crankT g a c r else rockerT g a c r) 0]

theorem ang_prod (n f o : Int) : (angI n f o).s = ((n + f - o) * (n + f + o)) * ((o - n + f) * (o + n - f)) := by
  unfold angI; dsimp only; grind
theorem ang_pos {n f o : Int} (h1 : 0 < n + f - o) (h2 : 0 < n + f + o) (h3 : 0 < o - n + f) (h4 : 0 < o + n - f) : 0 < (angI n f o).s := by
  rw [ang_prod]
  exact Int.mul_pos (Int.mul_pos h1 h2) (Int.mul_pos h3 h4)
/-- of kind 3 the crank and any of the others are shorter than the other two -/
theorem kind3 {g a c r : Int} (hl : lensOk g a c r = true) (hk : kindI g a c r = 3) : a + g < c + r ∧ a + c < g + r ∧ a + r < g + c := by
  have q := lensOk_iff.1 hl
  have hk' : (Neutral.four g a c r).kind = 3 := by unfold kindI at hk; omega
  have eg : ((Neutral.four g a c r).g : Int) = g := Int.toNat_of_nonneg (by omega)
  have ea : ((Neutral.four g a c r).a : Int) = a := Int.toNat_of_nonneg (by omega)
  have ec : ((Neutral.four g a c r).c : Int) = c := Int.toNat_of_nonneg (by omega)
  have er : ((Neutral.four g a c r).r : Int) = r := Int.toNat_of_nonneg (by omega)
  have l1 : (Neutral.four g a c r).g ≤ (Neutral.four g a c r).longest := Nat.le_trans (Nat.le_max_left _ _) (Nat.le_max_left _ _)
  have l2 : (Neutral.four g a c r).a ≤ (Neutral.four g a c r).longest := Nat.le_trans (Nat.le_max_right _ _) (Nat.le_max_left _ _)
  have l3 : (Neutral.four g a c r).c ≤ (Neutral.four g a c r).longest := Nat.le_trans (Nat.le_max_left _ _) (Nat.le_max_right _ _)
  have l4 : (Neutral.four g a c r).r ≤ (Neutral.four g a c r).longest := Nat.le_trans (Nat.le_max_right _ _) (Nat.le_max_right _ _)
  have es : (Neutral.four g a c r).sum = (Neutral.four g a c r).g + (Neutral.four g a c r).a + (Neutral.four g a c r).c + (Neutral.four g a c r).r := rfl
  unfold Four.kind at hk'
  dsimp only at hk'
  generalize (Neutral.four g a c r).longest = L at *
  generalize (Neutral.four g a c r).shortest = S at *
  generalize (Neutral.four g a c r).sum = U at *
  generalize (Neutral.four g a c r).g = G at *
  generalize (Neutral.four g a c r).a = A at *
  generalize (Neutral.four g a c r).c = C at *
  generalize (Neutral.four g a c r).r = R at *
  by_cases k1 : S + (U - L - S) < L
  · rw [if_pos k1] at hk'; omega
  rw [if_neg k1] at hk'
  by_cases k2 : S + (U - L - S) = L
  · rw [if_pos k2] at hk'; omega
  rw [if_neg k2] at hk'
  by_cases k3 : S + L < U - L - S
  · rw [if_pos k3] at hk'
    by_cases j1 : G = S
    · rw [if_pos j1] at hk'; omega
    rw [if_neg j1] at hk'
    by_cases j2 : A = S
    · omega
    rw [if_neg j2] at hk'
    split at hk' <;> omega
  · rw [if_neg k3] at hk'
    split at hk' <;> omega
theorem rp {n : Int} (h : 0 < n) : (0 : Rat) < (n : Rat) := by rw [← Rat.intCast_zero]; exact Rat.intCast_lt_intCast.2 h
theorem pos_left {p k : Rat} {n : Int} (hk : 0 < k) (hn : 0 < n) (e : p * k = (n : Rat)) : 0 < p := by
  have h : 0 < p * k := by rw [e]; exact rp hn
  exact (Rat.mul_pos_iff_of_pos_right hk).1 h
/-- the square of the sine, of a cosine told as a fraction -/
theorem sin_sq {x N : Rat} {C s : Int} {n : Int} (e : x * N = (C : Rat)) (eN : N = (n : Rat)) (es : s = n * n - C * C) : (1 - x * x) * (N * N) = (s : Rat) := by
  rw [es, Rat.intCast_sub, Rat.intCast_mul, Rat.intCast_mul, ← e, ← eN]
  grind
/-- the specification's swing, its two cosines told ahead -/
def swingS (x y : Rat) (w0 : Bool) (m : Nat) : Nat :=
  turnOf (tw2 (1 - x * x) (1 - y * y)) m (if w0 = true then ⟨[x * y, 0, 0, 1], [0, y, -x, 0]⟩ else ⟨[-(x * y), 0, 0, -1], [0, y, -x, 0]⟩) 0
theorem swing_is (f : Four) (which m : Nat) (x y : Rat)
    (hx : x = if which = 0 then cosine f.g f.r (((f.a + f.c) * (f.a + f.c) : Nat) : Int) else ((((f.g * f.g + (f.a + f.c) * (f.a + f.c) : Nat) : Int) - ((f.r * f.r : Nat) : Int) : Rat)) / ((2 * f.g * (f.a + f.c) : Nat) : Rat))
    (hy : y = if which = 0 then cosine f.g f.r ((gap f.c f.a * gap f.c f.a : Nat) : Int) else ((((f.g * f.g : Nat) : Int) + ((gap f.c f.a * gap f.c f.a : Nat) : Int) - ((f.r * f.r : Nat) : Int) : Rat)) / ((2 * f.g * gap f.c f.a : Nat) : Rat)) :
    f.swing which m = swingS x y (decide (which = 0)) m := by
  unfold Four.swing
  dsimp only
  rw [← hx, ← hy]
  unfold raised swingS
  dsimp only
  have t1 : ofRat [] (1 - x * x) :: [] = tw1 (1 - x * x) := rfl
  have t2 : ofRat (tw1 (1 - x * x)) (1 - y * y) :: tw1 (1 - x * x) = tw2 (1 - x * x) (1 - y * y) := rfl
  rw [t1, t2]
  have o1 : ∀ z : Rat, ofRat (tw2 (1 - x * x) (1 - y * y)) z = [z, 0, 0, 0] := fun z => rfl
  have o2 : LkNum.lift (newest []) = [0, 1, 0, 0] := rfl
  have o3 : newest (tw1 (1 - x * x)) = [0, 0, 1, 0] := rfl
  rw [o1, o1, o2, o3]
  by_cases h : which = 0
  · rw [if_pos h, if_pos (decide_eq_true h)]
    congr 1
    dsimp only
    congr 1
    · rw [mul_ee, mul_oo, plus4]
      congr 1; · grind
      congr 1; · grind
      congr 1; · grind
      congr 1; grind
    · rw [mul2, mul_eo, minus4]
      congr 1; · grind
      congr 1; · grind
      congr 1; · grind
      congr 1; grind
  · rw [if_neg h, if_neg (by simpa using h)]
    congr 1
    dsimp only
    rw [times4, times4]
    congr 1
    · rw [mul2, mul2, plus4]
      congr 1; · grind
      congr 1; · grind
      congr 1; · grind
      congr 1; grind
    · rw [mul2, mul2, minus4]
      congr 1; · grind
      congr 1; · grind
      congr 1; · grind
      congr 1; grind
/-- both angles' numbers, x = C / N -/
theorem rel0 {x y : Rat} {C1 s1 n1 C2 s2 n2 : Int} (h1 : 0 < n1) (h2 : 0 < n2) (p1 : 0 < s1) (p2 : 0 < s2) (e1 : x * (n1 : Rat) = (C1 : Rat)) (e2 : y * (n2 : Rat) = (C2 : Rat)) (q1 : s1 = n1 * n1 - C1 * C1) (q2 : s2 = n2 * n2 - C2 * C2) :
    Rel (1 - x * x) (1 - y * y) ⟨s1, s2, C1 * C2, 1, C2, 0 - C1⟩ ⟨[x * y, 0, 0, 1], [0, y, -x, 0]⟩ (n1 : Rat) (n2 : Rat) ((n1 : Rat) * (n2 : Rat)) (x * y) y (-x) 1 := by
  have r1 := sin_sq e1 rfl q1
  have r2 := sin_sq e2 rfl q2
  refine ⟨pos_left (Rat.mul_pos (rp h1) (rp h1)) p1 r1, pos_left (Rat.mul_pos (rp h2) (rp h2)) p2 r2, rp h1, rp h2, Rat.mul_pos (rp h1) (rp h2), r1, r2, rfl, rfl, ?_, ?_, ?_, ?_⟩
  · show _ = ((C1 * C2 : Int) : Rat)
    rw [Rat.intCast_mul]; grind
  · show _ = ((1 : Int) : Rat) * _
    have o : ((1 : Int) : Rat) = 1 := rfl
    rw [o]
  · show _ = (C2 : Rat) * (n1 : Rat)
    grind
  · show _ = ((0 - C1 : Int) : Rat) * (n2 : Rat)
    rw [Rat.intCast_sub, Rat.intCast_zero]; grind
theorem rel1 {x y : Rat} {C1 s1 n1 C2 s2 n2 : Int} (h1 : 0 < n1) (h2 : 0 < n2) (p1 : 0 < s1) (p2 : 0 < s2) (e1 : x * (n1 : Rat) = (C1 : Rat)) (e2 : y * (n2 : Rat) = (C2 : Rat)) (q1 : s1 = n1 * n1 - C1 * C1) (q2 : s2 = n2 * n2 - C2 * C2) :
    Rel (1 - x * x) (1 - y * y) ⟨s1, s2, 0 - C2 * C1, 0 - 1, 0 - (0 - C2), 0 - C1⟩ ⟨[-(x * y), 0, 0, -1], [0, y, -x, 0]⟩ (n1 : Rat) (n2 : Rat) ((n1 : Rat) * (n2 : Rat)) (-(x * y)) y (-x) (-1) := by
  have r1 := sin_sq e1 rfl q1
  have r2 := sin_sq e2 rfl q2
  refine ⟨pos_left (Rat.mul_pos (rp h1) (rp h1)) p1 r1, pos_left (Rat.mul_pos (rp h2) (rp h2)) p2 r2, rp h1, rp h2, Rat.mul_pos (rp h1) (rp h2), r1, r2, rfl, rfl, ?_, ?_, ?_, ?_⟩
  · show _ = ((0 - C2 * C1 : Int) : Rat)
    rw [Rat.intCast_sub, Rat.intCast_mul, Rat.intCast_zero]; grind
  · show _ = ((0 - 1 : Int) : Rat) * _
    have o : ((0 - 1 : Int) : Rat) = -1 := rfl
    rw [o]
  · show _ = ((0 - (0 - C2) : Int) : Rat) * (n1 : Rat)
    have o : (0 - (0 - C2) : Int) = C2 := by omega
    rw [o]; grind
  · show _ = ((0 - C1 : Int) : Rat) * (n2 : Rat)
    rw [Rat.intCast_sub, Rat.intCast_zero]; grind
theorem div_mul {A N : Int} (h : 0 < N) : ((A : Rat) / (N : Rat)) * (N : Rat) = (A : Rat) := Rat.div_mul_cancel (by have := rp h; grind)
theorem sq_of_n {n f o : Int} : (angI n f o).s = (2 * n * f) * (2 * n * f) - (angI n f o).c * (angI n f o).c := by
  unfold angI; dsimp only; grind
theorem swing_cast {g a c r : Int} (hl : lensOk g a c r = true) (hk : kindI g a c r = 3) (which m : Nat) :
    (((Neutral.four g a c r).swing which m : Nat) : Int) = parts m (if which = 0 then rockerT g a c r else crankT g a c r) 0 := by
  have q := lensOk_iff.1 hl
  obtain ⟨k1, k2, k3⟩ := kind3 hl hk
  have eg : ((Neutral.four g a c r).g : Int) = g := Int.toNat_of_nonneg (by omega)
  have ea : ((Neutral.four g a c r).a : Int) = a := Int.toNat_of_nonneg (by omega)
  have ec : ((Neutral.four g a c r).c : Int) = c := Int.toNat_of_nonneg (by omega)
  have er : ((Neutral.four g a c r).r : Int) = r := Int.toNat_of_nonneg (by omega)
  have egap : ((gap (Neutral.four g a c r).c (Neutral.four g a c r).a : Nat) : Int) = c - a := by
    rw [gap_cast, ec, ea]; unfold ab; rw [if_neg (by omega)]
  rw [swing_is _ which m _ _ rfl rfl]
  generalize (Neutral.four g a c r) = f at *
  by_cases h : which = 0
  · rw [if_pos h, if_pos h, if_pos h, decide_eq_true h]
    have n0 : 0 < 2 * g * r := Int.mul_pos (by omega) (by omega)
    have ex : cosine f.g f.r (((f.a + f.c) * (f.a + f.c) : Nat) : Int) = (((angI g r (c + a)).c : Int) : Rat) / ((2 * g * r : Int) : Rat) := by
      unfold cosine angI
      congr 1
      · rw [← Rat.intCast_sub]
        congr 1
        rw [Int.natCast_add, Int.natCast_mul, Int.natCast_mul, Int.natCast_mul, Int.natCast_add, eg, er, ea, ec, Int.add_comm a c]
      · rw [← eg, ← er]; rfl
    have ey : cosine f.g f.r ((gap f.c f.a * gap f.c f.a : Nat) : Int) = (((angI g r (c - a)).c : Int) : Rat) / ((2 * g * r : Int) : Rat) := by
      unfold cosine angI
      congr 1
      · rw [← Rat.intCast_sub]
        congr 1
        rw [Int.natCast_add, Int.natCast_mul, Int.natCast_mul, Int.natCast_mul, egap, eg, er]
      · rw [← eg, ← er]; rfl
    rw [ex, ey]
    exact turn_parts m _ _ _ _ _ _ _ 0 (rel0 n0 n0 (ang_pos (by omega) (by omega) (by omega) (by omega)) (ang_pos (by omega) (by omega) (by omega) (by omega)) (div_mul n0) (div_mul n0) sq_of_n sq_of_n)
  · rw [if_neg h, if_neg h, if_neg h, decide_eq_false h]
    have n1 : 0 < 2 * g * (c + a) := Int.mul_pos (by omega) (by omega)
    have n2 : 0 < 2 * g * (c - a) := Int.mul_pos (by omega) (by omega)
    have ex : ((((f.g * f.g + (f.a + f.c) * (f.a + f.c) : Nat) : Int) - ((f.r * f.r : Nat) : Int) : Rat)) / ((2 * f.g * (f.a + f.c) : Nat) : Rat) = (((angI g (c + a) r).c : Int) : Rat) / ((2 * g * (c + a) : Int) : Rat) := by
      unfold angI
      congr 1
      · rw [← Rat.intCast_sub]
        congr 1
        rw [Int.natCast_add, Int.natCast_mul, Int.natCast_mul, Int.natCast_mul, Int.natCast_add, eg, er, ea, ec, Int.add_comm a c]
      · rw [← eg, ← ea, ← ec, Int.add_comm (f.c : Int) (f.a : Int)]; rfl
    have ey : ((((f.g * f.g : Nat) : Int) + ((gap f.c f.a * gap f.c f.a : Nat) : Int) - ((f.r * f.r : Nat) : Int) : Rat)) / ((2 * f.g * gap f.c f.a : Nat) : Rat) = (((angI g (c - a) r).c : Int) : Rat) / ((2 * g * (c - a) : Int) : Rat) := by
      unfold angI
      congr 1
      · rw [← Rat.intCast_add, ← Rat.intCast_sub]
        congr 1
        rw [Int.natCast_mul, Int.natCast_mul, Int.natCast_mul, egap, eg, er]
      · rw [← eg, ← egap]; rfl
    rw [ex, ey]
    refine (turn_parts m _ _ _ _ _ _ _ 0 (rel1 n1 n2 (ang_pos (by omega) (by omega) (by omega) (by omega)) (ang_pos (by omega) (by omega) (by omega) (by omega)) (div_mul n1) (div_mul n2) sq_of_n sq_of_n)).trans ?_
    exact swap_parts m (crankT g a c r) 0
theorem whole6 {g a c r x y : Int} (hg : 0 ≤ g) (ha : 0 ≤ a) (hc : 0 ≤ c) (hr : 0 ≤ r) (hx : 0 ≤ x) (hy : 0 ≤ y) : Neutral.whole [g, a, c, r, x, y] = true := by
  simp [Neutral.whole, *]
theorem spec_swing {g a c r which m : Int} (hg : 0 ≤ g) (ha : 0 ≤ a) (hc : 0 ≤ c) (hr : 0 ≤ r) (hw : 0 ≤ which) (hm : 0 ≤ m) : PyWqapbt.swing g a c r which m = ansSwing g a c r which m := by
  have e : PyWqapbt.swing g a c r which m = Neutral.shown (answer ⟨Neutral.four g a c r, .swing which.toNat m.toNat⟩) := by
    simp only [PyWqapbt.swing, Neutral.step, Neutral.callOf, if_pos (whole6 hg ha hc hr hw hm), LkDSpec.step]
  rw [e]
  unfold answer ansSwing
  dsimp only
  rw [four_lens g a c r hg ha hc hr]
  by_cases k : lensOk g a c r = false
  · rw [if_pos k, if_pos (Or.inl k)]; rfl
  rw [if_neg k]
  have qi : fine (.swing which.toNat m.toNat) = true ↔ which ≤ 1 ∧ 1 ≤ m ∧ m ≤ 8 := by
    unfold fine
    dsimp only
    rw [Bool.and_eq_true, Bool.and_eq_true, decide_eq_true_iff, decide_eq_true_iff, decide_eq_true_iff]
    omega
  by_cases kk : which ≤ 1 ∧ 1 ≤ m ∧ m ≤ 8
  · have z := qi.2 kk
    rw [if_neg (by intro w; rcases w with w | w; exact k w; rw [z] at w; cases w), if_neg (not_not_intro kk)]
    have e3 : (Neutral.four g a c r).kind ≠ 3 ↔ kindI g a c r ≠ 3 := by unfold kindI; omega
    by_cases k3 : kindI g a c r ≠ 3
    · rw [if_pos (e3.2 k3), if_pos k3]; rfl
    rw [if_neg (mt e3.1 k3), if_neg k3]
    have sw := swing_cast (Bool.not_eq_false _ ▸ k : lensOk g a c r = true) (Decidable.not_not.1 k3) which.toNat m.toNat
    show [0, 1, (((Neutral.four g a c r).swing which.toNat m.toNat : Nat) : Int)] = _
    rw [sw]
    congr 4
    by_cases w : which = 1
    · rw [if_pos w, if_neg (by omega)]
    · rw [if_neg w, if_pos (by omega)]
  · have z : fine (.swing which.toNat m.toNat) = false := by
      rw [← Bool.not_eq_true]; intro h; exact kk (qi.1 h)
    rw [if_pos (Or.inr z), if_pos kk]; rfl
end FB
/-! Four bars: what the walks of all the defs share. -/
namespace FW
open PySem L2 Evl

/-! ### callees by name -/
section
variable (P : Program) (w : World) (K : PySem.W.Frag) (mg : Str → Option Value) (base : Heap)
def Cal (k : Nat) (x : Str) (sp : Sp) : Prop := ∃ f fd ps, FnOk P w K mg base (L2.CX P w) k f fd ps sp ∧ mg x = some (.ref f) ∧ PySem.W.keepIn K (.ref f) = true ∧ Binds K fd ps []
def Met (k : Nat) (C : Addr) (m : Str) (sp : Sp) : Prop := ∃ f fd ps, FnOk P w K mg base (L2.CX P w) k f fd ps sp ∧ Meth K C m f ∧ Binds K fd ps []
def Mak (k : Nat) (x : Str) (C : Addr) (sp : Sp) : Prop := ∃ f fd ps, FnOk P w K mg base (L2.CX P w) k f fd ps sp ∧ Mk K C f ∧ mg x = some (.ref C) ∧ Binds K fd ps []
end
section
variable {X : Cx} {k j : Nat} {x m : Str} {C : Addr} {sp : Sp} {E : XK} {p pos apos : Pos} {e o : Expr} {es : List Expr} {t : TA} {ta : TE}
theorem pe_cal (c : Cal X.prog X.w X.K X.mg X.base k x sp) (hr : Room j X.A) (hk : k ≤ j) (hx : Passes (L2.CX X.prog X.w) X E) (ha : PA X (e :: es) t) (hg : Gl X x := by rfl) (hdb : (x == ("__debug__" : Str)) = false := by decide)
    (he : starEach (e :: es) X.env = (false, eval e X.env) :: starEach es X.env := by rfl) (hpl : (backTo pos (starEach es X.env)).any (·.1) = false := by rfl) : PE X (.Call (.Name x p) (e :: es) [] pos) (tCall sp [] E t) := by
  obtain ⟨f, fd, ps, F, hm, hkp, hb⟩ := c
  exact pe_call F (hr.mono hk) hg hm hkp hb .nil hx ha hdb he hpl
theorem pe_mak (c : Mak X.prog X.w X.K X.mg X.base k x C sp) (hr : Room j X.A) (hk : k + 1 ≤ j) (hx : Passes (L2.CX X.prog X.w) X E) (ha : PA X (e :: es) t) (hg : Gl X x := by rfl) (hdb : (x == ("__debug__" : Str)) = false := by decide)
    (he : starEach (e :: es) X.env = (false, eval e X.env) :: starEach es X.env := by rfl) (hpl : (backTo pos (starEach es X.env)).any (·.1) = false := by rfl) : PE X (.Call (.Name x p) (e :: es) [] pos) (tMake C sp [] E t) := by
  obtain ⟨f, fd, ps, F, M, hm, hb⟩ := c
  exact pe_make M F (hr.mono hk) hg hm hb .nil hx ha hdb he hpl
theorem pe_met0 {pl : Sem Bool} (he : PE X o ta) (cl : Cls X.K C) (c : Met X.prog X.w X.K X.mg X.base k C m sp) (hr : Room j X.A) (hk : k ≤ j) (hx : Passes (L2.CX X.prog X.w) X E)
    (ht : eval (.Call (.Attribute o m apos) [] [] pos) X.env = (do let ov ← eval o X.env; standAt apos.atName; let (f, first) ← holding [ov] (getMethod ov m pl); callWith pos f first (backTo pos (starEach [] X.env)) (backToKw pos (keywordEach [] X.env))) := by rfl) :
    PE X (.Call (.Attribute o m apos) [] [] pos) (tMeth C m sp [] E ta tNil) := by
  obtain ⟨f, fd, ps, F, M, hb⟩ := c
  exact pe_meth0 he cl M F (hr.mono hk) hb .nil hx ht
theorem pe_met {pl : Sem Bool} (he : PE X o ta) (cl : Cls X.K C) (c : Met X.prog X.w X.K X.mg X.base k C m sp) (hr : Room j X.A) (hk : k ≤ j) (hx : Passes (L2.CX X.prog X.w) X E) (ha : PA X (e :: es) t)
    (ht : eval (.Call (.Attribute o m apos) (e :: es) [] pos) X.env = (do let ov ← eval o X.env; standAt apos.atName; let (f, first) ← holding [ov] (getMethod ov m pl); callWith pos f first (backTo pos (starEach (e :: es) X.env)) (backToKw pos (keywordEach [] X.env))) := by rfl)
    (he2 : starEach (e :: es) X.env = (false, eval e X.env) :: starEach es X.env := by rfl) (hpl : (backTo pos (starEach es X.env)).any (·.1) = false := by rfl) :
    PE X (.Call (.Attribute o m apos) (e :: es) [] pos) (tMeth C m sp [] E ta t) := by
  obtain ⟨f, fd, ps, F, M, hb⟩ := c
  exact pe_meth he cl M F (hr.mono hk) hb .nil hx ha he2 hpl ht
end
/-- a def that lets nothing out, where others may -/
theorem fn_up {P : Program} {w : World} {K : PySem.W.Frag} {mg : Str → Option Value} {base : Heap} {k : Nat} {f : Addr} {fd : FuncData} {ps : List Str} {sp : Sp} (F : FnOk P w K mg base CX0 k f fd ps sp) : FnOk P w K mg base (L2.CX P w) k f fd ps sp :=
  ⟨F.len, fun A outer s H args us vs Q E hr en bt vl h => codeAny_mono (F.run A outer s H args us vs Q E hr en bt vl h) fun r s' q => by
    cases r with
    | error e => exact False.elim q
    | ok fl => cases fl <;> exact q⟩
/-! ### what is let out -/
/-- a refusal with its number -/
def Out (R : Addr) (E : XK) (n : Int) (H : Hp) : Prop := ∀ d H2, Ex H H2 → H2 d = some (.xd [(("code" : Str), .int n)]) → E (.ref R) (some d) H2
theorem Out.go {R : Addr} {E : XK} {n : Int} {H H' : Hp} (h : Out R E n H) (e : Ex H H') : Out R E n H' := fun d H2 e2 hd => h d H2 (e.trans e2) hd
/-- the wish of a try's body where the slots may stand as they like -/
abbrev EW (W : WX) (n : Nat) : XK := fun cls d H => ∀ σ : St, σ.length = n → W cls d σ H
theorem passLen {X : Cx} {W : WX} {n : Nat} (tk : Takes X W) (hn : X.N.length = n) : Passes (L2.CX X.prog X.w) X (EW W n) := fun _ σ _ _ e s' I c =>
  tk e s' (XE.of_call I (fun cls d H' h => h σ (I.len.trans hn)) c)
theorem passE {X : Cx} {E : XK} (tk : Takes X (fun cls d _ H => E cls d H)) : Passes (L2.CX X.prog X.w) X E := passes_call tk fun _ _ _ _ h => h

/-! ### what evaluates to what, further -/
section
variable {K : PySem.W.Frag} {σ : L2.St} {H H' : Hp} {ta tb te : TE} {x y z v : V}
theorem ev_fld {a C dx : Addr} {fs : List (Str × V)} {f : Str} (h : Ev ta σ H (.ref a)) (ho : H a = some (.ins C dx fs)) (hc : Cls K C) (hn : NoAttr K C f) (hl : fs.lookup f = some v) : Ev (tFld K ta f) σ H v := fun H1 e Q q =>
  h H1 e _ fun H2 e2 => ⟨a, C, dx, fs, v, rfl, e2 _ _ (e _ _ ho), hc, hn, hl, q H2 e2⟩
theorem ev_abs {ta : TE} {i : Int} (h : Ev ta σ H (.int i)) : Ev (tCB (fun xs H Q => ∃ i, xs = [V.int i] ∧ Q (.int (if i < 0 then -i else i)) H) (tCons ta tNil)) σ H (.int (FB.ab i)) := fun H1 e Q q =>
  h H1 e _ fun H2 e2 => ⟨i, rfl, q H2 e2⟩
theorem ev_intB {b : Bool} (h : Ev ta σ H (.bl b)) : Ev (tCB (fun xs H Q => (∃ i, xs = [V.int i] ∧ Q (.int i) H) ∨ ∃ k, xs = [V.bl k] ∧ Q (.int (if k then 1 else 0)) H) (tCons ta tNil)) σ H (.int (if b = true then 1 else 0)) := fun H1 e Q q =>
  h H1 e _ fun H2 e2 => Or.inr ⟨b, rfl, q H2 e2⟩
theorem ev_min2 {i j : Int} (ha : Ev ta σ H (.int i)) (hb : Ev tb σ H (.int j)) : Ev (tCB (fun xs H Q => ∃ i j, xs = [V.int i, V.int j] ∧ Q (.int (if j < i then j else i)) H) (tCons ta (tCons tb tNil))) σ H (.int (FB.mn i j)) := fun H1 e Q q =>
  ha H1 e _ fun H2 e2 => hb H2 (e.trans e2) _ fun H3 e3 => ⟨i, j, rfl, q H3 (e2.trans e3)⟩
theorem ev_mx2 {i j : Int} (ha : Ev ta σ H (.int i)) (hb : Ev tb σ H (.int j)) : Ev (tCB (fun xs H Q => ∃ i j, xs = [V.int i, V.int j] ∧ Q (.int (if j > i then j else i)) H) (tCons ta (tCons tb tNil))) σ H (.int (FB.mx i j)) := fun H1 e Q q =>
  ha H1 e _ fun H2 e2 => hb H2 (e.trans e2) _ fun H3 e3 => ⟨i, j, rfl, q H3 (e2.trans e3)⟩
/-- o.m(..), what m promises a value -/
theorem ev_meth {a C dx : Addr} {fs : List (Str × V)} {m : Str} {sp : Sp} {E : XK} {tr : TA} {vs : List V} (h : Ev ta σ H (.ref a)) (ho : H a = some (.ins C dx fs)) (hl : fs.lookup m = none) (hr : EvA tr σ H vs) (hs : SpV sp (.ref a :: vs) H z) : Ev (tMeth C m sp [] E ta tr) σ H z := fun H1 e Q q =>
  h H1 e _ fun H2 e2 => ⟨a, dx, fs, rfl, e2 _ _ (e _ _ ho), hl, hr H2 (e.trans e2) _ fun H3 e3 => by
    have k := hs H3 ((e.trans e2).trans e3) Q (fun H4 e4 => q H4 ((e2.trans e3).trans e4)) E
    show sp (V.ref a :: (vs ++ [])) H3 Q E
    rw [List.append_nil]
    exact k⟩
theorem ev_cal {sp : Sp} {E : XK} {tr : TA} {vs : List V} (hr : EvA tr σ H vs) (hs : SpV sp vs H z) : Ev (tCall sp [] E tr) σ H z := ev_call hr (by rw [List.append_nil]; exact hs)
theorem el_cal {sp : Sp} {E : XK} {tr : TA} {vs xs : List V} (hr : EvA tr σ H vs) (hs : SpL sp vs H xs) : EvL (tCall sp [] E tr) σ H xs := el_call hr (by rw [List.append_nil]; exact hs)
theorem el_meth {a C dx : Addr} {fs : List (Str × V)} {m : Str} {sp : Sp} {E : XK} {tr : TA} {vs xs : List V} (h : Ev ta σ H (.ref a)) (ho : H a = some (.ins C dx fs)) (hl : fs.lookup m = none) (hr : EvA tr σ H vs) (hs : SpL sp (.ref a :: vs) H xs) : EvL (tMeth C m sp [] E ta tr) σ H xs := fun H1 e Q q =>
  h H1 e _ fun H2 e2 => ⟨a, dx, fs, rfl, e2 _ _ (e _ _ ho), hl, hr H2 (e.trans e2) _ fun H3 e3 => by
    have k := hs H3 ((e.trans e2).trans e3) Q (fun p H4 hp e4 h4 => q p H4 (fresh_back (e2.trans e3) hp) ((e2.trans e3).trans e4) h4) E
    show sp (V.ref a :: (vs ++ [])) H3 Q E
    rw [List.append_nil]
    exact k⟩
/-- a new object of the class at C with these fields -/
def EvO1 (te : TE) (σ : L2.St) (H : Hp) (C : Addr) (fs : List (Str × V)) : Prop := ∀ H1, Ex H H1 → ∀ Q : VK, (∀ p dx H2, H1 p = none → Ex H1 H2 → H2 p = some (.ins C dx fs) → Q (.ref p) H2) → te σ H1 Q
/-- what a promise makes: a new object -/
def SpO (sp : Sp) (vs : List V) (H : Hp) (C : Addr) (fs : List (Str × V)) : Prop := ∀ H1, Ex H H1 → ∀ Q : VK, (∀ p dx H2, H1 p = none → Ex H1 H2 → H2 p = some (.ins C dx fs) → Q (.ref p) H2) → ∀ E : XK, sp vs H1 Q E
/-- a maker's promise: the fields of the object at p -/
def Fills (C : Addr) (H : Hp) (p dx : Addr) (fs : List (Str × V)) (Q : VK) : Prop := ∀ H2, (∀ b o, b ≠ p → H b = some o → H2 b = some o) → H2 p = some (.ins C dx fs) → Q .non H2
theorem ex_made {H H2 : Hp} {p dx C : Addr} (hp : H p = none) (hd : H dx = none) (k : ∀ b o, b ≠ p → (upd (upd H dx (.own p)) p (.ins C dx [])) b = some o → H2 b = some o) : Ex H H2 := fun b o hb => by
  have n1 : b ≠ p := ne_of_none hb hp
  have n2 : b ≠ dx := ne_of_none hb hd
  exact k b o n1 (by rw [upd_ne n1, upd_ne n2]; exact hb)
theorem eo_make {C : Addr} {sp : Sp} {E : XK} {tr : TA} {vs : List V} {fs : List (Str × V)} (hr : EvA tr σ H vs)
    (hs : ∀ H1 p dx Q, Ex H H1 → H1 p = some (.ins C dx []) → Fills C H1 p dx fs Q → sp (.ref p :: vs) H1 Q E) : EvO1 (tMake C sp [] E tr) σ H C fs := fun H1 e Q q =>
  hr H1 e _ fun H2 e2 => by
    intro p dx hp hd hne
    have ee : Ex H (upd (upd H2 dx (.own p)) p (.ins C dx [])) := fun b o hb => by
      have hb2 := e2 b o (e b o hb)
      rw [upd_ne (ne_of_none hb2 hp), upd_ne (ne_of_none hb2 hd)]
      exact hb2
    have k := hs (upd (upd H2 dx (.own p)) p (.ins C dx [])) p dx (fun v H3 => v = .non ∧ Q (.ref p) H3) ee upd_same (fun H3 k3 h3 => ⟨rfl, q p dx H3 (fresh_back e2 hp) (e2.trans (ex_made hp hd k3)) h3⟩)
    show sp (V.ref p :: (vs ++ [])) _ _ _
    rw [List.append_nil]
    exact k
theorem s_asgO {i : Nat} {D : Ends} {C : Addr} {fs : List (Str × V)} (h : EvO1 te σ H C fs) (k : ∀ p dx H1, H p = none → Ex H H1 → H1 p = some (.ins C dx fs) → D.nx (σ.set i (some (.ref p))) H1) : tAsg te (gName i) D σ H := h H (Ex.refl H) _ fun p dx H1 hp e h1 => k p dx H1 hp e h1
theorem q_asgO {i : Nat} {D : Ends} {tz : TS} {C : Addr} {fs : List (Str × V)} (h : EvO1 te σ H C fs) (k : ∀ p dx H1, H p = none → Ex H H1 → H1 p = some (.ins C dx fs) → tz D (σ.set i (some (.ref p))) H1) : tSeq (tAsg te (gName i)) tz D σ H := s_asgO (D := { D with nx := tz D }) h k
theorem s_retO {D : Ends} {C : Addr} {fs : List (Str × V)} (h : EvO1 te σ H C fs) (k : ∀ p dx H1, H p = none → Ex H H1 → H1 p = some (.ins C dx fs) → D.rt (.ref p) H1) : tRet te D σ H := h H (Ex.refl H) _ fun p dx H1 hp e h1 => k p dx H1 hp e h1
/-- self.f = v -/
theorem s_fld {D : Ends} {a C dx : Addr} {fs : List (Str × V)} {f : Str} (hv : Ev tb σ H y) (ha : Ev ta σ H (.ref a)) (ho : H a = some (.ins C dx fs)) (hc : Cls K C) (hn : NoAttr K C f) (hl : fs.length < 1000)
    (k : ∀ H1, Ex H H1 → H1 a = some (.ins C dx fs) → D.nx σ (upd H1 a (.ins C dx (putF f y fs)))) : sFld K ta tb f D σ H := hv H (Ex.refl H) _ fun H1 e1 =>
  ha H1 e1 _ fun H2 e2 => ⟨a, C, dx, fs, rfl, e2 _ _ (e1 _ _ ho), hc, hn, hl, k H2 (e1.trans e2) (e2 _ _ (e1 _ _ ho))⟩
theorem q_fld {D : Ends} {tz : TS} {a C dx : Addr} {fs : List (Str × V)} {f : Str} (hv : Ev tb σ H y) (ha : Ev ta σ H (.ref a)) (ho : H a = some (.ins C dx fs)) (hc : Cls K C) (hn : NoAttr K C f) (hl : fs.length < 1000)
    (k : ∀ H1, Ex H H1 → H1 a = some (.ins C dx fs) → tz D σ (upd H1 a (.ins C dx (putF f y fs)))) : tSeq (sFld K ta tb f) tz D σ H := s_fld (D := { D with nx := tz D }) hv ha ho hc hn hl k
end
/-! ### must -/
def spMust (R : Addr) : Sp := fun vs H Q E => ∃ (b : Bool) (n : Int), vs = [.bl b, .int n] ∧ (b = true → RetV .non H Q) ∧ (b = false → Out R E n H)
theorem q_must {σ : L2.St} {H : Hp} {D : Ends} {tz : TS} {R : Addr} {E : XK} {b : Bool} {n : Int} {tr : TA} (h : EvA tr σ H [.bl b, .int n]) (h1 : b = true → ∀ H1, Ex H H1 → tz D σ H1) (h2 : b = false → ∀ H1, Ex H H1 → Out R E n H1) :
    tSeq (tDrop (tCall (spMust R) [] E tr)) tz D σ H := h H (Ex.refl H) _ fun H1 e1 => ⟨b, n, rfl, fun hb H2 e2 => h1 hb H2 (e1.trans e2), fun hb => h2 hb H1 e1⟩
theorem s_must {σ : L2.St} {H : Hp} {D : Ends} {R : Addr} {E : XK} {b : Bool} {n : Int} {tr : TA} (h : EvA tr σ H [.bl b, .int n]) (h1 : b = true → ∀ H1, Ex H H1 → D.nx σ H1) (h2 : b = false → ∀ H1, Ex H H1 → Out R E n H1) :
    tDrop (tCall (spMust R) [] E tr) D σ H := h H (Ex.refl H) _ fun H1 e1 => ⟨b, n, rfl, fun hb H2 e2 => h1 hb H2 (e1.trans e2), fun hb => h2 hb H1 e1⟩
def spRI (R : Addr) : Sp := fun vs H Q _ => ∃ (a : Addr) (n : Int), vs = [.ref a, .int n] ∧ H a = some (exo a R none) ∧ ∀ dx, H dx = none → dx ≠ a → Q .non (upd (upd H dx (exd dx [(("code" : Str), .int n)])) a (exo a R (some dx)))
end FW
/-! Four bars: promises and readings of the defs that most calls share. -/
namespace FW
open PySem L2 Evl
section
variable {K : PySem.W.Frag} {σ : L2.St} {H H' : Hp} {ta tb te : TE} {x y z v : V} {D : Ends} {tz : TS}
def LI (ns : List Int) : List V := ns.map V.int
theorem ev_allL {bs : List Bool} (h : EvL te σ H (bs.map V.bl)) : Ev (tCB (rAll K) (tCons te tNil)) σ H (.bl (bs.all id)) := fun H1 e Q q =>
  h H1 e _ fun p H2 _ e2 hp => ⟨p, bs, rfl, sq_of hp, q H2 e2⟩
theorem q_sorted {i : Nat} {a : Addr} {ns : List Int} (h : Ev te σ H (.ref a)) (hl : SqL K H a (ns.map V.int)) (hn : ns.length < 64)
    (k : ∀ (ns' : List Int) (p : Addr) (H1 : Hp), ns'.Perm ns → ns'.Pairwise (· ≤ ·) → Ex H H1 → H1 p = some (.lst (ns'.map V.int)) → tz D (σ.set i (some (.ref p))) H1) : tSeq (tAsg (tCB (rSorted K) (tCons te tNil)) (gName i)) tz D σ H :=
  h H (Ex.refl H) _ fun H1 e => ⟨a, ns, rfl, ex_l e hl, hn, fun ns' p hp hw hf => k ns' p _ hp hw (e.trans (Ex.new hf)) upd_same⟩
theorem flat_ints : ∀ ns : List Int, (ns.map V.int).all flatV = true
  | [] => rfl
  | _ :: r => flat_ints r
theorem ev_index {a : Addr} {ns : List Int} {n : Int} {j : Nat} (h : Ev te σ H (.ref a)) (hl : SqL K H a (ns.map V.int)) (hx : Ev ta σ H (.int n)) (hj : ns[j]? = some n) (hm : ∀ (m : Nat) (z : Int), m < j → ns[m]? = some z → z ≠ n) :
    Ev (tBM K "list" (rIndex K) te (tCons ta tNil)) σ H (.int (j : Nat)) := fun H1 e Q q =>
  h H1 e _ fun H2 e2 => ⟨Or.inl ⟨rfl, _, ex_l (e.trans e2) hl⟩, hx H2 (e.trans e2) _ fun H3 e3 => ⟨a, ns.map V.int, .int n, j, .int n, rfl, rfl, ex_l ((e.trans e2).trans e3) hl, rfl, flat_ints ns, by rw [List.getElem?_map, hj] <;> rfl, by
      show (n == n) = true
      exact beq_self_eq_true n, fun m z' hmj hz => by
      rw [List.getElem?_map] at hz
      cases hq : ns[m]? with
      | none => rw [hq] at hz; cases hz
      | some u =>
        rw [hq] at hz
        cases hz
        show (u == n) = false
        exact beq_eq_false_iff_ne.mpr (hm m u hmj hq), q H3 (e2.trans e3)⟩⟩
theorem ev_ixL {a : Addr} {xs : List V} {n : Int} {j : Nat} (h : Ev te σ H (.ref a)) (hl : SqL K H a xs) (hx : Ev ta σ H (.int n)) (hn : n = (j : Int)) (hj : xs[j]? = some v) : Ev (tOp (rIxL K) te ta) σ H v := by
  subst hn
  exact ev_op h hx (rv_ixL hl (atI_nat hj))
theorem ev_ixT {a : Addr} {xs : List V} {n : Int} {j : Nat} (h : Ev te σ H (.ref a)) (hl : SqT K H a xs) (hx : Ev ta σ H (.int n)) (hn : n = (j : Int)) (hj : xs[j]? = some v) : Ev (tOp (rIxT K) te ta) σ H v := by
  subst hn
  exact ev_op h hx (rv_ixT hl (atI_nat hj))
theorem ev_neg {i : Int} (h : Ev te σ H (.int i)) : Ev (tUn (rU fun i => .int (-i)) te) σ H (.int (-i)) := ev_un h ru_neg
theorem et_val {b : Bool} (h : Ev te σ H (.bl b)) : EvT (tB te) σ H b := et_B h
theorem yes_T : EvT tYes σ H true := fun H1 _ Q q => q H1 (Ex.refl H1)
end
/-! ### the bars -/
/-- at p: the four lengths -/
def BarsAt (C : Addr) (H : Hp) (p : Addr) (g a c r : Int) : Prop := ∃ dx l, H p = some (.ins C dx [(("lengths" : Str), .ref l)]) ∧ H l = some (.lst (LI [g, a, c, r]))
theorem BarsAt.mono {C : Addr} {H H' : Hp} {p : Addr} {g a c r : Int} (e : Ex H H') (h : BarsAt C H p g a c r) : BarsAt C H' p g a c r := by
  obtain ⟨dx, l, h1, h2⟩ := h
  exact ⟨dx, l, e _ _ h1, e _ _ h2⟩
def spBI (R C : Addr) : Sp := fun vs H Q E => ∃ (p dx l : Addr) (g a c r : Int), vs = [.ref p, .ref l] ∧ H p = some (.ins C dx []) ∧ H l = some (.lst (LI [g, a, c, r])) ∧ p ≠ l ∧
  (FB.lensOk g a c r = true → Fills C H p dx [(("lengths" : Str), .ref l)] Q) ∧ (FB.lensOk g a c r = false → Out R E (-1) H)
def spBK (C : Addr) : Sp := fun vs H Q _ => ∃ (p : Addr) (g a c r : Int), vs = [.ref p] ∧ BarsAt C H p g a c r ∧ FB.lensOk g a c r = true ∧ RetV (.int (FB.kindI g a c r)) H Q
theorem spv_bk {C p : Addr} {H : Hp} {g a c r : Int} (h : BarsAt C H p g a c r) (hl : FB.lensOk g a c r = true) : SpV (spBK C) [.ref p] H (.int (FB.kindI g a c r)) := fun H1 e Q q E => ⟨p, g, a, c, r, rfl, h.mono e, hl, q⟩
/-- Bars([g, a, c, r]) -/
theorem mk_bars {σ : L2.St} {H : Hp} {R C : Addr} {E : XK} {g a c r : Int} {ta : TA} {Q : VK} (h : EvA ta σ H [.int g, .int a, .int c, .int r])
    (h1 : FB.lensOk g a c r = true → ∀ p H1, H p = none → Ex H H1 → BarsAt C H1 p g a c r → Q (.ref p) H1) (h2 : FB.lensOk g a c r = false → Out R E (-1) H) :
    tMake C (spBI R C) [] E (tCons (tLst ta) tNil) σ H Q :=
  h H (Ex.refl H) _ fun H1 e1 => ⟨by show 4 ≤ sizeLine; decide, fun l hl => by
    intro p dx hp hd hne
    have hlp : p ≠ l := fun z => by rw [z, upd_same] at hp; cases hp
    have e2 : Ex H1 (upd H1 l (.lst (LI [g, a, c, r]))) := Ex.new hl
    have e3 : Ex (upd H1 l (.lst (LI [g, a, c, r]))) (upd (upd (upd H1 l (.lst (LI [g, a, c, r]))) dx (.own p)) p (.ins C dx [])) := fun b o hb => by
      rw [upd_ne (ne_of_none hb hp), upd_ne (ne_of_none hb hd)]
      exact hb
    refine ⟨p, dx, l, g, a, c, r, rfl, upd_same, e3 _ _ upd_same, hlp, fun ok => ?_, fun bad => (h2 bad).go ((e1.trans e2).trans e3)⟩
    intro H2 k2 hp2
    have ee : Ex H1 H2 := (e2.trans (ex_made hp hd k2))
    exact ⟨rfl, h1 ok p H2 (fresh_back (e1.trans e2) hp) (e1.trans ee) ⟨dx, l, hp2, k2 l _ (Ne.symm hlp) (e3 _ _ upd_same)⟩⟩⟩
theorem q_bars {σ : L2.St} {H : Hp} {D : Ends} {tz : TS} {R C : Addr} {E : XK} {g a c r : Int} {i : Nat} {ta : TA} (h : EvA ta σ H [.int g, .int a, .int c, .int r])
    (h1 : FB.lensOk g a c r = true → ∀ p H1, H p = none → Ex H H1 → BarsAt C H1 p g a c r → tz D (σ.set i (some (.ref p))) H1) (h2 : FB.lensOk g a c r = false → Out R E (-1) H) :
    tSeq (tAsg (tMake C (spBI R C) [] E (tCons (tLst ta) tNil)) (gName i)) tz D σ H := mk_bars (Q := fun x H1 => gName i x σ H1 (tz D)) h h1 h2
theorem ev4 {σ : L2.St} {H : Hp} {g a c r : V} {i j k l : Nat} (h1 : σ[i]? = some (some g)) (h2 : σ[j]? = some (some a)) (h3 : σ[k]? = some (some c)) (h4 : σ[l]? = some (some r)) : EvA (tCons (tVar i) (tCons (tVar j) (tCons (tVar k) (tCons (tVar l) tNil)))) σ H [g, a, c, r] :=
  ea_cons (ev_var h1) (ea_cons (ev_var h2) (ea_cons (ev_var h3) (ea_cons (ev_var h4) ea_nil)))
/-! ### the try of each call -/
def tsR (R : Addr) (i : Nat) : Addr → Value → Option Addr → TS := fun a cls d => tRet (tLst (tCons (tXf a cls d R "code" (tVar i)) tNil))
/-- what a call hands back: a list of whole numbers -/
def Gives (ns : List Int) (Q : VK) : Prop := ∀ (p : Addr) (H' : Hp), H' p = some (.lst (LI ns)) → Q (.ref p) H'
theorem caught {K : PySem.W.Frag} {R : Addr} {i n : Nat} {Wo : WX} {D : Ends} {z : Int} {H : Hp} (te : PySem.W.exmOne K (.ref R) (.ref R) = some true) (hi : i < n) (k : Gives [z] D.rt) : Out R (EW (wAs K (.ref R) i (tsR R i) Wo D) n) z H := fun d H2 _ hd σ hs =>
  ⟨true, te, fun _ a _ => ⟨.ref a, List.getElem?_set_self (by omega), rfl, rfl, d, _, .int z, rfl, hd, rfl, by show 1 ≤ sizeLine; decide, fun p hp => k p _ upd_same⟩, fun q => Bool.noConfusion q⟩
theorem s_gives {σ : L2.St} {H : Hp} {te : TE} {D : Ends} {ns : List Int} (h : EvL te σ H (LI ns)) (k : Gives ns D.rt) : tRet te D σ H := s_retL h fun p H1 _ _ h1 => k p H1 h1
theorem open_ret1 {te : TE} {D : Ends} {σ : L2.St} {H : Hp} (h : te σ H fun x H1 => [x].length ≤ sizeLine ∧ ∀ p, H1 p = none → D.rt (.ref p) (upd H1 p (.lst [x]))) : tRet (tLst (tCons te tNil)) D σ H := h
theorem open_meth0 {ta : TE} {C : Addr} {m : Str} {sp : Sp} {E : XK} {σ : L2.St} {H : Hp} {Q : VK} (h : ta σ H fun x H1 => ∃ a dx fs, x = .ref a ∧ H1 a = some (.ins C dx fs) ∧ fs.lookup m = none ∧ sp [x] H1 Q E) : tMeth C m sp [] E ta tNil σ H Q := h
/-- x = o.m(), o a call -/
theorem q_asgM {ta : TE} {C : Addr} {m : Str} {sp : Sp} {E : XK} {σ : L2.St} {H : Hp} {D : Ends} {tz : TS} {i : Nat} (h : ta σ H fun x H1 => ∃ a dx fs, x = .ref a ∧ H1 a = some (.ins C dx fs) ∧ fs.lookup m = none ∧ sp [x] H1 (fun v H2 => tz D (σ.set i (some v)) H2) E) : tSeq (tAsg (tMeth C m sp [] E ta tNil) (gName i)) tz D σ H := h
theorem perm4 {l : List Int} {g a c r : Int} (h : l.Perm [g, a, c, r]) : ∃ x0 x1 x2 x3, l = [x0, x1, x2, x3] := by
  have e := h.length_eq
  match l, e with
  | [x0, x1, x2, x3], _ => exact ⟨x0, x1, x2, x3, rfl⟩
/-! ### the calls' promises -/
def spKind : Sp := fun vs H Q _ => ∃ (g a c r : Int), vs = [.int g, .int a, .int c, .int r] ∧ Gives (FB.ansKind g a c r) Q
def spCircuits : Sp := fun vs H Q _ => ∃ (g a c r : Int), vs = [.int g, .int a, .int c, .int r] ∧ Gives (FB.ansCircuits g a c r) Q
/-- an error of the class at S is what the clause names -/
theorem exm_same {K : PySem.W.Frag} {S : Addr} (b : PySem.W.subIn K (.ref S) (.type "BaseException") = some true) (i : PySem.W.isClsIn K S = true) (t : PySem.W.typeIn K (.ref S) = some (.type "type")) (s : PySem.W.subIn K (.ref S) (.ref S) = some true) : PySem.W.exmOne K (.ref S) (.ref S) = some true := by
  unfold PySem.W.exmOne
  rw [b]
  have i' : (PySem.W.clsIn K S).isSome = true := i
  show PySem.W.kitCls K (.ref S) (.ref S) = some true
  unfold PySem.W.kitCls
  show (if ((PySem.W.clsIn K S).isSome && PySem.W.typeIn K (.ref S) == some (.type "type")) = true then PySem.W.subIn K (.ref S) (.ref S) else none) = some true
  rw [i', t, s]
  rfl
end FW
/-! Four bars: promises and words for the pins. -/
namespace FW
open PySem L2 Evl
section
variable {K : PySem.W.Frag} {σ : L2.St} {H H' : Hp} {ta tb te : TE} {x y z v : V} {D : Ends} {tz : TS}
theorem cm {i j : Int} (h : -1000000000000000000 ≤ i ∧ i ≤ 1000000000000000000) : CMul i j := Or.inl ⟨by omega, by omega⟩
theorem rv_mul {i j : Int} (h : -1000000000000000000 ≤ i ∧ i ≤ 1000000000000000000) : RV (rI CMul fun i j => .int (i * j)) (.int i) (.int j) H (.int (i * j)) := rv_I (cm h)
theorem rv_mod {i : Int} : RV (rI (fun _ j => 0 < j) fun i j => .int (i % j)) (.int i) (.int 4) H (.int (i % 4)) := rv_I (C := fun _ j => 0 < j) (by decide)
/-- two lists, joined -/
theorem el_cat {xs ys : List V} (ha : EvL ta σ H xs) (hb : EvL tb σ H ys) (hn : xs.length + ys.length ≤ 100000) : EvL (tOp rCat ta tb) σ H (xs ++ ys) := fun H1 e Q q =>
  ha H1 e _ fun p H2 hp e2 h2 => hb H2 (e.trans e2) _ fun p' H3 hp' e3 h3 => ⟨p, p', xs, ys, rfl, rfl, e3 _ _ h2, h3, sz_of hn, fun l hl => q l _ (fresh_back (e2.trans e3) hl) ((e2.trans e3).trans (Ex.new hl)) upd_same⟩
/-- one, two, three, four = e, e a new list -/
theorem q_unl4 {i j k l : Nat} {a b c d : V} (h : EvL te σ H [a, b, c, d]) (q : ∀ H1, Ex H H1 → tz D ((((σ.set i (some a)).set j (some b)).set k (some c)).set l (some d)) H1) :
    tSeq (tAsg te (gUnl K 4 (gCons (gName i) (gCons (gName j) (gCons (gName k) (gCons (gName l) gNil)))))) tz D σ H :=
  h H (Ex.refl H) _ fun p H1 _ e1 h1 => ⟨p, _, rfl, sq_of h1, rfl, a, _, rfl, b, _, rfl, c, _, rfl, d, _, rfl, rfl, q H1 e1⟩
/-- the same of a list that stands -/
theorem q_unl4s {i j k l : Nat} {a b c d : V} {p : Addr} (h : Ev te σ H (.ref p)) (hl : SqL K H p [a, b, c, d]) (q : ∀ H1, Ex H H1 → tz D ((((σ.set i (some a)).set j (some b)).set k (some c)).set l (some d)) H1) :
    tSeq (tAsg te (gUnl K 4 (gCons (gName i) (gCons (gName j) (gCons (gName k) (gCons (gName l) gNil)))))) tz D σ H :=
  h H (Ex.refl H) _ fun H1 e1 => ⟨p, _, rfl, ex_l e1 hl, rfl, a, _, rfl, b, _, rfl, c, _, rfl, d, _, rfl, rfl, q H1 e1⟩
/-- f(o), o a new object -/
theorem ev_calO {C : Addr} {fs : List (Str × V)} {sp : Sp} {E : XK} (h : EvO1 ta σ H C fs) (hs : ∀ p dx H1, Ex H H1 → H1 p = some (.ins C dx fs) → SpV sp [.ref p] H1 z) : Ev (tCall sp [] E (tCons ta tNil)) σ H z := fun H1 e Q q =>
  h H1 e _ fun p dx H2 _ e2 h2 => hs p dx H2 (e.trans e2) h2 H2 (Ex.refl H2) Q (fun H3 e3 => q H3 (e2.trans e3)) E
theorem el_calO {C : Addr} {fs : List (Str × V)} {sp : Sp} {E : XK} {xs : List V} (h : EvO1 ta σ H C fs) (hs : ∀ p dx H1, Ex H H1 → H1 p = some (.ins C dx fs) → SpL sp [.ref p] H1 xs) : EvL (tCall sp [] E (tCons ta tNil)) σ H xs := fun H1 e Q q =>
  h H1 e _ fun p dx H2 _ e2 h2 => hs p dx H2 (e.trans e2) h2 H2 (Ex.refl H2) Q (fun l H3 hl e3 h3 => q l H3 (fresh_back e2 hl) (e2.trans e3) h3) E
/-- o.m(..), what m promises a new object -/
theorem eo_meth {a C C2 dx : Addr} {fs gs : List (Str × V)} {m : Str} {sp : Sp} {E : XK} {tr : TA} {vs : List V} (h : Ev ta σ H (.ref a)) (ho : H a = some (.ins C dx fs)) (hl : fs.lookup m = none) (hr : EvA tr σ H vs) (hs : SpO sp (.ref a :: vs) H C2 gs) : EvO1 (tMeth C m sp [] E ta tr) σ H C2 gs := fun H1 e Q q =>
  h H1 e _ fun H2 e2 => ⟨a, dx, fs, rfl, e2 _ _ (e _ _ ho), hl, hr H2 (e.trans e2) _ fun H3 e3 => by
    have k := hs H3 ((e.trans e2).trans e3) Q (fun p dx2 H4 hp e4 h4 => q p dx2 H4 (fresh_back (e2.trans e3) hp) ((e2.trans e3).trans e4) h4) E
    show sp (V.ref a :: (vs ++ [])) H3 Q E
    rw [List.append_nil]
    exact k⟩
/-- o.m(..), o a new object, m a new list -/
theorem el_methO {C : Addr} {fs : List (Str × V)} {m : Str} {sp : Sp} {E : XK} {tr : TA} {vs : List V} {xs : List V} (h : EvO1 ta σ H C fs) (hl : fs.lookup m = none) (hr : EvA tr σ H vs) (hs : ∀ p dx H1, Ex H H1 → H1 p = some (.ins C dx fs) → SpL sp (.ref p :: vs) H1 xs) : EvL (tMeth C m sp [] E ta tr) σ H xs := fun H1 e Q q =>
  h H1 e _ fun p dx H2 _ e2 h2 => ⟨p, dx, fs, rfl, h2, hl, hr H2 (e.trans e2) _ fun H3 e3 => by
    have k := hs p dx H3 ((e.trans e2).trans e3) (e3 _ _ h2) H3 (Ex.refl H3) Q (fun l H4 hp e4 h4 => q l H4 (fresh_back (e2.trans e3) hp) ((e2.trans e3).trans e4) h4) E
    show sp (V.ref p :: (vs ++ [])) H3 Q E
    rw [List.append_nil]
    exact k⟩
end
/-- x = f(..), what f promises told in full -/
theorem q_calR {σ : L2.St} {H : Hp} {D : Ends} {tz : TS} {i : Nat} {sp : Sp} {E : XK} {tr : TA} {vs : List V} (h : EvA tr σ H vs) (k : ∀ H1, Ex H H1 → sp vs H1 (fun x H2 => tz D (σ.set i (some x)) H2) E) : tSeq (tAsg (tCall sp [] E tr) (gName i)) tz D σ H := h H (Ex.refl H) _ (fun H1 e1 => by
  have q := k H1 e1
  show sp (vs ++ []) H1 _ E
  rw [List.append_nil]
  exact q)
/-- return [f(..)], the same -/
theorem r_calR {σ : L2.St} {H : Hp} {D : Ends} {sp : Sp} {E : XK} {tr : TA} {vs : List V} (h : EvA tr σ H vs) (k : ∀ H1, Ex H H1 → sp vs H1 (fun x H2 => ∀ p, H2 p = none → D.rt (.ref p) (upd H2 p (.lst [x]))) E) (hm : ∀ (Q Q' : VK), (∀ x H2, Q x H2 → Q' x H2) → ∀ H1, sp vs H1 Q E → sp vs H1 Q' E) :
    tRet (tLst (tCons (tCall sp [] E tr) tNil)) D σ H := h H (Ex.refl H) _ (fun H1 e1 => by
  have q := k H1 e1
  show sp (vs ++ []) H1 _ E
  rw [List.append_nil]
  exact hm _ _ (fun x H2 z => ⟨by show 1 ≤ sizeLine; decide, z⟩) H1 q)
theorem mul_bd {x y m n : Int} (hx : 0 ≤ x ∧ x ≤ m) (hy : 0 ≤ y ∧ y ≤ n) : 0 ≤ x * y ∧ x * y ≤ m * n :=
  ⟨Int.mul_nonneg hx.1 hy.1, Int.mul_le_mul hx.2 hy.2 hy.1 (by omega)⟩
/-- o.f, the written part by its own name -/
theorem pe_fldK {K : PySem.W.Frag} {X : Cx} {e : Expr} {ta : TE} {f : Str} {pos : Pos} (hK : X.K = K) (he : PE X e ta) (hb : attributeBase e f X.env (eval e X.env) = eval e X.env) : PE X (.Attribute e f pos) (tFld K ta f) := by
  subst hK
  exact pe_fld he hb
theorem and_if {p q : Prop} [Decidable p] [Decidable q] : (decide p && decide q) = (if p then decide q else false) := by
  by_cases h : p
  · rw [if_pos h, decide_eq_true h]; rfl
  · rw [if_neg h, decide_eq_false h]; rfl
theorem and_ifB {p : Prop} [Decidable p] {b : Bool} : (decide p && b) = (if p then b else false) := by
  by_cases h : p
  · rw [if_pos h, decide_eq_true h]; rfl
  · rw [if_neg h, decide_eq_false h]; rfl
theorem or_ifB {p : Prop} [Decidable p] {b : Bool} : (decide p || b) = (if p then true else b) := by
  by_cases h : p
  · rw [if_pos h, decide_eq_true h]; rfl
  · rw [if_neg h, decide_eq_false h]; rfl
/-! ### pins -/
def pinF (q : FB.P4) : List (Str × V) := [(("one" : Str), .int q.u), (("two" : Str), .int q.v), (("behind_one" : Str), .int q.w), (("behind_two" : Str), .int q.z)]
theorem pinF_is (u v w z : V) : putF "behind_two" z (putF "behind_one" w (putF "two" v (putF "one" u []))) = [(("one" : Str), u), (("two" : Str), v), (("behind_one" : Str), w), (("behind_two" : Str), z)] := by
  with_unfolding_all rfl
def spPinN (Pn : Addr) : Sp := fun vs H Q _ => ∃ (p dx : Addr) (u v w z : Int), vs = [.ref p, .int u, .int v, .int w, .int z] ∧ H p = some (.ins Pn dx []) ∧ Fills Pn H p dx (pinF ⟨u, v, w, z⟩) Q
def spPinL (Pn : Addr) : Sp := fun vs H Q _ => ∃ (p dx : Addr) (q : FB.P4), vs = [.ref p] ∧ H p = some (.ins Pn dx (pinF q)) ∧ RetV (.int (FB.ab (q.u - q.v))) H Q
def spPinM (Pn : Addr) : Sp := fun vs H Q _ => ∃ (p dx : Addr) (q : FB.P4), vs = [.ref p] ∧ H p = some (.ins Pn dx (pinF q)) ∧ RetV (.int (q.u + q.v)) H Q
def spPinC (Pn : Addr) : Sp := fun vs H Q _ => ∃ (p dx : Addr) (q : FB.P4) (d : Int), vs = [.ref p, .int d] ∧ H p = some (.ins Pn dx (pinF q)) ∧ RetV (.bl (FB.canBe q.w q.z d)) H Q
theorem spv_least {Pn p dx : Addr} {H : Hp} {q : FB.P4} (h : H p = some (.ins Pn dx (pinF q))) : SpV (spPinL Pn) [.ref p] H (.int (FB.ab (q.u - q.v))) := fun H1 e Q k E => ⟨p, dx, q, rfl, e _ _ h, k⟩
theorem spv_most {Pn p dx : Addr} {H : Hp} {q : FB.P4} (h : H p = some (.ins Pn dx (pinF q))) : SpV (spPinM Pn) [.ref p] H (.int (q.u + q.v)) := fun H1 e Q k E => ⟨p, dx, q, rfl, e _ _ h, k⟩
theorem spv_can {Pn p dx : Addr} {H : Hp} {q : FB.P4} {d : Int} (h : H p = some (.ins Pn dx (pinF q))) : SpV (spPinC Pn) [.ref p, .int d] H (.bl (FB.canBe q.w q.z d)) := fun H1 e Q k E => ⟨p, dx, q, d, rfl, e _ _ h, k⟩
/-- a pin of the bars -/
def spBP (B Pn : Addr) : Sp := fun vs H Q _ => ∃ (p : Addr) (n g a c r : Int), vs = [.ref p, .int n] ∧ BarsAt B H p g a c r ∧ ∀ q dx H2, H q = none → Ex H H2 → H2 q = some (.ins Pn dx (pinF (FB.pinI g a c r n))) → Q (.ref q) H2
theorem spo_pin {B Pn p : Addr} {H : Hp} {n g a c r : Int} (h : BarsAt B H p g a c r) : SpO (spBP B Pn) [.ref p, .int n] H Pn (pinF (FB.pinI g a c r n)) := fun H1 e Q k E => ⟨p, n, g, a, c, r, rfl, h.mono e, k⟩
/-- there must be a figure -/
def spBM (R B : Addr) : Sp := fun vs H Q E => ∃ (p : Addr) (g a c r : Int), vs = [.ref p] ∧ BarsAt B H p g a c r ∧ FB.lensOk g a c r = true ∧ (FB.kindI g a c r ≠ 0 → RetV .non H Q) ∧ (FB.kindI g a c r = 0 → Out R E (-2) H)
theorem q_mustbe {σ : L2.St} {H : Hp} {D : Ends} {tz : TS} {R B p : Addr} {E : XK} {g a c r : Int} {te : TE} (h : Ev te σ H (.ref p)) (hb : BarsAt B H p g a c r) (hl : FB.lensOk g a c r = true)
    (h1 : FB.kindI g a c r ≠ 0 → ∀ H1, Ex H H1 → tz D σ H1) (h2 : FB.kindI g a c r = 0 → Out R E (-2) H) : tSeq (tDrop (tMeth B "must_be" (spBM R B) [] E te tNil)) tz D σ H :=
  h H (Ex.refl H) _ fun H1 e1 => by
    have hb1 := hb.mono e1
    obtain ⟨dx, l, b1, b2⟩ := hb1
    exact ⟨p, dx, _, rfl, b1, by with_unfolding_all rfl, p, g, a, c, r, rfl, hb.mono e1, hl, fun hz H2 e2 => h1 hz H2 (e1.trans e2), fun hz => (h2 hz).go e1⟩
/-- whether full -/
def spIF (Pn : Addr) : Sp := fun vs H Q _ => ∃ (p dx : Addr) (q : FB.P4), vs = [.ref p] ∧ H p = some (.ins Pn dx (pinF q)) ∧ RetV (.bl (FB.fullI q)) H Q
def spFull : Sp := fun vs H Q _ => ∃ (g a c r pin : Int), vs = [.int g, .int a, .int c, .int r, .int pin] ∧ Gives (FB.ansFull g a c r pin) Q
end FW
/-! Four bars: promises and words for the swings: great numbers, angles. -/
namespace FW
open PySem L2 Evl
/-! ### how wide a number is -/
def Wd (x : Int) (n : Nat) : Prop := x.natAbs < 2 ^ n
theorem Wd.mono {x : Int} {a b : Nat} (h : Wd x a) (l : a ≤ b) : Wd x b := Nat.lt_of_lt_of_le h (Nat.pow_le_pow_right (by decide) l)
theorem Wd.mul {x y : Int} {a b : Nat} (h : Wd x a) (k : Wd y b) : Wd (x * y) (a + b) := by
  unfold Wd at *
  rw [Int.natAbs_mul, Nat.pow_add]
  exact Nat.mul_lt_mul'' h k
theorem two_pow (a : Nat) : (2 : Nat) ^ (a + 1) = 2 ^ a + 2 ^ a := by rw [Nat.pow_succ]; omega
theorem Wd.add {x y : Int} {a : Nat} (h : Wd x a) (k : Wd y a) : Wd (x + y) (a + 1) := by
  unfold Wd at *
  rw [two_pow]
  omega
theorem Wd.sub {x y : Int} {a : Nat} (h : Wd x a) (k : Wd y a) : Wd (x - y) (a + 1) := by
  unfold Wd at *
  rw [two_pow]
  omega
theorem Wd.ab {x : Int} {a : Nat} (h : Wd x a) : Wd (FB.ab x) a := by
  unfold Wd FB.ab at *
  split <;> omega
theorem Wd.neg {x : Int} {a : Nat} (h : Wd x a) : Wd (0 - x) a := by
  unfold Wd at *
  omega
theorem wd2 : Wd 2 2 := by unfold Wd; decide
theorem wd4 : Wd 4 3 := by unfold Wd; decide
theorem wd1 : Wd 1 1 := by unfold Wd; decide
theorem wd_small {x : Int} (h : -2000 ≤ x ∧ x ≤ 2000) : Wd x 11 := by
  unfold Wd
  have : (2 : Nat) ^ 11 = 2048 := by decide
  omega
section
variable {K : PySem.W.Frag} {σ : L2.St} {H H' : Hp} {ta tb te : TE} {x y z v : V} {D : Ends} {tz : TS}
theorem rv_mulW {i j : Int} {a b : Nat} (h : Wd i a) (k : Wd j b) (ha : 0 < a) (hb : 0 < b) (l : a + b ≤ 1000000) : RV (rI CMulW fun i j => .int (i * j)) (.int i) (.int j) H (.int (i * j)) := rv_I (wide_mul h k ha hb l)
/-- a product, its width told -/
theorem ev_mul {i j : Int} {a b : Nat} (h1 : Ev ta σ H (.int i)) (h2 : Ev tb σ H (.int j)) (h : Wd i a) (k : Wd j b) (ha : 0 < a) (hb : 0 < b) (l : a + b ≤ 1000000) : Ev (tOp (rI CMulW fun i j => .int (i * j)) ta tb) σ H (.int (i * j)) := ev_op h1 h2 (rv_mulW h k ha hb l)
theorem q_tup2 {i j : Nat} {a b : V} {t : Addr} (h : Ev te σ H (.ref t)) (hl : SqT K H t [a, b]) (q : ∀ H1, Ex H H1 → tz D ((σ.set i (some a)).set j (some b)) H1) :
    tSeq (tAsg te (gTup K 2 (gCons (gName i) (gCons (gName j) gNil)))) tz D σ H :=
  h H (Ex.refl H) _ fun H1 e1 => ⟨t, _, rfl, ex_t e1 hl, rfl, a, _, rfl, b, _, rfl, rfl, q H1 e1⟩
/-- a tuple, new or not -/
def EvTp (te : TE) (σ : L2.St) (H : Hp) (xs : List V) : Prop := ∀ H1, Ex H H1 → ∀ Q : VK, (∀ p H2, Ex H1 H2 → H2 p = some (.tup xs) → Q (.ref p) H2) → te σ H1 Q
theorem tp_of {xs : List V} {t : Addr} (h : Ev te σ H (.ref t)) (ht : H t = some (.tup xs)) : EvTp te σ H xs := fun H1 e Q q => h H1 e Q fun H2 e2 => q t H2 e2 (e2 _ _ (e _ _ ht))
theorem tp_new {xs : List V} (h : EvU te σ H xs) : EvTp te σ H xs := fun H1 e Q q => h H1 e Q fun p H2 _ e2 h2 => q p H2 e2 h2
end
/-! ### angles -/
def tuF (a b c : Addr) : List (Str × V) := [(("roots" : Str), .ref a), (("level" : Str), .ref b), (("rise" : Str), .ref c)]
theorem tuF_new (a b c : V) : putF "rise" c (putF "level" b (putF "roots" a [])) = [(("roots" : Str), a), (("level" : Str), b), (("rise" : Str), c)] := by with_unfolding_all rfl
def TuAt (Tu : Addr) (H : Hp) (p : Addr) (T : FB.Tn) : Prop := ∃ dx t1 t2 t3, H p = some (.ins Tu dx (tuF t1 t2 t3)) ∧ H t1 = some (.tup (LI [T.P, T.Q])) ∧ H t2 = some (.tup (LI [T.A, T.D])) ∧ H t3 = some (.tup (LI [T.B, T.C]))
theorem TuAt.mono {Tu : Addr} {H H' : Hp} {p : Addr} {T : FB.Tn} (e : Ex H H') (h : TuAt Tu H p T) : TuAt Tu H' p T := by
  obtain ⟨dx, t1, t2, t3, h1, h2, h3, h4⟩ := h
  exact ⟨dx, t1, t2, t3, e _ _ h1, e _ _ h2, e _ _ h3, e _ _ h4⟩
structure Sz (T : FB.Tn) (n : Nat) : Prop where
  p : Wd T.P 60
  q : Wd T.Q 60
  a : Wd T.A n
  d : Wd T.D n
  b : Wd T.B n
  c : Wd T.C n
theorem Sz.dbl {T : FB.Tn} {n : Nat} (h : Sz T n) : Sz T.dbl (2 * n + 130) := by
  refine ⟨h.p, h.q, ?_, ?_, ?_, ?_⟩
  · have x1 := (h.a.mul h.a).mono (show n + n ≤ 2 * n + 120 by omega)
    have x2 := (((h.d.mul h.d).mul h.p).mul h.q).mono (show n + n + 60 + 60 ≤ 2 * n + 120 by omega)
    have x3 := ((h.b.mul h.b).mul h.p).mono (show n + n + 60 ≤ 2 * n + 120 + 1 by omega)
    have x4 := ((h.c.mul h.c).mul h.q).mono (show n + n + 60 ≤ 2 * n + 120 + 1 + 1 by omega)
    exact (((x1.add x2).sub x3).sub x4).mono (by omega)
  · have x1 := (h.a.mul h.d)
    have x2 := (h.b.mul h.c)
    exact (wd2.mul (x1.sub x2)).mono (by omega)
  · have x1 := (h.a.mul h.b).mono (show n + n ≤ n + n + 60 by omega)
    have x2 := ((h.d.mul h.c).mul h.q)
    exact (wd2.mul (x1.add x2)).mono (by omega)
  · have x1 := (h.a.mul h.c).mono (show n + n ≤ n + n + 60 by omega)
    have x2 := ((h.d.mul h.b).mul h.p)
    exact (wd2.mul (x1.add x2)).mono (by omega)
theorem Sz.mono {T : FB.Tn} {a b : Nat} (h : Sz T a) (l : a ≤ b) : Sz T b := ⟨h.p, h.q, h.a.mono l, h.d.mono l, h.b.mono l, h.c.mono l⟩
theorem Sz.contrary {T : FB.Tn} {n : Nat} (h : Sz T n) : Sz T.contrary n := ⟨h.p, h.q, h.a.neg, h.d.neg, h.b.neg, h.c.neg⟩
def GivesT (Tu : Addr) (T : FB.Tn) (H : Hp) (Q : VK) : Prop := ∀ q H2, H q = none → Ex H H2 → TuAt Tu H2 q T → Q (.ref q) H2
def spTuN (Tu : Addr) : Sp := fun vs H Q _ => ∃ (p dx a b c : Addr), vs = [.ref p, .ref a, .ref b, .ref c] ∧ H p = some (.ins Tu dx []) ∧ Fills Tu H p dx (tuF a b c) Q
/-- Turned(..), its three tuples new or not -/
theorem mk_turned {σ : L2.St} {H : Hp} {Tu : Addr} {E : XK} {ta tb tc : TE} {T : FB.Tn} {Q : VK} (h1 : EvTp ta σ H (LI [T.P, T.Q])) (h2 : EvTp tb σ H (LI [T.A, T.D])) (h3 : EvTp tc σ H (LI [T.B, T.C])) (k : GivesT Tu T H Q) :
    tMake Tu (spTuN Tu) [] E (tCons ta (tCons tb (tCons tc tNil))) σ H Q :=
  h1 H (Ex.refl H) _ fun a H1 e1 a1 => h2 H1 e1 _ fun b H2 e2 b2 => h3 H2 (e1.trans e2) _ fun c H3 e3 c3 => by
    intro p dx hp hd hne
    refine ⟨p, dx, a, b, c, rfl, upd_same, ?_⟩
    intro H4 k4 h4
    have e4 := ex_made hp hd k4
    exact ⟨rfl, k p H4 (fresh_back ((e1.trans e2).trans e3) hp) (((e1.trans e2).trans e3).trans e4) ⟨dx, a, b, c, h4, e4 _ _ (e3 _ _ (e2 _ _ a1)), e4 _ _ (e3 _ _ b2), e4 _ _ c3⟩⟩
def spTuD (Tu : Addr) : Sp := fun vs H Q _ => ∃ (p : Addr) (T : FB.Tn) (n : Nat), vs = [.ref p] ∧ TuAt Tu H p T ∧ Sz T n ∧ n ≤ 100000 ∧ GivesT Tu T.dbl H Q
def spTuC (Tu : Addr) : Sp := fun vs H Q _ => ∃ (p : Addr) (T : FB.Tn), vs = [.ref p] ∧ TuAt Tu H p T ∧ GivesT Tu T.contrary H Q
def spTuH (Tu : Addr) : Sp := fun vs H Q _ => ∃ (p : Addr) (T : FB.Tn) (n : Nat), vs = [.ref p] ∧ TuAt Tu H p T ∧ Sz T n ∧ n ≤ 100000 ∧ RetV (.bl T.half) H Q
theorem spv_half {Tu p : Addr} {H : Hp} {T : FB.Tn} {n : Nat} (h : TuAt Tu H p T) (s : Sz T n) (l : n ≤ 100000) : SpV (spTuH Tu) [.ref p] H (.bl T.half) := fun H1 e Q k E => ⟨p, T, n, rfl, h.mono e, s, l, k⟩
def spSg : Sp := fun vs H Q _ => ∃ (f o s t : Int) (n : Nat), vs = [.int f, .int o, .int s, .int t] ∧ Wd f n ∧ Wd s n ∧ Wd o 121 ∧ Wd t 121 ∧ n ≤ 200000 ∧ 0 < n ∧ RetV (.int (FB.sg f o s t)) H Q
theorem spv_sg {H : Hp} {f o s t : Int} {n : Nat} (h1 : Wd f n) (h2 : Wd s n) (h3 : Wd o 121) (h4 : Wd t 121) (l : n ≤ 200000) (n0 : 0 < n) : SpV spSg [.int f, .int o, .int s, .int t] H (.int (FB.sg f o s t)) := fun H1 e Q k E => ⟨f, o, s, t, n, rfl, h1, h2, h3, h4, l, n0, k⟩
/-- what evaluates to an angle -/
def EvTu (te : TE) (σ : L2.St) (H : Hp) (Tu : Addr) (T : FB.Tn) : Prop := ∀ H1, Ex H H1 → ∀ Q : VK, GivesT Tu T H1 Q → te σ H1 Q
theorem q_asgT {σ : L2.St} {H : Hp} {te : TE} {D : Ends} {tz : TS} {i : Nat} {Tu : Addr} {T : FB.Tn} (h : EvTu te σ H Tu T) (k : ∀ q H1, Ex H H1 → TuAt Tu H1 q T → tz D (σ.set i (some (.ref q))) H1) : tSeq (tAsg te (gName i)) tz D σ H := h H (Ex.refl H) _ fun q H1 _ e h1 => k q H1 e h1
theorem s_asgT {σ : L2.St} {H : Hp} {te : TE} {D : Ends} {i : Nat} {Tu : Addr} {T : FB.Tn} (h : EvTu te σ H Tu T) (k : ∀ q H1, Ex H H1 → TuAt Tu H1 q T → D.nx (σ.set i (some (.ref q))) H1) : tAsg te (gName i) D σ H := h H (Ex.refl H) _ fun q H1 _ e h1 => k q H1 e h1
theorem s_retT {σ : L2.St} {H : Hp} {te : TE} {D : Ends} {Tu : Addr} {T : FB.Tn} (h : EvTu te σ H Tu T) (k : GivesT Tu T H D.rt) : tRet te D σ H := h H (Ex.refl H) _ k
def spAI : Sp := fun vs H Q _ => ∃ (n f o : Int), vs = [.int n, .int f, .int o] ∧ (-2000 ≤ n ∧ n ≤ 2000) ∧ (-2000 ≤ f ∧ f ≤ 2000) ∧ (-2000 ≤ o ∧ o ≤ 2000) ∧ ∀ p H2, H p = none → Ex H H2 → H2 p = some (.tup (LI [(FB.angI n f o).c, (FB.angI n f o).s])) → Q (.ref p) H2
theorem eu_ai {σ : L2.St} {H : Hp} {E : XK} {tr : TA} {n f o : Int} (h : EvA tr σ H [.int n, .int f, .int o]) (h1 : -2000 ≤ n ∧ n ≤ 2000) (h2 : -2000 ≤ f ∧ f ≤ 2000) (h3 : -2000 ≤ o ∧ o ≤ 2000) : EvU (tCall spAI [] E tr) σ H (LI [(FB.angI n f o).c, (FB.angI n f o).s]) := fun H1 e Q q =>
  h H1 e _ fun H2 e2 => ⟨n, f, o, rfl, h1, h2, h3, fun p H3 hp e3 h3 => q p H3 (fresh_back e2 hp) (e2.trans e3) h3⟩
theorem ang_wd {n f o : Int} (h1 : -2000 ≤ n ∧ n ≤ 2000) (h2 : -2000 ≤ f ∧ f ≤ 2000) (h3 : -2000 ≤ o ∧ o ≤ 2000) : Wd (FB.angI n f o).c 24 ∧ Wd (FB.angI n f o).s 50 := by
  have a := wd_small h1
  have b := wd_small h2
  have c := wd_small h3
  have x := ((a.mul a).add (b.mul b)).sub ((c.mul c).mono (show 11 + 11 ≤ 11 + 11 + 1 by decide))
  refine ⟨x.mono (by decide), ?_⟩
  exact ((((((wd4.mul a).mul a).mul b).mul b).mono (show 3 + 11 + 11 + 11 + 11 ≤ 48 by decide)).sub ((x.mul x).mono (show 24 + 24 ≤ 48 by decide))).mono (by decide)
def spDi (Tu : Addr) : Sp := fun vs H Q _ => ∃ (p q : Addr) (x y : FB.An), vs = [.ref p, .ref q] ∧ H p = some (.tup (LI [x.c, x.s])) ∧ H q = some (.tup (LI [y.c, y.s])) ∧ Wd x.c 24 ∧ Wd y.c 24 ∧ GivesT Tu (FB.diffT x y) H Q
theorem et_di {σ : L2.St} {H : Hp} {Tu : Addr} {E : XK} {ta tb : TE} {x y : FB.An} (h1 : EvTp ta σ H (LI [x.c, x.s])) (h2 : EvTp tb σ H (LI [y.c, y.s])) (w1 : Wd x.c 24) (w2 : Wd y.c 24) : EvTu (tCall (spDi Tu) [] E (tCons ta (tCons tb tNil))) σ H Tu (FB.diffT x y) := fun H1 e Q k =>
  h1 H1 e _ fun p H2 e2 p2 => h2 H2 (e.trans e2) _ fun q H3 e3 q3 => ⟨p, q, x, y, rfl, e3 _ _ p2, q3, w1, w2, fun r H4 hr e4 h4 => k r H4 (fresh_back (e2.trans e3) hr) ((e2.trans e3).trans e4) h4⟩
theorem sz_diff {x y : FB.An} (h1 : Wd x.c 24) (h2 : Wd x.s 50) (h3 : Wd y.c 24) (h4 : Wd y.s 50) : Sz (FB.diffT x y) 60 :=
  ⟨h2.mono (by decide), h4.mono (by decide), (h1.mul h3).mono (by decide), wd1.mono (by decide), h3.mono (by decide), h1.neg.mono (by decide)⟩
def spRW (Tu : Addr) : Sp := fun vs H Q _ => ∃ (l : Addr) (g a c r : Int), vs = [.ref l] ∧ H l = some (.lst (LI [g, a, c, r])) ∧ FB.lensOk g a c r = true ∧ GivesT Tu (FB.rockerT g a c r) H Q
def spCW (Tu : Addr) : Sp := fun vs H Q _ => ∃ (l : Addr) (g a c r : Int), vs = [.ref l] ∧ H l = some (.lst (LI [g, a, c, r])) ∧ FB.lensOk g a c r = true ∧ GivesT Tu (FB.crankT g a c r) H Q
theorem et_rw {σ : L2.St} {H : Hp} {Tu l : Addr} {E : XK} {te : TE} {g a c r : Int} (h : Ev te σ H (.ref l)) (hl : H l = some (.lst (LI [g, a, c, r]))) (ok : FB.lensOk g a c r = true) : EvTu (tCall (spRW Tu) [] E (tCons te tNil)) σ H Tu (FB.rockerT g a c r) := fun H1 e Q k =>
  h H1 e _ fun H2 e2 => ⟨l, g, a, c, r, rfl, e2 _ _ (e _ _ hl), ok, fun q H3 hq e3 h3 => k q H3 (fresh_back e2 hq) (e2.trans e3) h3⟩
theorem et_cw {σ : L2.St} {H : Hp} {Tu l : Addr} {E : XK} {te : TE} {g a c r : Int} (h : Ev te σ H (.ref l)) (hl : H l = some (.lst (LI [g, a, c, r]))) (ok : FB.lensOk g a c r = true) : EvTu (tCall (spCW Tu) [] E (tCons te tNil)) σ H Tu (FB.crankT g a c r) := fun H1 e Q k =>
  h H1 e _ fun H2 e2 => ⟨l, g, a, c, r, rfl, e2 _ _ (e _ _ hl), ok, fun q H3 hq e3 h3 => k q H3 (fresh_back e2 hq) (e2.trans e3) h3⟩
def spPO (Tu : Addr) : Sp := fun vs H Q _ => ∃ (p : Addr) (m : Int) (T : FB.Tn), vs = [.ref p, .int m] ∧ TuAt Tu H p T ∧ Sz T 60 ∧ (1 ≤ m ∧ m ≤ 8) ∧ RetV (.int (FB.parts m.toNat T 0)) H Q
theorem spv_po {Tu p : Addr} {H : Hp} {m : Int} {T : FB.Tn} (h : TuAt Tu H p T) (s : Sz T 60) (hm : 1 ≤ m ∧ m ≤ 8) : SpV (spPO Tu) [.ref p, .int m] H (.int (FB.parts m.toNat T 0)) := fun H1 e Q k E => ⟨p, m, T, rfl, h.mono e, s, hm, k⟩
def spSwing : Sp := fun vs H Q _ => ∃ (g a c r which m : Int), vs = [.int g, .int a, .int c, .int r, .int which, .int m] ∧ Gives (FB.ansSwing g a c r which m) Q
theorem r_turned {σ : L2.St} {H : Hp} {D : Ends} {Tu : Addr} {E : XK} {ta tb tc : TE} {T : FB.Tn} (h1 : EvTp ta σ H (LI [T.P, T.Q])) (h2 : EvTp tb σ H (LI [T.A, T.D])) (h3 : EvTp tc σ H (LI [T.B, T.C])) (k : GivesT Tu T H D.rt) :
    tRet (tMake Tu (spTuN Tu) [] E (tCons ta (tCons tb (tCons tc tNil)))) D σ H := mk_turned h1 h2 h3 k
theorem r_contrary {σ : L2.St} {H : Hp} {D : Ends} {Tu : Addr} {E : XK} {te : TE} {T : FB.Tn} (h : EvTu te σ H Tu T) (k : GivesT Tu T.contrary H D.rt) : tRet (tMeth Tu "contrary" (spTuC Tu) [] E te tNil) D σ H :=
  h H (Ex.refl H) _ fun q H1 hq e1 h1 => by
    have h1' := h1
    obtain ⟨dx, t1, t2, t3, hp, _⟩ := h1'
    exact ⟨q, dx, _, rfl, hp, by with_unfolding_all rfl, q, T, rfl, h1, fun r H2 hr e2 h2 => k r H2 (fresh_back e1 hr) (e1.trans e2) h2⟩
theorem et_dbl {σ : L2.St} {H : Hp} {Tu p : Addr} {E : XK} {te : TE} {T : FB.Tn} {n : Nat} (h : Ev te σ H (.ref p)) (ht : TuAt Tu H p T) (sz : Sz T n) (l : n ≤ 100000) : EvTu (tMeth Tu "doubled" (spTuD Tu) [] E te tNil) σ H Tu T.dbl := fun H1 e Q k =>
  h H1 e _ fun H2 e2 => by
    have h1 := (ht.mono e).mono e2
    have h1' := h1
    obtain ⟨dx, t1, t2, t3, hp, _⟩ := h1'
    exact ⟨p, dx, _, rfl, hp, by with_unfolding_all rfl, p, T, n, rfl, h1, sz, l, fun r H3 hr e3 h3 => k r H3 (fresh_back e2 hr) (e2.trans e3) h3⟩
theorem gives_go {Tu : Addr} {T : FB.Tn} {H H' : Hp} {Q : VK} (k : GivesT Tu T H Q) (e : Ex H H') : GivesT Tu T H' Q := fun q H2 hq e2 h2 => k q H2 (fresh_back e hq) (e.trans e2) h2
/-- how wide the numbers are behind so many doublings -/
def wdt : Nat → Nat
  | 0 => 60
  | k + 1 => 2 * wdt k + 130
theorem wdt_le {k : Nat} (h : k ≤ 8) : wdt k ≤ 100000 := by
  match k, h with
  | 0, _ => decide
  | 1, _ => decide
  | 2, _ => decide
  | 3, _ => decide
  | 4, _ => decide
  | 5, _ => decide
  | 6, _ => decide
  | 7, _ => decide
  | 8, _ => decide
theorem sz_ways {g a c r : Int} (ok : FB.lensOk g a c r = true) : Sz (FB.rockerT g a c r) 60 ∧ Sz (FB.crankT g a c r) 60 := by
  have q := FB.lensOk_iff.1 ok
  have w1 := ang_wd (n := g) (f := r) (o := c + a) (by omega) (by omega) (by omega)
  have w2 := ang_wd (n := g) (f := r) (o := c - a) (by omega) (by omega) (by omega)
  have w3 := ang_wd (n := g) (f := c - a) (o := r) (by omega) (by omega) (by omega)
  have w4 := ang_wd (n := g) (f := c + a) (o := r) (by omega) (by omega) (by omega)
  exact ⟨sz_diff w1.1 w1.2 w2.1 w2.2, (sz_diff w3.1 w3.2 w4.1 w4.2).contrary⟩
/-- the last row of swing -/
def t_fin (Tu : Addr) (E : XK) : TS := tRet (tLst (tCons (tC (.int 0)) (tCons (tC (.int 1)) (tCons (tCall (spPO Tu) [] E (tCons (tVar 7) (tCons (tVar 5) tNil))) tNil))))
theorem fin_ok {Tu q : Addr} {E : XK} {D : Ends} {σ : L2.St} {H : Hp} {T : FB.Tn} {m : Int} (h7 : σ[7]? = some (some (.ref q))) (h5 : σ[5]? = some (some (.int m))) (ht : TuAt Tu H q T) (s : Sz T 60) (hm : 1 ≤ m ∧ m ≤ 8) (k : Gives [0, 1, FB.parts m.toNat T 0] D.rt) : t_fin Tu E D σ H :=
  s_gives (el_lst (ea_cons ev_c (ea_cons ev_c (ea_cons (ev_cal (ea_cons (ev_var h7) (ea_cons (ev_var h5) ea_nil)) (spv_po ht s hm)) ea_nil))) (by show 3 ≤ 100000; decide)) k
end FW
namespace FW
open PySem L2 Evl
def top (i : Nat) : Stmt := PySem.Challenge.pw_fourbars_s08_swing.main.body.getD i (.Pass ⟨0, 0, 0, 0⟩)
abbrev tx_Refused_new : Stmt := inClass (top 6) 0
abbrev tx_must : Stmt := top 7
abbrev tx_Bars_new : Stmt := inClass (top 8) 0
abbrev tx_Bars_kind : Stmt := inClass (top 8) 1
abbrev tx_Turned_new : Stmt := inClass (top 10) 0
abbrev tx_difference : Stmt := top 12
abbrev tx_angle_in : Stmt := top 13
abbrev tx_rocker_way : Stmt := top 15
abbrev tx_Turned_contrary : Stmt := inClass (top 10) 2
abbrev tx_crank_way : Stmt := top 16
abbrev tx_sign_of : Stmt := top 11
abbrev tx_Turned_is_half : Stmt := inClass (top 10) 3
abbrev tx_Turned_doubled : Stmt := inClass (top 10) 1
abbrev tx_parts_of : Stmt := top 14
abbrev tx_swing : Stmt := top 19
section
variable {P : Program} {w : World} {K : PySem.W.Frag} {mg : Str → Option Value} {base : Heap} {B R Tu : Addr}
theorem sc_Refused_new : FnScope ["self", "code"] ["self", "code"] (defScope tx_Refused_new) := ⟨rfl, rfl, rfl, by decide +kernel, rfl, by decide +kernel, by decide +kernel⟩
theorem ok_Refused_new {f : Addr} {fd : FuncData} (F : Fun K "__init__" "Refused.__init__" tx_Refused_new f fd) (T : OexC K R) (hno : PySem.W.findIn K (.ref R) "code" = some none) : FnOk P w K mg base CX0 1 f fd ["self", "code"] (spRI R) := by
  refine F.ok sc_Refused_new (fun vs H Q E h => ?_) (fun cdv A outer s H vs Q E hr h => ?_)
  · obtain ⟨a, n, rfl, _⟩ := h
    rfl
  · obtain ⟨a, n, rfl, ha, k⟩ := h
    refine ⟨_, pss_one (ps_ost (pv 0) (pv 1)), ?_⟩
    exact ⟨_, rfl, _, rfl, a, R, rfl, T, hno, Or.inl ⟨ha, fun dx hd hne => k dx hd hne⟩⟩
theorem sc_must : FnScope ["is_so", "code"] ["is_so", "code"] (defScope tx_must) := ⟨rfl, rfl, rfl, by decide +kernel, rfl, by decide +kernel, by decide +kernel⟩
theorem ok_must {f fI : Addr} {fd fdI : FuncData} (F : Fun K "must" "must" tx_must f fd) (FI : Fun K "__init__" "Refused.__init__" tx_Refused_new fI fdI) (oex : OexC K R) (hno : PySem.W.findIn K (.ref R) "code" = some none)
    (iR : PySem.W.findIn K (.ref R) "__init__" = some (some (.ref fI))) (tR : PySem.W.typeIn K (.ref fI) = some (.type "function")) (bI : Binds K fdI ["self", "code"] []) (gR : mg "Refused" = some (.ref R)) : FnOk P w K mg base (L2.CX P w) 3 f fd ["is_so", "code"] (spMust R) := by
  have GI : FnOk P w K mg base CX0 1 fI fdI ["self", "code"] (spRI R) := ok_Refused_new FI oex hno
  refine F.okX sc_must (fun vs H Q E h => ?_) (fun cdv A outer s H vs Q E hr h => ?_)
  · obtain ⟨b, n, rfl, _⟩ := h
    rfl
  · obtain ⟨b, n, rfl, k1, k2⟩ := h
    refine ⟨_, (pss_one (ps_if (pt_not (pt_val (pv 0))) (pss_one (ps_raise rfl (takes_of rfl rfl rfl rfl) (pmk_oex oex iR tR GI hr bI .nil pass0 rfl gR (pa_cons (pv 1) pa_nil)))) pss_nil)), ?_⟩
    refine s_if (b := !b) (et_not (et_val (ev_var rfl))) (fun hb H1 e => ?_) (fun hb H1 e => ?_)
    · refine ⟨_, rfl, (by show 1 ≤ 1000; decide), fun a ha => ⟨a, n, rfl, upd_same, fun dx hdx hne => ⟨rfl, dx, [(("code" : Str), .int n)], upd_same, ?_, ?_, ?_⟩⟩⟩
      · rw [upd_ne hne]; exact upd_same
      · rw [upd_ne hne] at hdx; exact hdx
      · have hb' : b = false := by cases b <;> first | rfl | cases hb
        rw [upd_ne hne] at hdx
        refine k2 hb' dx _ (e.trans fun x o hx => ?_) upd_same
        have n1 : x ≠ dx := ne_of_none hx hdx
        have n2 : x ≠ a := ne_of_none hx ha
        rw [upd_ne n1, del_ne n2, upd_ne n2, upd_ne n1, upd_ne n2]
        exact hx
    · have hb' : b = true := by cases b <;> first | rfl | cases hb
      exact k1 hb' H1 e
theorem sc_Bars_new : FnScope ["self", "lengths", "one"] ["self", "lengths"] (defScope tx_Bars_new) := ⟨rfl, rfl, rfl, by decide +kernel, rfl, by decide +kernel, by decide +kernel⟩
theorem ok_Bars_new {f : Addr} {fd : FuncData} (F : Fun K "__init__" "Bars.__init__" tx_Bars_new f fd) (cmust : Cal P w K mg base 3 "must" (spMust R)) (zall : mg "all" = none) {tkgMOST_LENGTH : Tok} (gMOST_LENGTH : mg "MOST_LENGTH" = some (.int 999 tkgMOST_LENGTH)) (clBars : Cls K B) (nBars_lengths : NoAttr K B "lengths") :
    FnOk P w K mg base (L2.CX P w) 4 f fd ["self", "lengths"] (spBI R B) := by
  refine F.okX sc_Bars_new (fun vs H Q E h => ?_) (fun cdv A outer s H vs Q E hr h => ?_)
  · obtain ⟨p, dx, l, g, a, c, r, rfl, _⟩ := h
    rfl
  · obtain ⟨p, dx, l, g, a, c, r, rfl, hp, hl, hne, k1, k2⟩ := h
    refine ⟨_, (pss_cons (ps_expr (pe_cal cmust hr (by decide) (passE (takes_of rfl rfl rfl rfl)) (pa_cons (pe_callB (cr_all rfl) (by rfl) zall PyProof.Rows.boot_all (pa_cons (pe_lc (own := [("one", 2)]) (g := gName 2) (by rfl) sc_Bars_new.nd (pi_list (pv 1)) (blkOk_by (own := [("one", 2)]) (N := ["self", "lengths", "one"]) (sc := defScope tx_Bars_new) (by decide +kernel)) (fun _ _ _ _ _ => pg_name (i := 2) sc_Bars_new.nd rfl (Or.inl rfl)) (fun _ _ _ _ _ => pts_nil) (fun _ _ _ _ _ => (pe_and (pe_cmpR op_le pe_int (pv 2) (nomark _)) (pe_one (pe_cmpR op_le (pv 2) (pe_glob (v := .int 999) rfl gMOST_LENGTH ⟨_, rfl⟩) (nomark _)))))) pa_nil)) (pa_cons (pe_un un_neg pe_int) pa_nil))))
      (pss_one (ps_fld (pv 0) (pv 1) rfl))), ?_⟩
    refine q_must (b := FB.lensOk g a c r) (n := -1) (ea_cons (ev_is (ev_allL (bs := [(decide (1 ≤ g) && decide (g ≤ 999)), (decide (1 ≤ a) && decide (a ≤ 999)), (decide (1 ≤ c) && decide (c ≤ 999)), (decide (1 ≤ r) && decide (r ≤ 999))])
      (el_lcL (xs := LI [g, a, c, r]) (fun _ => true) (fun i => V.bl (decide (1 ≤ [g, a, c, r].getD i 0) && decide ([g, a, c, r].getD i 0 ≤ 999))) (ev_var rfl) (sq_of hl) (by show 4 ≤ 40000; decide) (fun _ => rfl) (fun _ _ _ _ _ => yes_T) (fun i x H1 e hi _ => ?_))) ?_) (ea_cons (ev_neg ev_c) ea_nil)) (fun hb H1 e => ?_) (fun hb H1 e => (k2 hb).go e)
    · obtain ⟨z, hz, rfl⟩ : ∃ z, [g, a, c, r][i]? = some z ∧ x = V.int z := by
        rw [LI, List.getElem?_map] at hi
        cases q : [g, a, c, r][i]? with
        | none => rw [q] at hi; cases hi
        | some z => rw [q] at hi; exact ⟨z, rfl, (Option.some.inj hi).symm⟩
      have e2 : [g, a, c, r].getD i 0 = z := by rw [List.getD_eq_getElem?_getD, hz]; rfl
      rw [e2]
      exact ev_andV (ev_op ev_c (ev_var rfl) rv_I0) fun _ => ev_op (ev_var rfl) ev_c rv_I0
    · simp [FB.lensOk]
    · refine s_fld (ev_var rfl) (ev_var rfl) (e _ _ hp) clBars nBars_lengths (by show 0 < 1000; decide) (fun H2 e2 hp2 => ?_)
      exact k1 hb _ (fun b o hb ho => by rw [upd_ne hb]; exact e2 _ _ (e _ _ ho)) upd_same
theorem sc_Bars_kind : FnScope ["self", "rising", "least", "longest", "others"] ["self"] (defScope tx_Bars_kind) := ⟨rfl, rfl, rfl, by decide +kernel, rfl, by decide +kernel, by decide +kernel⟩
theorem ok_Bars_kind {f : Addr} {fd : FuncData} (F : Fun K "kind" "Bars.kind" tx_Bars_kind f fd) (zsorted : mg "sorted" = none) (clBars : Cls K B) (nBars_lengths : NoAttr K B "lengths") {tkgIN_LINE : Tok} (gIN_LINE : mg "IN_LINE" = some (.int 1 tkgIN_LINE)) (zint : mg "int" = none) {tkgEVEN : Tok} (gEVEN : mg "EVEN" = some (.int 6 tkgEVEN)) :
    FnOk P w K mg base CX0 1 f fd ["self"] (spBK B) := by
  refine F.ok sc_Bars_kind (fun vs H Q E h => ?_) (fun cdv A outer s H vs Q E hr h => ?_)
  · obtain ⟨p, g, a, c, r, rfl, _⟩ := h
    rfl
  · obtain ⟨p, g, a, c, r, rfl, ⟨dx, l, hp, hl⟩, hok, k⟩ := h
    refine ⟨_, (pss_cons (ps_set (i := 1) sc_Bars_kind.nd rfl (Or.inl rfl) (pe_callB cr_sorted (by rfl) zsorted PyProof.Rows.boot_sorted (pa_cons (pe_fld (pv 0) rfl) pa_nil)))
      (pss_cons (ps_set (i := 2) sc_Bars_kind.nd rfl (Or.inl rfl) (pe_ix ix_list (pv 1) pe_int (fun _ _ => rfl)))
      (pss_cons (ps_set (i := 3) sc_Bars_kind.nd rfl (Or.inl rfl) (pe_ix ix_list (pv 1) pe_int (fun _ _ => rfl)))
      (pss_cons (ps_set (i := 4) sc_Bars_kind.nd rfl (Or.inl rfl) (pe_op op_add (pe_ix ix_list (pv 1) pe_int (fun _ _ => rfl)) (pe_ix ix_list (pv 1) pe_int (fun _ _ => rfl))))
      (pss_cons (ps_if (pt_cmpR op_ge (pv 3) (pe_op op_add (pv 2) (pv 4)) (nomark _)) (pss_one (ps_ret (pe_op op_sub (pe_glob (v := .int 1) rfl gIN_LINE ⟨_, rfl⟩) (pe_callTy call_int1 (by rfl) zint PyProof.Rows.boot_int (pa_cons (pe_cmpR op_gt (pv 3) (pe_op op_add (pv 2) (pv 4)) (nomark _)) pa_nil))))) pss_nil)
      (pss_cons (ps_if (pt_cmpR op_lt (pe_op op_add (pv 2) (pv 3)) (pv 4) (nomark _)) (pss_one (ps_ret (pe_op op_add pe_int (pe_bm PySem.F.plainAttrs_list PySem.F.slot_list_index PySem.F.type_list_index mt_index (pe_fld (pv 0) rfl) (pa_cons (pv 2) pa_nil))))) pss_nil)
      (pss_one (ps_ret (pe_op op_add (pe_glob (v := .int 6) rfl gEVEN ⟨_, rfl⟩) (pe_callTy call_int1 (by rfl) zint PyProof.Rows.boot_int (pa_cons (pe_cmpR op_gt (pe_op op_add (pv 2) (pv 3)) (pv 4) (nomark _)) pa_nil))))))))))), ?_⟩
    refine q_sorted (ns := [g, a, c, r]) (ev_fld (ev_var rfl) hp clBars nBars_lengths rfl) (sq_of hl) (by show 4 < 64; decide) (fun ns' q H1 hpm hpw e1 hq => ?_)
    obtain ⟨x0, x1, x2, x3, rfl⟩ := perm4 hpm
    have h01 : x0 ≤ x1 := (List.pairwise_cons.1 hpw).1 x1 (by simp)
    have h12 : x1 ≤ x2 := (List.pairwise_cons.1 (List.pairwise_cons.1 hpw).2).1 x2 (by simp)
    have h23 : x2 ≤ x3 := (List.pairwise_cons.1 (List.pairwise_cons.1 (List.pairwise_cons.1 hpw).2).2).1 x3 (by simp)
    have lo := FB.lensOk_iff.1 hok
    have ek := FB.kind_rising (g := g) (a := a) (c := c) (r := r) (by omega) (by omega) (by omega) (by omega) hpm h01 h12 h23
    refine q_asg (ev_ixL (j := 0) (ev_var rfl) (sq_of hq) ev_c rfl rfl) (fun H2 e2 => ?_)
    refine q_asg (ev_ixL (j := 3) (ev_var rfl) (sq_of (e2 _ _ hq)) ev_c rfl rfl) (fun H3 e3 => ?_)
    refine q_asg (ev_op (ev_ixL (j := 1) (ev_var rfl) (sq_of (e3 _ _ (e2 _ _ hq))) ev_c rfl rfl) (ev_ixL (j := 2) (ev_var rfl) (sq_of (e3 _ _ (e2 _ _ hq))) ev_c rfl rfl) rv_I0) (fun H4 e4 => ?_)
    have e14 : Ex H H4 := ((e1.trans e2).trans e3).trans e4
    refine q_when (b := decide (x0 + (x1 + x2) ≤ x3)) (et_test (ev_op (ev_var rfl) (ev_op (ev_var rfl) (ev_var rfl) rv_I0) rv_I0)) (fun hb H5 e5 => ?_) (fun hb H5 e5 => ?_)
    · have hb' := of_decide_eq_true hb
      refine s_ret (v := .int (FB.kindI g a c r)) (ev_is (ev_op ev_c (ev_intB (ev_op (ev_var rfl) (ev_op (ev_var rfl) (ev_var rfl) rv_I0) rv_I0)) rv_I0) ?_) (fun H6 e6 => k H6 ((e14.trans e5).trans e6))
      rw [ek]
      unfold FB.kindR
      rw [if_pos hb']
      congr 1
      by_cases z : x0 + (x1 + x2) < x3
      · rw [if_pos z, if_pos (decide_eq_true z)]; rfl
      · rw [if_neg z, if_neg (fun q => z (of_decide_eq_true q))]; rfl
    have hb' := of_decide_eq_false hb
    refine q_when (b := decide (x0 + x3 < x1 + x2)) (et_test (ev_op (ev_op (ev_var rfl) (ev_var rfl) rv_I0) (ev_var rfl) rv_I0)) (fun hc H6 e6 => ?_) (fun hc H6 e6 => ?_)
    · have hc' := of_decide_eq_true hc
      have m0 : x0 ∈ [g, a, c, r] := hpm.mem_iff.1 (by simp)
      have fin : ∀ (j : Nat), [g, a, c, r][j]? = some x0 → (∀ (m : Nat) (z : Int), m < j → [g, a, c, r][m]? = some z → z ≠ x0) → (2 : Int) + (j : Nat) = FB.kindI g a c r → (tRet (tOp (rI0 fun i j => V.int (i + j)) (tC (.int 2)) (tBM K "list" (rIndex K) (tFld K (tVar 0) "lengths") (tCons (tVar 2) tNil)))) { nx := fun _ H' => Q .non H', rt := Q } [some (.ref p), some (.ref q), some (.int x0), some (.int x3), some (.int (x1 + x2))] H6 := by
        intro j hj hm he
        refine s_ret (v := .int (FB.kindI g a c r)) (ev_is (ev_op ev_c (ev_index (ns := [g, a, c, r]) (ev_fld (ev_var rfl) (e6 _ _ (e5 _ _ (e14 _ _ hp))) clBars nBars_lengths rfl) (sq_of (e6 _ _ (e5 _ _ (e14 _ _ hl)))) (ev_var rfl) hj hm) rv_I0) (by rw [he])) (fun H7 e7 => k H7 (((e14.trans e5).trans e6).trans e7))
      rw [ek] at fin
      unfold FB.kindR at fin
      rw [if_neg hb', if_pos hc'] at fin
      by_cases k0 : g = x0
      · exact fin 0 (by rw [k0]; rfl) (fun m z hm => absurd hm (Nat.not_lt_zero _)) (by rw [if_pos k0]; rfl)
      by_cases k1 : a = x0
      · exact fin 1 (by rw [k1]; rfl) (fun m z hm hz => by
          match m, hm with
          | 0, _ => cases hz; exact k0) (by rw [if_neg k0, if_pos k1]; rfl)
      by_cases k2 : c = x0
      · exact fin 2 (by rw [k2]; rfl) (fun m z hm hz => by
          match m, hm with
          | 0, _ => cases hz; exact k0
          | 1, _ => cases hz; exact k1) (by rw [if_neg k0, if_neg k1, if_pos k2]; rfl)
      have k3 : r = x0 := by
        simp only [List.mem_cons, List.not_mem_nil, or_false] at m0
        omega
      exact fin 3 (by rw [k3]; rfl) (fun m z hm hz => by
          match m, hm with
          | 0, _ => cases hz; exact k0
          | 1, _ => cases hz; exact k1
          | 2, _ => cases hz; exact k2) (by rw [if_neg k0, if_neg k1, if_neg k2]; rfl)
    have hc' := of_decide_eq_false hc
    refine s_ret (v := .int (FB.kindI g a c r)) (ev_is (ev_op ev_c (ev_intB (ev_op (ev_op (ev_var rfl) (ev_var rfl) rv_I0) (ev_var rfl) rv_I0)) rv_I0) ?_) (fun H7 e7 => k H7 (((e14.trans e5).trans e6).trans e7))
    rw [ek]
    unfold FB.kindR
    rw [if_neg hb', if_neg hc']
    congr 1
    by_cases z : x1 + x2 < x0 + x3
    · rw [if_pos z, if_pos (decide_eq_true z)]; rfl
    · rw [if_neg z, if_neg (fun q => z (of_decide_eq_true q))]; rfl
theorem sc_Turned_new : FnScope ["self", "roots", "cosine", "sine"] ["self", "roots", "cosine", "sine"] (defScope tx_Turned_new) := ⟨rfl, rfl, rfl, by decide +kernel, rfl, by decide +kernel, by decide +kernel⟩
theorem ok_Turned_new {f : Addr} {fd : FuncData} (F : Fun K "__init__" "Turned.__init__" tx_Turned_new f fd) (clTurned : Cls K Tu) (nTurned_roots : NoAttr K Tu "roots") (nTurned_level : NoAttr K Tu "level") (nTurned_rise : NoAttr K Tu "rise") :
    FnOk P w K mg base CX0 1 f fd ["self", "roots", "cosine", "sine"] (spTuN Tu) := by
  refine F.ok sc_Turned_new (fun vs H Q E h => ?_) (fun cdv A outer s H vs Q E hr h => ?_)
  · obtain ⟨p, dx, a, b, c, rfl, _⟩ := h
    rfl
  · obtain ⟨p, dx, a, b, c, rfl, hp, k⟩ := h
    refine ⟨_, (pss_cons (ps_fld (pv 0) (pv 1) rfl)
      (pss_cons (ps_fld (pv 0) (pv 2) rfl)
      (pss_one (ps_fld (pv 0) (pv 3) rfl)))), ?_⟩
    refine q_fld (ev_var rfl) (ev_var rfl) hp clTurned nTurned_roots (by show 0 < 1000; decide) (fun H1 e1 h1 => ?_)
    refine q_fld (ev_var rfl) (ev_var rfl) upd_same clTurned nTurned_level (by show 1 < 1000; decide) (fun H2 e2 h2 => ?_)
    refine s_fld (ev_var rfl) (ev_var rfl) upd_same clTurned nTurned_rise (by show 2 < 1000; decide) (fun H3 e3 h3 => ?_)
    refine k _ (fun x o hb ho => ?_) ?_
    · rw [upd_ne hb]
      refine e3 _ _ ?_
      rw [upd_ne hb]
      refine e2 _ _ ?_
      rw [upd_ne hb]
      exact e1 _ _ ho
    · rw [tuF_new]
      exact upd_same
theorem sc_difference : FnScope ["one", "other", "cosine", "square", "beside", "root"] ["one", "other"] (defScope tx_difference) := ⟨rfl, rfl, rfl, by decide +kernel, rfl, by decide +kernel, by decide +kernel⟩
theorem ok_difference {f : Addr} {fd : FuncData} (F : Fun K "difference" "difference" tx_difference f fd) (cTurned_new : Mak P w K mg base 1 "Turned" Tu (spTuN Tu)) :
    FnOk P w K mg base CX0 3 f fd ["one", "other"] (spDi Tu) := by
  refine F.ok sc_difference (fun vs H Q E h => ?_) (fun cdv A outer s H vs Q E hr h => ?_)
  · obtain ⟨p, q, x, y, rfl, _⟩ := h
    rfl
  · obtain ⟨p, q, x, y, rfl, hp, hq, w1, w2, k⟩ := h
    refine ⟨_, (pss_cons (ps_asg (pv 0) (pg_tup rfl (pgs_cons (pg_name (i := 2) sc_difference.nd rfl (Or.inl rfl)) (pgs_cons (pg_name (i := 3) sc_difference.nd rfl (Or.inl rfl)) pgs_nil))))
      (pss_cons (ps_asg (pv 1) (pg_tup rfl (pgs_cons (pg_name (i := 4) sc_difference.nd rfl (Or.inl rfl)) (pgs_cons (pg_name (i := 5) sc_difference.nd rfl (Or.inl rfl)) pgs_nil))))
      (pss_one (ps_ret (pe_mak cTurned_new hr (by decide) passL (pa_cons (pe_tup (pa_cons (pv 3) (pa_cons (pv 5) pa_nil))) (pa_cons (pe_tup (pa_cons (pe_op op_mulW (pv 2) (pv 4)) (pa_cons pe_int pa_nil))) (pa_cons (pe_tup (pa_cons (pv 4) (pa_cons (pe_op op_sub pe_int (pv 2)) pa_nil))) pa_nil)))))))), ?_⟩
    refine q_tup2 (a := .int x.c) (b := .int x.s) (ev_var rfl) (st_of hp) (fun H1 e1 => ?_)
    refine q_tup2 (a := .int y.c) (b := .int y.s) (ev_var rfl) (st_of (e1 _ _ hq)) (fun H2 e2 => ?_)
    exact r_turned (T := FB.diffT x y) (tp_new (xs := LI [x.s, y.s]) (eu_tup (ea_cons (ev_var rfl) (ea_cons (ev_var rfl) ea_nil)) (by show 2 ≤ 100000; decide))) (tp_new (xs := LI [x.c * y.c, 1]) (eu_tup (ea_cons (ev_mul (ev_var rfl) (ev_var rfl) w1 w2 (by omega) (by omega) (by omega)) (ea_cons ev_c ea_nil)) (by show 2 ≤ 100000; decide))) (tp_new (xs := LI [y.c, 0 - x.c]) (eu_tup (ea_cons (ev_var rfl) (ea_cons (ev_op ev_c (ev_var rfl) rv_I0) ea_nil)) (by show 2 ≤ 100000; decide))) (gives_go k (e1.trans e2))
theorem sc_angle_in : FnScope ["near", "far", "opposite", "cosine"] ["near", "far", "opposite"] (defScope tx_angle_in) := ⟨rfl, rfl, rfl, by decide +kernel, rfl, by decide +kernel, by decide +kernel⟩
theorem ok_angle_in {f : Addr} {fd : FuncData} (F : Fun K "angle_in" "angle_in" tx_angle_in f fd)  :
    FnOk P w K mg base CX0 1 f fd ["near", "far", "opposite"] (spAI) := by
  refine F.ok sc_angle_in (fun vs H Q E h => ?_) (fun cdv A outer s H vs Q E hr h => ?_)
  · obtain ⟨n, f0, o, rfl, _⟩ := h
    rfl
  · obtain ⟨n, f0, o, rfl, b1, b2, b3, k⟩ := h
    refine ⟨_, (pss_cons (ps_set (i := 3) sc_angle_in.nd rfl (Or.inl rfl) (pe_op op_sub (pe_op op_add (pe_op op_mulW (pv 0) (pv 0)) (pe_op op_mulW (pv 1) (pv 1))) (pe_op op_mulW (pv 2) (pv 2))))
      (pss_one (ps_ret (pe_tup (pa_cons (pv 3) (pa_cons (pe_op op_sub (pe_op op_mulW (pe_op op_mulW (pe_op op_mulW (pe_op op_mulW pe_int (pv 0)) (pv 0)) (pv 1)) (pv 1)) (pe_op op_mulW (pv 3) (pv 3))) pa_nil)))))), ?_⟩
    have w1 := wd_small b1
    have w2 := wd_small b2
    have w3 := wd_small b3
    have w4 := (ang_wd b1 b2 b3).1
    refine q_asg (v := .int (FB.angI n f0 o).c) (ev_op (ev_op (ev_mul (ev_var rfl) (ev_var rfl) w1 w1 (by omega) (by omega) (by omega)) (ev_mul (ev_var rfl) (ev_var rfl) w2 w2 (by omega) (by omega) (by omega)) rv_I0) (ev_mul (ev_var rfl) (ev_var rfl) w3 w3 (by omega) (by omega) (by omega)) rv_I0) (fun H1 e1 => ?_)
    exact s_retU (xs := LI [(FB.angI n f0 o).c, (FB.angI n f0 o).s]) (eu_tup (ea_cons (ev_var rfl) (ea_cons (ev_op (ev_mul (ev_mul (ev_mul (ev_mul ev_c (ev_var rfl) wd4 w1 (by omega) (by omega) (by omega)) (ev_var rfl) (wd4.mul w1) w1 (by omega) (by omega) (by omega)) (ev_var rfl) ((wd4.mul w1).mul w1) w2 (by omega) (by omega) (by omega)) (ev_var rfl) (((wd4.mul w1).mul w1).mul w2) w2 (by omega) (by omega) (by omega)) (ev_mul (ev_var rfl) (ev_var rfl) w4 w4 (by omega) (by omega) (by omega)) rv_I0) ea_nil)) (by show 2 ≤ 100000; decide)) (fun p H2 hp e2 h2 => k p H2 (fresh_back e1 hp) (e1.trans e2) h2)
theorem sc_rocker_way : FnScope ["lengths", "ground", "crank", "coupler", "rocker"] ["lengths"] (defScope tx_rocker_way) := ⟨rfl, rfl, rfl, by decide +kernel, rfl, by decide +kernel, by decide +kernel⟩
theorem ok_rocker_way {f : Addr} {fd : FuncData} (F : Fun K "rocker_way" "rocker_way" tx_rocker_way f fd) (cdifference : Cal P w K mg base 3 "difference" (spDi Tu)) (cangle_in : Cal P w K mg base 1 "angle_in" (spAI)) :
    FnOk P w K mg base CX0 4 f fd ["lengths"] (spRW Tu) := by
  refine F.ok sc_rocker_way (fun vs H Q E h => ?_) (fun cdv A outer s H vs Q E hr h => ?_)
  · obtain ⟨l, g, a, c, r, rfl, _⟩ := h
    rfl
  · obtain ⟨l, g, a, c, r, rfl, hl, ok, k⟩ := h
    refine ⟨_, (pss_cons (ps_asg (pv 0) (pg_unl rfl (pgs_cons (pg_name (i := 1) sc_rocker_way.nd rfl (Or.inl rfl)) (pgs_cons (pg_name (i := 2) sc_rocker_way.nd rfl (Or.inl rfl)) (pgs_cons (pg_name (i := 3) sc_rocker_way.nd rfl (Or.inl rfl)) (pgs_cons (pg_name (i := 4) sc_rocker_way.nd rfl (Or.inl rfl)) pgs_nil))))))
      (pss_one (ps_ret (pe_cal cdifference hr (by decide) passL (pa_cons (pe_cal cangle_in hr (by decide) passL (pa_cons (pv 1) (pa_cons (pv 4) (pa_cons (pe_op op_add (pv 3) (pv 2)) pa_nil)))) (pa_cons (pe_cal cangle_in hr (by decide) passL (pa_cons (pv 1) (pa_cons (pv 4) (pa_cons (pe_op op_sub (pv 3) (pv 2)) pa_nil)))) pa_nil)))))), ?_⟩
    have lo := FB.lensOk_iff.1 ok
    refine q_unl4s (a := .int g) (b := .int a) (c := .int c) (d := .int r) (ev_var rfl) (sq_of hl) (fun H1 e1 => ?_)
    have bg : -2000 ≤ g ∧ g ≤ 2000 := by omega
    have br : -2000 ≤ r ∧ r ≤ 2000 := by omega
    have bp : -2000 ≤ c + a ∧ c + a ≤ 2000 := by omega
    have bm : -2000 ≤ c - a ∧ c - a ≤ 2000 := by omega
    exact s_retT (et_di (x := FB.angI g r (c + a)) (y := FB.angI g r (c - a)) (tp_new (eu_ai (ea_cons (ev_var rfl) (ea_cons (ev_var rfl) (ea_cons (ev_op (ev_var rfl) (ev_var rfl) rv_I0) ea_nil))) bg br bp)) (tp_new (eu_ai (ea_cons (ev_var rfl) (ea_cons (ev_var rfl) (ea_cons (ev_op (ev_var rfl) (ev_var rfl) rv_I0) ea_nil))) bg br bm)) (ang_wd bg br bp).1 (ang_wd bg br bm).1) (gives_go k e1)
theorem sc_Turned_contrary : FnScope ["self"] ["self"] (defScope tx_Turned_contrary) := ⟨rfl, rfl, rfl, by decide +kernel, rfl, by decide +kernel, by decide +kernel⟩
theorem ok_Turned_contrary {f : Addr} {fd : FuncData} (F : Fun K "contrary" "Turned.contrary" tx_Turned_contrary f fd) (cTurned_new : Mak P w K mg base 1 "Turned" Tu (spTuN Tu)) (clTurned : Cls K Tu) (nTurned_rise : NoAttr K Tu "rise") (nTurned_level : NoAttr K Tu "level") (nTurned_roots : NoAttr K Tu "roots") :
    FnOk P w K mg base CX0 3 f fd ["self"] (spTuC Tu) := by
  refine F.ok sc_Turned_contrary (fun vs H Q E h => ?_) (fun cdv A outer s H vs Q E hr h => ?_)
  · obtain ⟨p, T, rfl, _⟩ := h
    rfl
  · obtain ⟨p, T, rfl, ⟨dx, t1, t2, t3, hp, h1, h2, h3⟩, k⟩ := h
    refine ⟨_, (pss_one (ps_ret (pe_mak cTurned_new hr (by decide) passL (pa_cons (pe_fld (pv 0) rfl) (pa_cons (pe_tup (pa_cons (pe_op op_sub pe_int (pe_ix ix_tup (pe_fld (pv 0) rfl) pe_int (fun _ _ => rfl))) (pa_cons (pe_op op_sub pe_int (pe_ix ix_tup (pe_fld (pv 0) rfl) pe_int (fun _ _ => rfl))) pa_nil))) (pa_cons (pe_tup (pa_cons (pe_op op_sub pe_int (pe_ix ix_tup (pe_fld (pv 0) rfl) pe_int (fun _ _ => rfl))) (pa_cons (pe_op op_sub pe_int (pe_ix ix_tup (pe_fld (pv 0) rfl) pe_int (fun _ _ => rfl))) pa_nil))) pa_nil)))))), ?_⟩
    exact r_turned (T := T.contrary) (tp_of (ev_fld (ev_var rfl) hp clTurned nTurned_roots rfl) h1) (tp_new (xs := LI [T.contrary.A, T.contrary.D]) (eu_tup (ea_cons (ev_op ev_c (ev_ixT (j := 0) (ev_fld (ev_var rfl) hp clTurned nTurned_level rfl) (st_of h2) ev_c rfl rfl) rv_I0) (ea_cons (ev_op ev_c (ev_ixT (j := 1) (ev_fld (ev_var rfl) hp clTurned nTurned_level rfl) (st_of h2) ev_c rfl rfl) rv_I0) ea_nil)) (by show 2 ≤ 100000; decide))) (tp_new (xs := LI [T.contrary.B, T.contrary.C]) (eu_tup (ea_cons (ev_op ev_c (ev_ixT (j := 0) (ev_fld (ev_var rfl) hp clTurned nTurned_rise rfl) (st_of h3) ev_c rfl rfl) rv_I0) (ea_cons (ev_op ev_c (ev_ixT (j := 1) (ev_fld (ev_var rfl) hp clTurned nTurned_rise rfl) (st_of h3) ev_c rfl rfl) rv_I0) ea_nil)) (by show 2 ≤ 100000; decide))) k
theorem sc_crank_way : FnScope ["lengths", "ground", "crank", "coupler", "rocker", "folded"] ["lengths"] (defScope tx_crank_way) := ⟨rfl, rfl, rfl, by decide +kernel, rfl, by decide +kernel, by decide +kernel⟩
theorem ok_crank_way {f : Addr} {fd : FuncData} (F : Fun K "crank_way" "crank_way" tx_crank_way f fd) (cangle_in : Cal P w K mg base 1 "angle_in" (spAI)) (clTurned : Cls K Tu) (cdifference : Cal P w K mg base 3 "difference" (spDi Tu)) (cTurned_contrary : Met P w K mg base 3 Tu "contrary" (spTuC Tu)) :
    FnOk P w K mg base CX0 4 f fd ["lengths"] (spCW Tu) := by
  refine F.ok sc_crank_way (fun vs H Q E h => ?_) (fun cdv A outer s H vs Q E hr h => ?_)
  · obtain ⟨l, g, a, c, r, rfl, _⟩ := h
    rfl
  · obtain ⟨l, g, a, c, r, rfl, hl, ok, k⟩ := h
    refine ⟨_, (pss_cons (ps_asg (pv 0) (pg_unl rfl (pgs_cons (pg_name (i := 1) sc_crank_way.nd rfl (Or.inl rfl)) (pgs_cons (pg_name (i := 2) sc_crank_way.nd rfl (Or.inl rfl)) (pgs_cons (pg_name (i := 3) sc_crank_way.nd rfl (Or.inl rfl)) (pgs_cons (pg_name (i := 4) sc_crank_way.nd rfl (Or.inl rfl)) pgs_nil))))))
      (pss_cons (ps_set (i := 5) sc_crank_way.nd rfl (Or.inl rfl) (pe_cal cangle_in hr (by decide) passL (pa_cons (pv 1) (pa_cons (pe_op op_sub (pv 3) (pv 2)) (pa_cons (pv 4) pa_nil)))))
      (pss_one (ps_ret (pe_met0 (pe_cal cdifference hr (by decide) passL (pa_cons (pv 5) (pa_cons (pe_cal cangle_in hr (by decide) passL (pa_cons (pv 1) (pa_cons (pe_op op_add (pv 3) (pv 2)) (pa_cons (pv 4) pa_nil)))) pa_nil))) clTurned cTurned_contrary hr (by decide) passL))))), ?_⟩
    have lo := FB.lensOk_iff.1 ok
    refine q_unl4s (a := .int g) (b := .int a) (c := .int c) (d := .int r) (ev_var rfl) (sq_of hl) (fun H1 e1 => ?_)
    have bg : -2000 ≤ g ∧ g ≤ 2000 := by omega
    have br : -2000 ≤ r ∧ r ≤ 2000 := by omega
    have bp : -2000 ≤ c + a ∧ c + a ≤ 2000 := by omega
    have bm : -2000 ≤ c - a ∧ c - a ≤ 2000 := by omega
    refine q_asgU (eu_ai (n := g) (f := c - a) (o := r) (ea_cons (ev_var rfl) (ea_cons (ev_op (ev_var rfl) (ev_var rfl) rv_I0) (ea_cons (ev_var rfl) ea_nil))) bg bm br) (fun t H2 _ e2 ht => ?_)
    exact r_contrary (et_di (x := FB.angI g (c - a) r) (y := FB.angI g (c + a) r) (tp_of (ev_var rfl) ht) (tp_new (eu_ai (ea_cons (ev_var rfl) (ea_cons (ev_op (ev_var rfl) (ev_var rfl) rv_I0) (ea_cons (ev_var rfl) ea_nil))) bg bp br)) (ang_wd bg bm br).1 (ang_wd bg bp br).1) (gives_go k (e1.trans e2))
theorem sc_sign_of : FnScope ["first", "one", "second", "two", "left", "right"] ["first", "one", "second", "two"] (defScope tx_sign_of) := ⟨rfl, rfl, rfl, by decide +kernel, rfl, by decide +kernel, by decide +kernel⟩
theorem ok_sign_of {f : Addr} {fd : FuncData} (F : Fun K "sign_of" "sign_of" tx_sign_of f fd) (zabs : mg "abs" = none) (zint : mg "int" = none) :
    FnOk P w K mg base CX0 1 f fd ["first", "one", "second", "two"] (spSg) := by
  refine F.ok sc_sign_of (fun vs H Q E h => ?_) (fun cdv A outer s H vs Q E hr h => ?_)
  · obtain ⟨f0, o0, s0, t0, n, rfl, _⟩ := h
    rfl
  · obtain ⟨f0, o0, s0, t0, n, rfl, w1, w2, w3, w4, hn, n0, k⟩ := h
    refine ⟨_, (pss_cons (ps_set (i := 4) sc_sign_of.nd rfl (Or.inl rfl) (pe_op op_mulW (pe_op op_mulW (pv 0) (pe_callB call_abs (by rfl) zabs PyProof.Rows.boot_abs (pa_cons (pv 0) pa_nil))) (pv 1)))
      (pss_cons (ps_set (i := 5) sc_sign_of.nd rfl (Or.inl rfl) (pe_op op_mulW (pe_op op_mulW (pv 2) (pe_callB call_abs (by rfl) zabs PyProof.Rows.boot_abs (pa_cons (pv 2) pa_nil))) (pv 3)))
      (pss_one (ps_ret (pe_op op_sub (pe_callTy call_int1 (by rfl) zint PyProof.Rows.boot_int (pa_cons (pe_cmpR op_gt (pe_op op_add (pv 4) (pv 5)) pe_int (nomark _)) pa_nil)) (pe_callTy call_int1 (by rfl) zint PyProof.Rows.boot_int (pa_cons (pe_cmpR op_lt (pe_op op_add (pv 4) (pv 5)) pe_int (nomark _)) pa_nil))))))), ?_⟩
    refine q_asg (ev_mul (ev_mul (ev_var rfl) (ev_abs (ev_var rfl)) w1 w1.ab (by omega) (by omega) (by omega)) (ev_var rfl) (w1.mul w1.ab) w3 (by omega) (by omega) (by omega)) (fun H1 e1 => ?_)
    refine q_asg (ev_mul (ev_mul (ev_var rfl) (ev_abs (ev_var rfl)) w2 w2.ab (by omega) (by omega) (by omega)) (ev_var rfl) (w2.mul w2.ab) w4 (by omega) (by omega) (by omega)) (fun H2 e2 => ?_)
    exact s_ret (ev_is (ev_op (ev_intB (ev_op (ev_op (ev_var rfl) (ev_var rfl) rv_I0) ev_c rv_I0)) (ev_intB (ev_op (ev_op (ev_var rfl) (ev_var rfl) rv_I0) ev_c rv_I0)) rv_I0) (by unfold FB.sg; simp only [decide_eq_true_iff])) (fun H3 e3 => k H3 ((e1.trans e2).trans e3))
theorem sc_Turned_is_half : FnScope ["self", "one", "two", "sine"] ["self"] (defScope tx_Turned_is_half) := ⟨rfl, rfl, rfl, by decide +kernel, rfl, by decide +kernel, by decide +kernel⟩
theorem ok_Turned_is_half {f : Addr} {fd : FuncData} (F : Fun K "is_half" "Turned.is_half" tx_Turned_is_half f fd) (clTurned : Cls K Tu) (nTurned_roots : NoAttr K Tu "roots") (csign_of : Cal P w K mg base 1 "sign_of" (spSg)) (nTurned_rise : NoAttr K Tu "rise") (nTurned_level : NoAttr K Tu "level") :
    FnOk P w K mg base CX0 2 f fd ["self"] (spTuH Tu) := by
  refine F.ok sc_Turned_is_half (fun vs H Q E h => ?_) (fun cdv A outer s H vs Q E hr h => ?_)
  · obtain ⟨p, T, n, rfl, _⟩ := h
    rfl
  · obtain ⟨p, T, n, rfl, ⟨dx, t1, t2, t3, hp, h1, h2, h3⟩, hz, hn, k⟩ := h
    refine ⟨_, (pss_cons (ps_asg (pe_fld (pv 0) rfl) (pg_tup rfl (pgs_cons (pg_name (i := 1) sc_Turned_is_half.nd rfl (Or.inl rfl)) (pgs_cons (pg_name (i := 2) sc_Turned_is_half.nd rfl (Or.inl rfl)) pgs_nil))))
      (pss_cons (ps_set (i := 3) sc_Turned_is_half.nd rfl (Or.inl rfl) (pe_cal csign_of hr (by decide) passL (pa_cons (pe_ix ix_tup (pe_fld (pv 0) rfl) pe_int (fun _ _ => rfl)) (pa_cons (pv 1) (pa_cons (pe_ix ix_tup (pe_fld (pv 0) rfl) pe_int (fun _ _ => rfl)) (pa_cons (pv 2) pa_nil))))))
      (pss_one (ps_ret (pe_or (pe_cmpR op_lt (pv 3) pe_int (nomark _)) (pe_one (pe_and (pe_cmpR op_eq (pv 3) pe_int (nomark _)) (pe_one (pe_cmpR op_lt (pe_cal csign_of hr (by decide) passL (pa_cons (pe_ix ix_tup (pe_fld (pv 0) rfl) pe_int (fun _ _ => rfl)) (pa_cons pe_int (pa_cons (pe_ix ix_tup (pe_fld (pv 0) rfl) pe_int (fun _ _ => rfl)) (pa_cons (pe_op op_mulW (pv 1) (pv 2)) pa_nil))))) pe_int (nomark _)))))))))), ?_⟩
    have z := hz.mono (Nat.le_succ n)
    refine q_tup2 (a := .int T.P) (b := .int T.Q) (ev_fld (ev_var rfl) hp clTurned nTurned_roots rfl) (st_of h1) (fun H1 e1 => ?_)
    replace hp := e1 _ _ hp
    replace h3 := e1 _ _ h3
    refine q_asg (v := .int (FB.sg T.B T.P T.C T.Q)) (ev_cal (ea_cons (ev_ixT (j := 0) (ev_fld (ev_var rfl) hp clTurned nTurned_rise rfl) (st_of h3) ev_c rfl rfl) (ea_cons (ev_var rfl) (ea_cons (ev_ixT (j := 1) (ev_fld (ev_var rfl) hp clTurned nTurned_rise rfl) (st_of h3) ev_c rfl rfl) (ea_cons (ev_var rfl) ea_nil)))) (spv_sg z.b z.c (z.p.mono (by decide)) (z.q.mono (by decide)) (by omega) (by omega))) (fun H2 e2 => ?_)
    replace hp := e2 _ _ hp
    replace h2 := e2 _ _ (e1 _ _ h2)
    refine s_ret (v := .bl T.half) (ev_is (ev_orV (ev_op (ev_var rfl) ev_c rv_I0) fun _ => ev_andV (ev_is (ev_op (ev_var rfl) ev_c (rv_eq rfl)) (show _ = V.bl (decide (FB.sg T.B T.P T.C T.Q = 0)) by simp)) fun _ => ev_op (ev_cal (ea_cons (ev_ixT (j := 0) (ev_fld (ev_var rfl) hp clTurned nTurned_level rfl) (st_of h2) ev_c rfl rfl) (ea_cons ev_c (ea_cons (ev_ixT (j := 1) (ev_fld (ev_var rfl) hp clTurned nTurned_level rfl) (st_of h2) ev_c rfl rfl) (ea_cons (ev_mul (ev_var rfl) (ev_var rfl) z.p z.q (by omega) (by omega) (by omega)) ea_nil)))) (spv_sg z.a z.d (wd1.mono (by decide)) ((z.p.mul z.q).mono (by decide)) (by omega) (by omega))) ev_c rv_I0) ?_) (fun H3 e3 => k H3 ((e1.trans e2).trans e3))
    rw [or_ifB, and_ifB]
    rfl
theorem sc_Turned_doubled : FnScope ["self", "one", "two", "plain", "root", "first", "second", "cosine", "sine"] ["self"] (defScope tx_Turned_doubled) := ⟨rfl, rfl, rfl, by decide +kernel, rfl, by decide +kernel, by decide +kernel⟩
theorem ok_Turned_doubled {f : Addr} {fd : FuncData} (F : Fun K "doubled" "Turned.doubled" tx_Turned_doubled f fd) (clTurned : Cls K Tu) (nTurned_roots : NoAttr K Tu "roots") (nTurned_level : NoAttr K Tu "level") (nTurned_rise : NoAttr K Tu "rise") (cTurned_new : Mak P w K mg base 1 "Turned" Tu (spTuN Tu)) :
    FnOk P w K mg base CX0 3 f fd ["self"] (spTuD Tu) := by
  refine F.ok sc_Turned_doubled (fun vs H Q E h => ?_) (fun cdv A outer s H vs Q E hr h => ?_)
  · obtain ⟨p, T, n, rfl, _⟩ := h
    rfl
  · obtain ⟨p, T, n, rfl, ⟨dx, t1, t2, t3, hp, h1, h2, h3⟩, hz, hn, k⟩ := h
    refine ⟨_, (pss_cons (ps_asg (pe_fld (pv 0) rfl) (pg_tup rfl (pgs_cons (pg_name (i := 1) sc_Turned_doubled.nd rfl (Or.inl rfl)) (pgs_cons (pg_name (i := 2) sc_Turned_doubled.nd rfl (Or.inl rfl)) pgs_nil))))
      (pss_cons (ps_asg (pe_fld (pv 0) rfl) (pg_tup rfl (pgs_cons (pg_name (i := 3) sc_Turned_doubled.nd rfl (Or.inl rfl)) (pgs_cons (pg_name (i := 4) sc_Turned_doubled.nd rfl (Or.inl rfl)) pgs_nil))))
      (pss_cons (ps_asg (pe_fld (pv 0) rfl) (pg_tup rfl (pgs_cons (pg_name (i := 5) sc_Turned_doubled.nd rfl (Or.inl rfl)) (pgs_cons (pg_name (i := 6) sc_Turned_doubled.nd rfl (Or.inl rfl)) pgs_nil))))
      (pss_cons (ps_set (i := 7) sc_Turned_doubled.nd rfl (Or.inl rfl) (pe_tup (pa_cons (pe_op op_sub (pe_op op_sub (pe_op op_add (pe_op op_mulW (pv 3) (pv 3)) (pe_op op_mulW (pe_op op_mulW (pe_op op_mulW (pv 4) (pv 4)) (pv 1)) (pv 2))) (pe_op op_mulW (pe_op op_mulW (pv 5) (pv 5)) (pv 1))) (pe_op op_mulW (pe_op op_mulW (pv 6) (pv 6)) (pv 2))) (pa_cons (pe_op op_mulW pe_int (pe_op op_sub (pe_op op_mulW (pv 3) (pv 4)) (pe_op op_mulW (pv 5) (pv 6)))) pa_nil))))
      (pss_cons (ps_set (i := 8) sc_Turned_doubled.nd rfl (Or.inl rfl) (pe_tup (pa_cons (pe_op op_mulW pe_int (pe_op op_add (pe_op op_mulW (pv 3) (pv 5)) (pe_op op_mulW (pe_op op_mulW (pv 4) (pv 6)) (pv 2)))) (pa_cons (pe_op op_mulW pe_int (pe_op op_add (pe_op op_mulW (pv 3) (pv 6)) (pe_op op_mulW (pe_op op_mulW (pv 4) (pv 5)) (pv 1)))) pa_nil))))
      (pss_one (ps_ret (pe_mak cTurned_new hr (by decide) passL (pa_cons (pe_fld (pv 0) rfl) (pa_cons (pv 7) (pa_cons (pv 8) pa_nil))))))))))), ?_⟩
    have z := hz.mono (Nat.le_succ n)
    refine q_tup2 (a := .int T.P) (b := .int T.Q) (ev_fld (ev_var rfl) hp clTurned nTurned_roots rfl) (st_of h1) (fun H1 e1 => ?_)
    replace hp := e1 _ _ hp
    replace h2 := e1 _ _ h2
    refine q_tup2 (a := .int T.A) (b := .int T.D) (ev_fld (ev_var rfl) hp clTurned nTurned_level rfl) (st_of h2) (fun H2 e2 => ?_)
    replace hp := e2 _ _ hp
    replace h3 := e2 _ _ (e1 _ _ h3)
    refine q_tup2 (a := .int T.B) (b := .int T.C) (ev_fld (ev_var rfl) hp clTurned nTurned_rise rfl) (st_of h3) (fun H3 e3 => ?_)
    replace hp := e3 _ _ hp
    refine q_asgU (xs := LI [T.dbl.A, T.dbl.D]) (eu_tup (ea_cons (ev_op (ev_op (ev_op (ev_mul (ev_var rfl) (ev_var rfl) z.a z.a (by omega) (by omega) (by omega)) (ev_mul (ev_mul (ev_mul (ev_var rfl) (ev_var rfl) z.d z.d (by omega) (by omega) (by omega)) (ev_var rfl) (z.d.mul z.d) z.p (by omega) (by omega) (by omega)) (ev_var rfl) ((z.d.mul z.d).mul z.p) z.q (by omega) (by omega) (by omega)) rv_I0) (ev_mul (ev_mul (ev_var rfl) (ev_var rfl) z.b z.b (by omega) (by omega) (by omega)) (ev_var rfl) (z.b.mul z.b) z.p (by omega) (by omega) (by omega)) rv_I0) (ev_mul (ev_mul (ev_var rfl) (ev_var rfl) z.c z.c (by omega) (by omega) (by omega)) (ev_var rfl) (z.c.mul z.c) z.q (by omega) (by omega) (by omega)) rv_I0) (ea_cons (ev_mul ev_c (ev_op (ev_mul (ev_var rfl) (ev_var rfl) z.a z.d (by omega) (by omega) (by omega)) (ev_mul (ev_var rfl) (ev_var rfl) z.b z.c (by omega) (by omega) (by omega)) rv_I0) wd2 ((z.a.mul z.d).sub (z.b.mul z.c)) (by omega) (by omega) (by omega)) ea_nil)) (by show 2 ≤ 100000; decide)) (fun tc H4 _ e4 hc => ?_)
    refine q_asgU (xs := LI [T.dbl.B, T.dbl.C]) (eu_tup (ea_cons (ev_mul ev_c (ev_op (ev_mul (ev_var rfl) (ev_var rfl) z.a z.b (by omega) (by omega) (by omega)) (ev_mul (ev_mul (ev_var rfl) (ev_var rfl) z.d z.c (by omega) (by omega) (by omega)) (ev_var rfl) (z.d.mul z.c) z.q (by omega) (by omega) (by omega)) rv_I0) wd2 (((z.a.mul z.b).mono (show n + 1 + (n + 1) ≤ n + 1 + (n + 1) + 60 by omega)).add ((z.d.mul z.c).mul z.q)) (by omega) (by omega) (by omega)) (ea_cons (ev_mul ev_c (ev_op (ev_mul (ev_var rfl) (ev_var rfl) z.a z.c (by omega) (by omega) (by omega)) (ev_mul (ev_mul (ev_var rfl) (ev_var rfl) z.d z.b (by omega) (by omega) (by omega)) (ev_var rfl) (z.d.mul z.b) z.p (by omega) (by omega) (by omega)) rv_I0) wd2 (((z.a.mul z.c).mono (show n + 1 + (n + 1) ≤ n + 1 + (n + 1) + 60 by omega)).add ((z.d.mul z.b).mul z.p)) (by omega) (by omega) (by omega)) ea_nil)) (by show 2 ≤ 100000; decide)) (fun ts H5 _ e5 hs => ?_)
    replace hp := e5 _ _ (e4 _ _ hp)
    exact r_turned (T := T.dbl) (tp_of (ev_fld (ev_var rfl) hp clTurned nTurned_roots rfl) (e5 _ _ (e4 _ _ (e3 _ _ (e2 _ _ (e1 _ _ h1)))))) (tp_of (ev_var rfl) (e5 _ _ hc)) (tp_of (ev_var rfl) hs) (gives_go k ((((e1.trans e2).trans e3).trans e4).trans e5))
theorem sc_parts_of : FnScope ["turned", "many", "found", "step"] ["turned", "many"] (defScope tx_parts_of) := ⟨rfl, rfl, rfl, by decide +kernel, rfl, by decide +kernel, by decide +kernel⟩
theorem ok_parts_of {f : Addr} {fd : FuncData} (F : Fun K "parts_of" "parts_of" tx_parts_of f fd) (zrange : mg "range" = none) (zint : mg "int" = none) (clTurned : Cls K Tu) (cTurned_is_half : Met P w K mg base 2 Tu "is_half" (spTuH Tu)) (cTurned_doubled : Met P w K mg base 3 Tu "doubled" (spTuD Tu)) :
    FnOk P w K mg base CX0 4 f fd ["turned", "many"] (spPO Tu) := by
  refine F.ok sc_parts_of (fun vs H Q E h => ?_) (fun cdv A outer s H vs Q E hr h => ?_)
  · obtain ⟨p, m, T, rfl, _⟩ := h
    rfl
  · obtain ⟨p, m, T, rfl, hT, hz, hm, k⟩ := h
    refine ⟨_, (pss_cons (ps_set (i := 2) sc_parts_of.nd rfl (Or.inl rfl) pe_int)
      (pss_cons (ps_for PassesOwn.never rfl (pi_range1 rfl zrange (pa_cons (pv 1) pa_nil)) (pg_name (i := 3) sc_parts_of.nd rfl (Or.inl rfl)) (pss_cons (ps_set (i := 2) sc_parts_of.nd rfl (Or.inl rfl) (pe_op op_add (pe_op op_mulW pe_int (pv 2)) (pe_callTy call_int1 (by rfl) zint PyProof.Rows.boot_int (pa_cons (pe_met0 (pv 0) clTurned cTurned_is_half hr (by decide) passL) pa_nil))))
      (pss_one (ps_set (i := 0) sc_parts_of.nd rfl (Or.inl rfl) (pe_met0 (pv 0) clTurned cTurned_doubled hr (by decide) passL)))))
      (pss_one (ps_ret (pv 2))))), ?_⟩
    refine q_asg ev_c (fun H1 e1 => ?_)
    refine q_forR1 (n := m) (ea_cons (ev_var rfl) ea_nil) (by omega) (fun i σ' H' => ∃ (q : Addr) (T2 : FB.Tn) (rr : Int) (v3 : Option V), σ' = [some (.ref q), some (.int m), some (.int rr), v3] ∧ TuAt Tu H' q T2 ∧ Sz T2 (wdt i) ∧ FB.parts (m.toNat - i) T2 rr = FB.parts m.toNat T 0 ∧ Wd rr (5 * i + 1) ∧ Ex H H')
      (fun H2 e2 => ⟨p, T, 0, none, rfl, (hT.mono e1).mono e2, hz, rfl, by unfold Wd; decide, e1.trans e2⟩) (fun i σ' H' hi hw => ?_) (fun σ' H' hw => ?_)
    · obtain ⟨q, T2, rr, v3, rfl, ht, sz, hp, wr, he⟩ := hw
      have ht' := ht
      obtain ⟨dx, t1, t2, t3, hq, _⟩ := ht'
      have wl := wdt_le (k := i) (by omega)
      refine q_asg (ev_op (ev_mul ev_c (ev_var rfl) wd2 wr (by omega) (by omega) (by omega)) (ev_intB (ev_meth (ev_var rfl) hq (by with_unfolding_all rfl) ea_nil (spv_half ht sz wl))) rv_I0) (fun H2 e2 => ?_)
      refine s_asgT (et_dbl (ev_var rfl) (ht.mono e2) sz wl) (fun q2 H3 e3 ht3 => ?_)
      refine ⟨q2, T2.dbl, 2 * rr + (if T2.half = true then 1 else 0), some (.int (i : Int)), rfl, ht3, sz.dbl, ?_, ?_, (he.trans e2).trans e3⟩
      · rw [← hp]
        have em : m.toNat - i = (m.toNat - (i + 1)) + 1 := by omega
        rw [em]
        rfl
      · have wb : Wd (if T2.half = true then (1 : Int) else 0) (2 + (5 * i + 1)) := by
          unfold Wd
          have z1 : (2 : Nat) ^ 1 ≤ 2 ^ (2 + (5 * i + 1)) := Nat.pow_le_pow_right (by decide) (by omega)
          split
          · show 1 < _
            omega
          · show 0 < _
            omega
        exact ((wd2.mul wr).add wb).mono (by omega)
    · obtain ⟨q, T2, rr, v3, rfl, ht, sz, hp, wr, he⟩ := hw
      rw [Nat.sub_self] at hp
      have hp' : rr = FB.parts m.toNat T 0 := hp
      rw [hp']
      exact s_ret (ev_var rfl) (fun H2 e2 => k H2 (he.trans e2))
theorem sc_swing : FnScope ["g", "a", "c", "r", "which", "m", "bars", "turned", "refusal"] ["g", "a", "c", "r", "which", "m"] (defScope tx_swing) := ⟨rfl, rfl, rfl, by decide +kernel, rfl, by decide +kernel, by decide +kernel⟩
theorem ok_swing {f : Addr} {fd : FuncData} (F : Fun K "swing" "swing" tx_swing f fd) (gR : mg "Refused" = some (.ref R)) (xR : XfC K R) (hno : PySem.W.findIn K (.ref R) "code" = some none) (eR : PySem.W.exmOne K (.ref R) (.ref R) = some true) (cBars_new : Mak P w K mg base 4 "Bars" B (spBI R B)) (cmust : Cal P w K mg base 3 "must" (spMust R)) {tkgMOST_PARTS : Tok} (gMOST_PARTS : mg "MOST_PARTS" = some (.int 8 tkgMOST_PARTS)) (clBars : Cls K B) (cBars_kind : Met P w K mg base 1 B "kind" (spBK B)) {tkgCRANK_ROCKER : Tok} (gCRANK_ROCKER : mg "CRANK_ROCKER" = some (.int 3 tkgCRANK_ROCKER)) (crocker_way : Cal P w K mg base 4 "rocker_way" (spRW Tu)) (nBars_lengths : NoAttr K B "lengths") (ccrank_way : Cal P w K mg base 4 "crank_way" (spCW Tu)) (cparts_of : Cal P w K mg base 4 "parts_of" (spPO Tu)) :
    FnOk P w K mg base CX0 6 f fd ["g", "a", "c", "r", "which", "m"] (spSwing) := by
  refine F.ok sc_swing (fun vs H Q E h => ?_) (fun cdv A outer s H vs Q E hr h => ?_)
  · obtain ⟨g, a, c, r, which, m, rfl, _⟩ := h
    rfl
  · obtain ⟨g, a, c, r, which, m, rfl, k⟩ := h
    refine ⟨_, (pss_one (ps_try_as (i := 8) (ts := tsR R 8) (Wout := fun _ _ _ _ => False) rfl rfl sc_swing.nd rfl rfl ⟨rfl, by decide, Or.inl gR⟩ takes0
      (fun W pn xe tk _ => (pss_cons (ps_set (i := 6) sc_swing.nd rfl (Or.inl rfl) (pe_mak cBars_new hr (by decide) (passLen (n := 9) tk rfl) (pa_cons (pe_lst (pa_cons (pv 0) (pa_cons (pv 1) (pa_cons (pv 2) (pa_cons (pv 3) pa_nil))))) pa_nil)))
      (pss_cons (ps_expr (pe_cal cmust hr (by decide) (passLen (n := 9) tk rfl) (pa_cons (pe_and (pe_cmpR op_le (pv 4) pe_int (nomark _)) (pe_and (pe_cmpR op_le pe_int (pv 5) (nomark _)) (pe_one (pe_cmpR op_le (pv 5) (pe_glob (v := .int 8) rfl gMOST_PARTS ⟨_, rfl⟩) (nomark _))))) (pa_cons (pe_un un_neg pe_int) pa_nil))))
      (pss_cons (ps_expr (pe_cal cmust hr (by decide) (passLen (n := 9) tk rfl) (pa_cons (pe_cmpR op_eq (pe_met0 (pv 6) clBars cBars_kind hr (by decide) passL) (pe_glob (v := .int 3) rfl gCRANK_ROCKER ⟨_, rfl⟩) (nomark _)) (pa_cons (pe_un un_neg pe_int) pa_nil))))
      (pss_cons (ps_set (i := 7) sc_swing.nd rfl (Or.inl rfl) (pe_cal crocker_way hr (by decide) passL (pa_cons (pe_fldK (K := K) rfl (pv 6) rfl) pa_nil)))
      (pss_cons (ps_if (pt_cmpR op_eq (pv 4) pe_int (nomark _)) (pss_one (ps_set (i := 7) sc_swing.nd rfl (Or.inl rfl) (pe_cal ccrank_way hr (by decide) passL (pa_cons (pe_fldK (K := K) rfl (pv 6) rfl) pa_nil)))) pss_nil)
      (pss_one (ps_ret (pe_lst (pa_cons pe_int (pa_cons pe_int (pa_cons (pe_cal cparts_of hr (by decide) passL (pa_cons (pv 7) (pa_cons (pv 5) pa_nil))) pa_nil))))))))))))
      (fun a0 oe cls d pn hz hf => (pss_one (ps_ret (pe_lst (pa_cons (pe_xf xR hno hz hf (pv 8)) pa_nil))))))), ?_⟩
    unfold FB.ansSwing at k
    refine q_bars (g := g) (a := a) (c := c) (r := r) (ev4 rfl rfl rfl rfl) (fun ok b H1 hp e1 hb => ?_) (fun bad => caught eR (by decide) (by rw [if_pos bad] at k; exact k))
    rw [if_neg (by rw [ok]; decide)] at k
    refine q_must (b := decide (which ≤ 1) && (decide (1 ≤ m) && decide (m ≤ 8))) (n := -1) (ea_cons (ev_andV (ev_op (ev_var rfl) ev_c rv_I0) fun _ => ev_andV (ev_op ev_c (ev_var rfl) rv_I0) fun _ => ev_op (ev_var rfl) ev_c rv_I0) (ea_cons (ev_neg ev_c) ea_nil)) (fun hz H2 e2 => ?_) (fun hz H2 e2 => caught eR (by decide) (by
      have hz' : ¬ (which ≤ 1 ∧ 1 ≤ m ∧ m ≤ 8) := by rintro ⟨z1, z2, z3⟩; rw [decide_eq_true z1, decide_eq_true z2, decide_eq_true z3] at hz; cases hz
      rw [if_pos hz'] at k
      exact k))
    have hz' : which ≤ 1 ∧ 1 ≤ m ∧ m ≤ 8 := by simpa using hz
    rw [if_neg (not_not_intro hz')] at k
    have hb2 := hb.mono e2
    have hb2' := hb2
    obtain ⟨dx, l, b1, b2⟩ := hb2'
    refine q_must (b := decide (FB.kindI g a c r = 3)) (n := -2) (ea_cons (ev_is (ev_op (ev_meth (ev_var rfl) b1 (by with_unfolding_all rfl) ea_nil (spv_bk hb2 ok)) ev_c (rv_eq rfl)) (by simp)) (ea_cons (ev_neg ev_c) ea_nil)) (fun hk H3 e3 => ?_) (fun hk H3 e3 => caught eR (by decide) (by rw [if_pos (of_decide_eq_false hk)] at k; exact k))
    rw [if_neg (not_not_intro (of_decide_eq_true hk))] at k
    have szs := sz_ways ok
    refine q_asgT (et_rw (ev_fld (ev_var rfl) (e3 _ _ b1) clBars nBars_lengths rfl) (e3 _ _ b2) ok) (fun q H4 e4 hq => ?_)
    refine q_when (b := decide (which = 1)) (et_is (et_test (ev_op (ev_var rfl) ev_c (rv_eq rfl))) (by simp)) (fun hw H5 e5 => ?_) (fun hw H5 e5 => ?_)
    · rw [if_pos (of_decide_eq_true hw)] at k
      refine s_asgT (et_cw (ev_fld (ev_var rfl) (e5 _ _ (e4 _ _ (e3 _ _ b1))) clBars nBars_lengths rfl) (e5 _ _ (e4 _ _ (e3 _ _ b2))) ok) (fun q2 H6 e6 hq2 => ?_)
      exact fin_ok (q := q2) rfl rfl hq2 szs.2 hz'.2 k
    · rw [if_neg (of_decide_eq_false hw)] at k
      exact fin_ok (q := q) rfl rfl (hq.mono e5) szs.1 hz'.2 k
theorem all_mk {h : Heap} {fa f_Refused_new f_must f_Bars_new f_Bars_kind f_Turned_new f_difference f_angle_in f_rocker_way f_Turned_contrary f_crank_way f_sign_of f_Turned_is_half f_Turned_doubled f_parts_of f_swing : Addr} (X : K.In h) (G : h.Ns mainGlobals mg) (hfa : mg "swing" = some (.ref fa))
    {nm qn : Str} {NN : Addr} {bs : List Value} {sn : List Str} {sub : List Value} {ab : Bool} {col : Option Bool} {dd : Option Addr} {m0 m1 m2 m3 m5 : Option Value} {tkgMOST_LENGTH tkgIN_LINE tkgEVEN tkgMOST_PARTS tkgCRANK_ROCKER : Tok} {od_Refused_new an_Refused_new od_must an_must od_Bars_new an_Bars_new od_Bars_kind an_Bars_kind od_Turned_new an_Turned_new od_difference an_difference od_angle_in an_angle_in od_rocker_way an_rocker_way od_Turned_contrary an_Turned_contrary od_crank_way an_crank_way od_sign_of an_sign_of od_Turned_is_half an_Turned_is_half od_Turned_doubled an_Turned_doubled od_parts_of an_parts_of od_swing an_swing : Option Addr} {sl_Refused_new sl_must sl_Bars_new sl_Bars_kind sl_Turned_new sl_difference sl_angle_in sl_rocker_way sl_Turned_contrary sl_crank_way sl_sign_of sl_Turned_is_half sl_Turned_doubled sl_parts_of sl_swing : Array (Option Value)} {oc_Refused_new kv_Refused_new dc_Refused_new pm_Refused_new cd_Refused_new ct_Refused_new oc_must kv_must dc_must pm_must cd_must ct_must oc_Bars_new kv_Bars_new dc_Bars_new pm_Bars_new cd_Bars_new ct_Bars_new oc_Bars_kind kv_Bars_kind dc_Bars_kind pm_Bars_kind cd_Bars_kind ct_Bars_kind oc_Turned_new kv_Turned_new dc_Turned_new pm_Turned_new cd_Turned_new ct_Turned_new oc_difference kv_difference dc_difference pm_difference cd_difference ct_difference oc_angle_in kv_angle_in dc_angle_in pm_angle_in cd_angle_in ct_angle_in oc_rocker_way kv_rocker_way dc_rocker_way pm_rocker_way cd_rocker_way ct_rocker_way oc_Turned_contrary kv_Turned_contrary dc_Turned_contrary pm_Turned_contrary cd_Turned_contrary ct_Turned_contrary oc_crank_way kv_crank_way dc_crank_way pm_crank_way cd_crank_way ct_crank_way oc_sign_of kv_sign_of dc_sign_of pm_sign_of cd_sign_of ct_sign_of oc_Turned_is_half kv_Turned_is_half dc_Turned_is_half pm_Turned_is_half cd_Turned_is_half ct_Turned_is_half oc_Turned_doubled kv_Turned_doubled dc_Turned_doubled pm_Turned_doubled cd_Turned_doubled ct_Turned_doubled oc_parts_of kv_parts_of dc_parts_of pm_parts_of cd_parts_of ct_parts_of oc_swing kv_swing dc_swing pm_swing cd_swing ct_swing : Value}
    (aR : PySem.W.nsIn K mainGlobals "Refused" = some (some (.ref R)))
    (xL : K.lookup R = some (excClassObj nm qn R NN bs [.type "ValueError", .type "Exception", .type "BaseException", .type "object"] true sn sub ab col dd m0 m1 m2 m3 m5 "ValueError.__new__"))
    (sa : PySem.W.findIn K (.ref R) "__setattr__" = some (some (.builtin "object.__setattr__")))
    (ga : PySem.W.findIn K (.ref R) "__getattribute__" = some (some (.builtin "BaseException.__getattribute__")))
    (gg : PySem.W.findIn K (.ref R) "__getattr__" = some none)
    (nb : PySem.W.findIn K (.ref R) "code" = some none)
    (kR : PySem.W.keepIn K (.ref R) = true)
    (bR : PySem.W.subIn K (.ref R) (.type "BaseException") = some true)
    (tyR : PySem.W.typeIn K (.ref R) = some (.type "type"))
    (hdR : PySem.W.hasDictIn K R = true)
    (isR : PySem.W.isClsIn K R = true)
    (suR : PySem.W.subIn K (.ref R) (.ref R) = some true)
    (aB : PySem.W.nsIn K mainGlobals "Bars" = some (some (.ref B)))
    (pgB : PySem.W.plainGet K B Str.empty = true)
    (hdB : PySem.W.hasDictIn K B = true)
    (poB : PySem.W.plainOver K B = true)
    (saB : PySem.W.findIn K (.ref B) "__setattr__" = some (some (.builtin "object.__setattr__")))
    (mkB : PySem.W.makesIn K B = true)
    (kcB : PySem.W.keepIn K (.ref B) = true)
    (aTu : PySem.W.nsIn K mainGlobals "Turned" = some (some (.ref Tu)))
    (pgTu : PySem.W.plainGet K Tu Str.empty = true)
    (hdTu : PySem.W.hasDictIn K Tu = true)
    (poTu : PySem.W.plainOver K Tu = true)
    (saTu : PySem.W.findIn K (.ref Tu) "__setattr__" = some (some (.builtin "object.__setattr__")))
    (mkTu : PySem.W.makesIn K Tu = true)
    (kcTu : PySem.W.keepIn K (.ref Tu) = true)
    (nRefused_code : PySem.W.findIn K (.ref R) "code" = some none)
    (nBars_lengths : PySem.W.findIn K (.ref B) "lengths" = some none)
    (nTurned_roots : PySem.W.findIn K (.ref Tu) "roots" = some none)
    (nTurned_level : PySem.W.findIn K (.ref Tu) "level" = some none)
    (nTurned_rise : PySem.W.findIn K (.ref Tu) "rise" = some none)
    (a_Refused_new : PySem.W.findIn K (.ref R) "__init__" = some (some (.ref f_Refused_new)))
    (tRI : PySem.W.typeIn K (.ref f_Refused_new) = some (.type "function"))
    (l_Refused_new : K.lookup f_Refused_new = some ⟨oc_Refused_new, od_Refused_new, .func (PySem.W.fnOf "__init__" "Refused.__init__" (defArgs tx_Refused_new) (defBody tx_Refused_new) (defScope tx_Refused_new) .none kv_Refused_new dc_Refused_new pm_Refused_new an_Refused_new cd_Refused_new ct_Refused_new), sl_Refused_new⟩)
    (c_Refused_new : PySem.W.codeIn K cd_Refused_new "Refused.__init__" = true)
    (k_Refused_new : PySem.W.keepIn K (.ref f_Refused_new) = true)
    (a_must : PySem.W.nsIn K mainGlobals "must" = some (some (.ref f_must)))
    (l_must : K.lookup f_must = some ⟨oc_must, od_must, .func (PySem.W.fnOf "must" "must" (defArgs tx_must) (defBody tx_must) (defScope tx_must) .none kv_must dc_must pm_must an_must cd_must ct_must), sl_must⟩)
    (c_must : PySem.W.codeIn K cd_must "must" = true)
    (k_must : PySem.W.keepIn K (.ref f_must) = true)
    (a_Bars_new : PySem.W.findIn K (.ref B) "__init__" = some (some (.ref f_Bars_new)))
    (i_Bars_new : PySem.W.isFn K (.ref f_Bars_new) = true)
    (l_Bars_new : K.lookup f_Bars_new = some ⟨oc_Bars_new, od_Bars_new, .func (PySem.W.fnOf "__init__" "Bars.__init__" (defArgs tx_Bars_new) (defBody tx_Bars_new) (defScope tx_Bars_new) .none kv_Bars_new dc_Bars_new pm_Bars_new an_Bars_new cd_Bars_new ct_Bars_new), sl_Bars_new⟩)
    (c_Bars_new : PySem.W.codeIn K cd_Bars_new "Bars.__init__" = true)
    (k_Bars_new : PySem.W.keepIn K (.ref f_Bars_new) = true)
    (a_Bars_kind : PySem.W.findIn K (.ref B) "kind" = some (some (.ref f_Bars_kind)))
    (i_Bars_kind : PySem.W.isFn K (.ref f_Bars_kind) = true)
    (l_Bars_kind : K.lookup f_Bars_kind = some ⟨oc_Bars_kind, od_Bars_kind, .func (PySem.W.fnOf "kind" "Bars.kind" (defArgs tx_Bars_kind) (defBody tx_Bars_kind) (defScope tx_Bars_kind) .none kv_Bars_kind dc_Bars_kind pm_Bars_kind an_Bars_kind cd_Bars_kind ct_Bars_kind), sl_Bars_kind⟩)
    (c_Bars_kind : PySem.W.codeIn K cd_Bars_kind "Bars.kind" = true)
    (k_Bars_kind : PySem.W.keepIn K (.ref f_Bars_kind) = true)
    (a_Turned_new : PySem.W.findIn K (.ref Tu) "__init__" = some (some (.ref f_Turned_new)))
    (i_Turned_new : PySem.W.isFn K (.ref f_Turned_new) = true)
    (l_Turned_new : K.lookup f_Turned_new = some ⟨oc_Turned_new, od_Turned_new, .func (PySem.W.fnOf "__init__" "Turned.__init__" (defArgs tx_Turned_new) (defBody tx_Turned_new) (defScope tx_Turned_new) .none kv_Turned_new dc_Turned_new pm_Turned_new an_Turned_new cd_Turned_new ct_Turned_new), sl_Turned_new⟩)
    (c_Turned_new : PySem.W.codeIn K cd_Turned_new "Turned.__init__" = true)
    (k_Turned_new : PySem.W.keepIn K (.ref f_Turned_new) = true)
    (a_difference : PySem.W.nsIn K mainGlobals "difference" = some (some (.ref f_difference)))
    (l_difference : K.lookup f_difference = some ⟨oc_difference, od_difference, .func (PySem.W.fnOf "difference" "difference" (defArgs tx_difference) (defBody tx_difference) (defScope tx_difference) .none kv_difference dc_difference pm_difference an_difference cd_difference ct_difference), sl_difference⟩)
    (c_difference : PySem.W.codeIn K cd_difference "difference" = true)
    (k_difference : PySem.W.keepIn K (.ref f_difference) = true)
    (a_angle_in : PySem.W.nsIn K mainGlobals "angle_in" = some (some (.ref f_angle_in)))
    (l_angle_in : K.lookup f_angle_in = some ⟨oc_angle_in, od_angle_in, .func (PySem.W.fnOf "angle_in" "angle_in" (defArgs tx_angle_in) (defBody tx_angle_in) (defScope tx_angle_in) .none kv_angle_in dc_angle_in pm_angle_in an_angle_in cd_angle_in ct_angle_in), sl_angle_in⟩)
    (c_angle_in : PySem.W.codeIn K cd_angle_in "angle_in" = true)
    (k_angle_in : PySem.W.keepIn K (.ref f_angle_in) = true)
    (a_rocker_way : PySem.W.nsIn K mainGlobals "rocker_way" = some (some (.ref f_rocker_way)))
    (l_rocker_way : K.lookup f_rocker_way = some ⟨oc_rocker_way, od_rocker_way, .func (PySem.W.fnOf "rocker_way" "rocker_way" (defArgs tx_rocker_way) (defBody tx_rocker_way) (defScope tx_rocker_way) .none kv_rocker_way dc_rocker_way pm_rocker_way an_rocker_way cd_rocker_way ct_rocker_way), sl_rocker_way⟩)
    (c_rocker_way : PySem.W.codeIn K cd_rocker_way "rocker_way" = true)
    (k_rocker_way : PySem.W.keepIn K (.ref f_rocker_way) = true)
    (a_Turned_contrary : PySem.W.findIn K (.ref Tu) "contrary" = some (some (.ref f_Turned_contrary)))
    (i_Turned_contrary : PySem.W.isFn K (.ref f_Turned_contrary) = true)
    (l_Turned_contrary : K.lookup f_Turned_contrary = some ⟨oc_Turned_contrary, od_Turned_contrary, .func (PySem.W.fnOf "contrary" "Turned.contrary" (defArgs tx_Turned_contrary) (defBody tx_Turned_contrary) (defScope tx_Turned_contrary) .none kv_Turned_contrary dc_Turned_contrary pm_Turned_contrary an_Turned_contrary cd_Turned_contrary ct_Turned_contrary), sl_Turned_contrary⟩)
    (c_Turned_contrary : PySem.W.codeIn K cd_Turned_contrary "Turned.contrary" = true)
    (k_Turned_contrary : PySem.W.keepIn K (.ref f_Turned_contrary) = true)
    (a_crank_way : PySem.W.nsIn K mainGlobals "crank_way" = some (some (.ref f_crank_way)))
    (l_crank_way : K.lookup f_crank_way = some ⟨oc_crank_way, od_crank_way, .func (PySem.W.fnOf "crank_way" "crank_way" (defArgs tx_crank_way) (defBody tx_crank_way) (defScope tx_crank_way) .none kv_crank_way dc_crank_way pm_crank_way an_crank_way cd_crank_way ct_crank_way), sl_crank_way⟩)
    (c_crank_way : PySem.W.codeIn K cd_crank_way "crank_way" = true)
    (k_crank_way : PySem.W.keepIn K (.ref f_crank_way) = true)
    (a_sign_of : PySem.W.nsIn K mainGlobals "sign_of" = some (some (.ref f_sign_of)))
    (l_sign_of : K.lookup f_sign_of = some ⟨oc_sign_of, od_sign_of, .func (PySem.W.fnOf "sign_of" "sign_of" (defArgs tx_sign_of) (defBody tx_sign_of) (defScope tx_sign_of) .none kv_sign_of dc_sign_of pm_sign_of an_sign_of cd_sign_of ct_sign_of), sl_sign_of⟩)
    (c_sign_of : PySem.W.codeIn K cd_sign_of "sign_of" = true)
    (k_sign_of : PySem.W.keepIn K (.ref f_sign_of) = true)
    (a_Turned_is_half : PySem.W.findIn K (.ref Tu) "is_half" = some (some (.ref f_Turned_is_half)))
    (i_Turned_is_half : PySem.W.isFn K (.ref f_Turned_is_half) = true)
    (l_Turned_is_half : K.lookup f_Turned_is_half = some ⟨oc_Turned_is_half, od_Turned_is_half, .func (PySem.W.fnOf "is_half" "Turned.is_half" (defArgs tx_Turned_is_half) (defBody tx_Turned_is_half) (defScope tx_Turned_is_half) .none kv_Turned_is_half dc_Turned_is_half pm_Turned_is_half an_Turned_is_half cd_Turned_is_half ct_Turned_is_half), sl_Turned_is_half⟩)
    (c_Turned_is_half : PySem.W.codeIn K cd_Turned_is_half "Turned.is_half" = true)
    (k_Turned_is_half : PySem.W.keepIn K (.ref f_Turned_is_half) = true)
    (a_Turned_doubled : PySem.W.findIn K (.ref Tu) "doubled" = some (some (.ref f_Turned_doubled)))
    (i_Turned_doubled : PySem.W.isFn K (.ref f_Turned_doubled) = true)
    (l_Turned_doubled : K.lookup f_Turned_doubled = some ⟨oc_Turned_doubled, od_Turned_doubled, .func (PySem.W.fnOf "doubled" "Turned.doubled" (defArgs tx_Turned_doubled) (defBody tx_Turned_doubled) (defScope tx_Turned_doubled) .none kv_Turned_doubled dc_Turned_doubled pm_Turned_doubled an_Turned_doubled cd_Turned_doubled ct_Turned_doubled), sl_Turned_doubled⟩)
    (c_Turned_doubled : PySem.W.codeIn K cd_Turned_doubled "Turned.doubled" = true)
    (k_Turned_doubled : PySem.W.keepIn K (.ref f_Turned_doubled) = true)
    (a_parts_of : PySem.W.nsIn K mainGlobals "parts_of" = some (some (.ref f_parts_of)))
    (l_parts_of : K.lookup f_parts_of = some ⟨oc_parts_of, od_parts_of, .func (PySem.W.fnOf "parts_of" "parts_of" (defArgs tx_parts_of) (defBody tx_parts_of) (defScope tx_parts_of) .none kv_parts_of dc_parts_of pm_parts_of an_parts_of cd_parts_of ct_parts_of), sl_parts_of⟩)
    (c_parts_of : PySem.W.codeIn K cd_parts_of "parts_of" = true)
    (k_parts_of : PySem.W.keepIn K (.ref f_parts_of) = true)
    (a_swing : PySem.W.nsIn K mainGlobals "swing" = some (some (.ref f_swing)))
    (l_swing : K.lookup f_swing = some ⟨oc_swing, od_swing, .func (PySem.W.fnOf "swing" "swing" (defArgs tx_swing) (defBody tx_swing) (defScope tx_swing) .none kv_swing dc_swing pm_swing an_swing cd_swing ct_swing), sl_swing⟩)
    (c_swing : PySem.W.codeIn K cd_swing "swing" = true)
    (k_swing : PySem.W.keepIn K (.ref f_swing) = true)
    (zall : PySem.W.nsIn K mainGlobals "all" = some none)
    (gMOST_LENGTH : PySem.W.nsIn K mainGlobals "MOST_LENGTH" = some (some (.int 999 tkgMOST_LENGTH)))
    (zsorted : PySem.W.nsIn K mainGlobals "sorted" = some none)
    (gIN_LINE : PySem.W.nsIn K mainGlobals "IN_LINE" = some (some (.int 1 tkgIN_LINE)))
    (zint : PySem.W.nsIn K mainGlobals "int" = some none)
    (gEVEN : PySem.W.nsIn K mainGlobals "EVEN" = some (some (.int 6 tkgEVEN)))
    (zabs : PySem.W.nsIn K mainGlobals "abs" = some none)
    (zrange : PySem.W.nsIn K mainGlobals "range" = some none)
    (gMOST_PARTS : PySem.W.nsIn K mainGlobals "MOST_PARTS" = some (some (.int 8 tkgMOST_PARTS)))
    (gCRANK_ROCKER : PySem.W.nsIn K mainGlobals "CRANK_ROCKER" = some (some (.int 3 tkgCRANK_ROCKER))) :
    ∃ fd : FuncData, (∀ (s : Shared) (us : List Value), us.length = (["g", "a", "c", "r", "which", "m"] : List Str).length → BindsTo s fd ⟨us, []⟩ ((["g", "a", "c", "r", "which", "m"] : List Str).zip us)) ∧ ∀ base : Heap, K.In base → base.Ns mainGlobals mg → FnOk P w K mg base CX0 6 fa fd ["g", "a", "c", "r", "which", "m"] (spSwing) := by
  have e := hfa.symm.trans (PySem.W.mg_of X G a_swing)
  cases e
  have oex : OexC K R := ⟨⟨nm, qn, NN, bs, _, sn, sub, ab, col, dd, m0, m1, m2, m3, m5, xL, by decide +kernel⟩, sa, bR, tyR, kR⟩
  have gR := PySem.W.mg_of X G aR
  have xR : XfC K R := ⟨ga, gg, bR, hdR⟩
  have eR := exm_same bR isR tyR suR
  have F_Refused_new := fun_mk (st := tx_Refused_new) l_Refused_new c_Refused_new k_Refused_new
  have b_Refused_new := F_Refused_new.binds (ps := ["self", "code"]) fun _ _ _ _ _ _ us hl => match us, hl with | [_, _], _ => rfl
  have F_must := fun_mk (st := tx_must) l_must c_must k_must
  have b_must := F_must.binds (ps := ["is_so", "code"]) fun _ _ _ _ _ _ us hl => match us, hl with | [_, _], _ => rfl
  have F_Bars_new := fun_mk (st := tx_Bars_new) l_Bars_new c_Bars_new k_Bars_new
  have b_Bars_new := F_Bars_new.binds (ps := ["self", "lengths"]) fun _ _ _ _ _ _ us hl => match us, hl with | [_, _], _ => rfl
  have F_Bars_kind := fun_mk (st := tx_Bars_kind) l_Bars_kind c_Bars_kind k_Bars_kind
  have b_Bars_kind := F_Bars_kind.binds (ps := ["self"]) fun _ _ _ _ _ _ us hl => match us, hl with | [_], _ => rfl
  have F_Turned_new := fun_mk (st := tx_Turned_new) l_Turned_new c_Turned_new k_Turned_new
  have b_Turned_new := F_Turned_new.binds (ps := ["self", "roots", "cosine", "sine"]) fun _ _ _ _ _ _ us hl => match us, hl with | [_, _, _, _], _ => rfl
  have F_difference := fun_mk (st := tx_difference) l_difference c_difference k_difference
  have b_difference := F_difference.binds (ps := ["one", "other"]) fun _ _ _ _ _ _ us hl => match us, hl with | [_, _], _ => rfl
  have F_angle_in := fun_mk (st := tx_angle_in) l_angle_in c_angle_in k_angle_in
  have b_angle_in := F_angle_in.binds (ps := ["near", "far", "opposite"]) fun _ _ _ _ _ _ us hl => match us, hl with | [_, _, _], _ => rfl
  have F_rocker_way := fun_mk (st := tx_rocker_way) l_rocker_way c_rocker_way k_rocker_way
  have b_rocker_way := F_rocker_way.binds (ps := ["lengths"]) fun _ _ _ _ _ _ us hl => match us, hl with | [_], _ => rfl
  have F_Turned_contrary := fun_mk (st := tx_Turned_contrary) l_Turned_contrary c_Turned_contrary k_Turned_contrary
  have b_Turned_contrary := F_Turned_contrary.binds (ps := ["self"]) fun _ _ _ _ _ _ us hl => match us, hl with | [_], _ => rfl
  have F_crank_way := fun_mk (st := tx_crank_way) l_crank_way c_crank_way k_crank_way
  have b_crank_way := F_crank_way.binds (ps := ["lengths"]) fun _ _ _ _ _ _ us hl => match us, hl with | [_], _ => rfl
  have F_sign_of := fun_mk (st := tx_sign_of) l_sign_of c_sign_of k_sign_of
  have b_sign_of := F_sign_of.binds (ps := ["first", "one", "second", "two"]) fun _ _ _ _ _ _ us hl => match us, hl with | [_, _, _, _], _ => rfl
  have F_Turned_is_half := fun_mk (st := tx_Turned_is_half) l_Turned_is_half c_Turned_is_half k_Turned_is_half
  have b_Turned_is_half := F_Turned_is_half.binds (ps := ["self"]) fun _ _ _ _ _ _ us hl => match us, hl with | [_], _ => rfl
  have F_Turned_doubled := fun_mk (st := tx_Turned_doubled) l_Turned_doubled c_Turned_doubled k_Turned_doubled
  have b_Turned_doubled := F_Turned_doubled.binds (ps := ["self"]) fun _ _ _ _ _ _ us hl => match us, hl with | [_], _ => rfl
  have F_parts_of := fun_mk (st := tx_parts_of) l_parts_of c_parts_of k_parts_of
  have b_parts_of := F_parts_of.binds (ps := ["turned", "many"]) fun _ _ _ _ _ _ us hl => match us, hl with | [_, _], _ => rfl
  have F_swing := fun_mk (st := tx_swing) l_swing c_swing k_swing
  have clBars : Cls K B := ⟨pgB, hdB, poB, saB⟩
  have clTurned : Cls K Tu := ⟨pgTu, hdTu, poTu, saTu⟩
  have hzall := PySem.W.mg_none_of X G zall
  have hgMOST_LENGTH := PySem.W.mg_of X G gMOST_LENGTH
  have hzsorted := PySem.W.mg_none_of X G zsorted
  have hgIN_LINE := PySem.W.mg_of X G gIN_LINE
  have hzint := PySem.W.mg_none_of X G zint
  have hgEVEN := PySem.W.mg_of X G gEVEN
  have hzabs := PySem.W.mg_none_of X G zabs
  have hzrange := PySem.W.mg_none_of X G zrange
  have hgMOST_PARTS := PySem.W.mg_of X G gMOST_PARTS
  have hgCRANK_ROCKER := PySem.W.mg_of X G gCRANK_ROCKER
  refine ⟨PySem.W.fnOf "swing" "swing" (defArgs tx_swing) (defBody tx_swing) (defScope tx_swing) .none kv_swing dc_swing pm_swing an_swing cd_swing ct_swing, fun s us hu => match us, hu with | [_, _, _, _, _, _], _ => .of_eq rfl, fun base _ _ => ?_⟩
  have cmust : Cal P w K mg base 3 "must" (spMust R) := ⟨_, _, _, ok_must F_must F_Refused_new oex nb a_Refused_new tRI b_Refused_new gR, PySem.W.mg_of X G a_must, k_must, b_must⟩
  have cBars_new : Mak P w K mg base 4 "Bars" B (spBI R B) := ⟨_, _, _, ok_Bars_new F_Bars_new cmust hzall hgMOST_LENGTH clBars nBars_lengths, ⟨mkB, a_Bars_new, i_Bars_new, kcB⟩, PySem.W.mg_of X G aB, b_Bars_new⟩
  have cBars_kind : Met P w K mg base 1 B "kind" (spBK B) := ⟨_, _, _, fn_up (ok_Bars_kind F_Bars_kind hzsorted clBars nBars_lengths hgIN_LINE hzint hgEVEN), ⟨a_Bars_kind, i_Bars_kind, k_Bars_kind⟩, b_Bars_kind⟩
  have cTurned_new : Mak P w K mg base 1 "Turned" Tu (spTuN Tu) := ⟨_, _, _, fn_up (ok_Turned_new F_Turned_new clTurned nTurned_roots nTurned_level nTurned_rise), ⟨mkTu, a_Turned_new, i_Turned_new, kcTu⟩, PySem.W.mg_of X G aTu, b_Turned_new⟩
  have cdifference : Cal P w K mg base 3 "difference" (spDi Tu) := ⟨_, _, _, fn_up (ok_difference F_difference cTurned_new), PySem.W.mg_of X G a_difference, k_difference, b_difference⟩
  have cangle_in : Cal P w K mg base 1 "angle_in" (spAI) := ⟨_, _, _, fn_up (ok_angle_in F_angle_in ), PySem.W.mg_of X G a_angle_in, k_angle_in, b_angle_in⟩
  have crocker_way : Cal P w K mg base 4 "rocker_way" (spRW Tu) := ⟨_, _, _, fn_up (ok_rocker_way F_rocker_way cdifference cangle_in), PySem.W.mg_of X G a_rocker_way, k_rocker_way, b_rocker_way⟩
  have cTurned_contrary : Met P w K mg base 3 Tu "contrary" (spTuC Tu) := ⟨_, _, _, fn_up (ok_Turned_contrary F_Turned_contrary cTurned_new clTurned nTurned_rise nTurned_level nTurned_roots), ⟨a_Turned_contrary, i_Turned_contrary, k_Turned_contrary⟩, b_Turned_contrary⟩
  have ccrank_way : Cal P w K mg base 4 "crank_way" (spCW Tu) := ⟨_, _, _, fn_up (ok_crank_way F_crank_way cangle_in clTurned cdifference cTurned_contrary), PySem.W.mg_of X G a_crank_way, k_crank_way, b_crank_way⟩
  have csign_of : Cal P w K mg base 1 "sign_of" (spSg) := ⟨_, _, _, fn_up (ok_sign_of F_sign_of hzabs hzint), PySem.W.mg_of X G a_sign_of, k_sign_of, b_sign_of⟩
  have cTurned_is_half : Met P w K mg base 2 Tu "is_half" (spTuH Tu) := ⟨_, _, _, fn_up (ok_Turned_is_half F_Turned_is_half clTurned nTurned_roots csign_of nTurned_rise nTurned_level), ⟨a_Turned_is_half, i_Turned_is_half, k_Turned_is_half⟩, b_Turned_is_half⟩
  have cTurned_doubled : Met P w K mg base 3 Tu "doubled" (spTuD Tu) := ⟨_, _, _, fn_up (ok_Turned_doubled F_Turned_doubled clTurned nTurned_roots nTurned_level nTurned_rise cTurned_new), ⟨a_Turned_doubled, i_Turned_doubled, k_Turned_doubled⟩, b_Turned_doubled⟩
  have cparts_of : Cal P w K mg base 4 "parts_of" (spPO Tu) := ⟨_, _, _, fn_up (ok_parts_of F_parts_of hzrange hzint clTurned cTurned_is_half cTurned_doubled), PySem.W.mg_of X G a_parts_of, k_parts_of, b_parts_of⟩
  exact ok_swing F_swing gR xR nb eR cBars_new cmust hgMOST_PARTS clBars cBars_kind hgCRANK_ROCKER crocker_way nBars_lengths ccrank_way cparts_of
end
end FW
open PySem PySem.W PyProof.Rows
set_option maxRecDepth 100000 in
set_option maxHeartbeats 0 in
theorem PySem.Challenge.cw_fourbars_s08_swing_holds : PySem.Challenge.rw_fourbars_s08_swing.Holds := by
  w_on; k_headS; (case hw => exact ⟨[.int 0, .int 0, .int 0, .int 0, .int 0, .int 0], by decide +kernel, by decide +kernel⟩)
  k_fillS
  refine L2.walk_specK (r := PySem.Challenge.rw_fourbars_s08_swing) (k := 6) (CX := L2.CX0) (ps := ["g", "a", "c", "r", "which", "m"]) (sp := fun _ => FW.spSwing) (by decide +kernel) rfl rfl ⟨rfl, by decide, by decide⟩ (fun w h Y => PySem.W.kIn_of Y) ?F ?S (fun _ _ _ _ z => z)
  case F =>
    intro w mg fa h Y KX G hmg
    refine' FW.all_mk KX G hmg ?aR ?xL ?sa ?ga ?gg ?nb ?kR ?bR ?tyR ?hdR ?isR ?suR ?aB ?pgB ?hdB ?poB ?saB ?mkB ?kcB ?aTu ?pgTu ?hdTu ?poTu ?saTu ?mkTu ?kcTu ?nRefused_code ?nBars_lengths ?nTurned_roots ?nTurned_level ?nTurned_rise ?a_Refused_new ?tRI ?l_Refused_new ?c_Refused_new ?k_Refused_new ?a_must ?l_must ?c_must ?k_must ?a_Bars_new ?i_Bars_new ?l_Bars_new ?c_Bars_new ?k_Bars_new ?a_Bars_kind ?i_Bars_kind ?l_Bars_kind ?c_Bars_kind ?k_Bars_kind ?a_Turned_new ?i_Turned_new ?l_Turned_new ?c_Turned_new ?k_Turned_new ?a_difference ?l_difference ?c_difference ?k_difference ?a_angle_in ?l_angle_in ?c_angle_in ?k_angle_in ?a_rocker_way ?l_rocker_way ?c_rocker_way ?k_rocker_way ?a_Turned_contrary ?i_Turned_contrary ?l_Turned_contrary ?c_Turned_contrary ?k_Turned_contrary ?a_crank_way ?l_crank_way ?c_crank_way ?k_crank_way ?a_sign_of ?l_sign_of ?c_sign_of ?k_sign_of ?a_Turned_is_half ?i_Turned_is_half ?l_Turned_is_half ?c_Turned_is_half ?k_Turned_is_half ?a_Turned_doubled ?i_Turned_doubled ?l_Turned_doubled ?c_Turned_doubled ?k_Turned_doubled ?a_parts_of ?l_parts_of ?c_parts_of ?k_parts_of ?a_swing ?l_swing ?c_swing ?k_swing ?zall ?gMOST_LENGTH ?zsorted ?gIN_LINE ?zint ?gEVEN ?zabs ?zrange ?gMOST_PARTS ?gCRANK_ROCKER
    (case aR => k_is)
    (case xL => k_is)
    (case sa => k_is)
    (case ga => k_is)
    (case gg => k_is)
    (case nb => k_is)
    (case kR => k_is)
    (case bR => k_is)
    (case tyR => k_is)
    (case hdR => k_is)
    (case isR => k_is)
    (case suR => first | rfl | k_is)
    (case aB => k_is)
    (case pgB => k_is)
    (case hdB => k_is)
    (case poB => k_is)
    (case saB => k_is)
    (case mkB => k_is)
    (case kcB => k_is)
    (case aTu => k_is)
    (case pgTu => k_is)
    (case hdTu => k_is)
    (case poTu => k_is)
    (case saTu => k_is)
    (case mkTu => k_is)
    (case kcTu => k_is)
    (case nRefused_code => k_is)
    (case nBars_lengths => k_is)
    (case nTurned_roots => k_is)
    (case nTurned_level => k_is)
    (case nTurned_rise => k_is)
    (case a_Refused_new => k_is)
    (case tRI => k_is)
    (case l_Refused_new => k_is)
    (case c_Refused_new => k_is)
    (case k_Refused_new => k_is)
    (case a_must => k_is)
    (case l_must => k_is)
    (case c_must => k_is)
    (case k_must => k_is)
    (case a_Bars_new => k_is)
    (case i_Bars_new => k_is)
    (case l_Bars_new => k_is)
    (case c_Bars_new => k_is)
    (case k_Bars_new => k_is)
    (case a_Bars_kind => k_is)
    (case i_Bars_kind => k_is)
    (case l_Bars_kind => k_is)
    (case c_Bars_kind => k_is)
    (case k_Bars_kind => k_is)
    (case a_Turned_new => k_is)
    (case i_Turned_new => k_is)
    (case l_Turned_new => k_is)
    (case c_Turned_new => k_is)
    (case k_Turned_new => k_is)
    (case a_difference => k_is)
    (case l_difference => k_is)
    (case c_difference => k_is)
    (case k_difference => k_is)
    (case a_angle_in => k_is)
    (case l_angle_in => k_is)
    (case c_angle_in => k_is)
    (case k_angle_in => k_is)
    (case a_rocker_way => k_is)
    (case l_rocker_way => k_is)
    (case c_rocker_way => k_is)
    (case k_rocker_way => k_is)
    (case a_Turned_contrary => k_is)
    (case i_Turned_contrary => k_is)
    (case l_Turned_contrary => k_is)
    (case c_Turned_contrary => k_is)
    (case k_Turned_contrary => k_is)
    (case a_crank_way => k_is)
    (case l_crank_way => k_is)
    (case c_crank_way => k_is)
    (case k_crank_way => k_is)
    (case a_sign_of => k_is)
    (case l_sign_of => k_is)
    (case c_sign_of => k_is)
    (case k_sign_of => k_is)
    (case a_Turned_is_half => k_is)
    (case i_Turned_is_half => k_is)
    (case l_Turned_is_half => k_is)
    (case c_Turned_is_half => k_is)
    (case k_Turned_is_half => k_is)
    (case a_Turned_doubled => k_is)
    (case i_Turned_doubled => k_is)
    (case l_Turned_doubled => k_is)
    (case c_Turned_doubled => k_is)
    (case k_Turned_doubled => k_is)
    (case a_parts_of => k_is)
    (case l_parts_of => k_is)
    (case c_parts_of => k_is)
    (case k_parts_of => k_is)
    (case a_swing => k_is)
    (case l_swing => k_is)
    (case c_swing => k_is)
    (case k_swing => k_is)
    (case zall => k_is)
    (case gMOST_LENGTH => k_is)
    (case zsorted => k_is)
    (case gIN_LINE => k_is)
    (case zint => k_is)
    (case gEVEN => k_is)
    (case zabs => k_is)
    (case zrange => k_is)
    (case gMOST_PARTS => k_is)
    (case gCRANK_ROCKER => k_is)
  case S =>
    intro K H xs a hO hwi hask hx
    have e := L2.ints_dw [a.1, a.2.1, a.2.2.1, a.2.2.2.1, a.2.2.2.2.1, a.2.2.2.2.2.1] xs hx
    subst e
    obtain ⟨x0, x1, x2, x3, x4, x5, u⟩ := a
    have q : (Codec.inInt 0 9223372036854775807 x0 && (Codec.inInt 0 9223372036854775807 x1 && (Codec.inInt 0 9223372036854775807 x2 && (Codec.inInt 0 9223372036854775807 x3 && (Codec.inInt 0 9223372036854775807 x4 && (Codec.inInt 0 9223372036854775807 x5 && true)))))) = true := hwi
    rw [Bool.and_eq_true, Bool.and_eq_true, Bool.and_eq_true, Bool.and_eq_true, Bool.and_eq_true, Bool.and_eq_true, Codec.inInt_iff, Codec.inInt_iff, Codec.inInt_iff, Codec.inInt_iff, Codec.inInt_iff, Codec.inInt_iff] at q
    refine ⟨x0, x1, x2, x3, x4, x5, rfl, fun p H' hp => ?_⟩
    show L2.Dw K H' (.ref p) (WData.list ((PyWqapbt.swing x0 x1 x2 x3 x4 x5).map WData.int))
    rw [FB.spec_swing q.1.1 q.2.1.1 q.2.2.1.1 q.2.2.2.1.1 q.2.2.2.2.1.1 q.2.2.2.2.2.1.1]
    exact .lst (L2.SqL.of hp) (L2.dw_ints _)
#print axioms PySem.Challenge.cw_fourbars_s08_swing_holds
