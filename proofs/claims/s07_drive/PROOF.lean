import PyProof.Rows.All
import Wide.All
import OpenK.AllK
import Wide.FinOn
import PyProof.EqAt
import PyProof.EqKinds
import PyProof.TupleCall
import Open.SpecLaws
import KE.OsGo
import HandS.ForSpec
import HandS.Comp
import HandS.ExcInit
import HandS.ExcField
import HandS.Evl
import HandS.NoneIn
import HandS.Wide
import PySem.Challenge.RW_fourbars_s07_drive
set_option Elab.async false
set_option linter.all false
set_option maxRecDepth 100000
set_option maxHeartbeats 8000000
/-! Four bars: plain law, part 1: lengths, kind. -/
namespace FB
open LkFour LkDSpec

/-- all four lengths told as they may be -/
def lensOk (g a c r : Int) : Bool :=
  (decide (1 ≤ g) && decide (g ≤ 999)) && ((decide (1 ≤ a) && decide (a ≤ 999)) && ((decide (1 ≤ c) && decide (c ≤ 999)) && (decide (1 ≤ r) && decide (r ≤ 999))))

theorem lensOk_iff {g a c r : Int} : lensOk g a c r = true ↔ (1 ≤ g ∧ g ≤ 999) ∧ (1 ≤ a ∧ a ≤ 999) ∧ (1 ≤ c ∧ c ≤ 999) ∧ (1 ≤ r ∧ r ≤ 999) := by
  simp [lensOk]

/-- the kind, over rising lengths x0 ≤ x1 ≤ x2 ≤ x3 -/
def kindR (g a c x0 x1 x2 x3 : Int) : Int :=
  if x0 + (x1 + x2) ≤ x3 then (if x0 + (x1 + x2) < x3 then 0 else 1)
  else if x0 + x3 < x1 + x2 then (if g = x0 then 2 else if a = x0 then 3 else if c = x0 then 4 else 5)
  else if x1 + x2 < x0 + x3 then 7 else 6

/-- the kind, as the specification has it -/
def kindI (g a c r : Int) : Int := ((Neutral.four g a c r).kind : Nat)

theorem isLength_iff {n : Nat} : isLength n = true ↔ 1 ≤ n ∧ n ≤ 999 := by
  unfold isLength
  rw [Bool.and_eq_true, decide_eq_true_iff, decide_eq_true_iff]
  exact Iff.rfl

theorem four_lens (g a c r : Int) (hg : 0 ≤ g) (ha : 0 ≤ a) (hc : 0 ≤ c) (hr : 0 ≤ r) : lengths (Neutral.four g a c r) = lensOk g a c r := by
  rw [Bool.eq_iff_iff, lensOk_iff]
  unfold lengths
  rw [Bool.and_eq_true, Bool.and_eq_true, Bool.and_eq_true, isLength_iff, isLength_iff, isLength_iff, isLength_iff]
  show (1 ≤ g.toNat ∧ g.toNat ≤ 999) ∧ (1 ≤ a.toNat ∧ a.toNat ≤ 999) ∧ (1 ≤ c.toNat ∧ c.toNat ≤ 999) ∧ (1 ≤ r.toNat ∧ r.toNat ≤ 999) ↔ _
  omega

theorem perm_sum : ∀ {l m : List Int}, l.Perm m → l.sum = m.sum := by
  intro l m h
  induction h with
  | nil => rfl
  | cons x _ ih => simp [ih]
  | swap x y l => simp; omega
  | trans _ _ h1 h2 => exact h1.trans h2

theorem or_bounds {x0 x1 x2 x3 g : Int} (h01 : x0 ≤ x1) (h12 : x1 ≤ x2) (h23 : x2 ≤ x3) (h : g = x0 ∨ g = x1 ∨ g = x2 ∨ g = x3) : x0 ≤ g ∧ g ≤ x3 := by
  omega

theorem longest_of {g a c r x3 : Int} (m3 : x3 = g ∨ x3 = a ∨ x3 = c ∨ x3 = r) (h0 : 0 ≤ x3) (bg : g ≤ x3) (ba : a ≤ x3) (bc : c ≤ x3) (br : r ≤ x3) :
    ((Neutral.four g a c r).longest : Int) = x3 := by
  show ((max (max g.toNat a.toNat) (max c.toNat r.toNat) : Nat) : Int) = x3
  have e := Int.toNat_of_nonneg h0
  have e1 : g.toNat ≤ x3.toNat := by omega
  have e2 : a.toNat ≤ x3.toNat := by omega
  have e3 : c.toNat ≤ x3.toNat := by omega
  have e4 : r.toNat ≤ x3.toNat := by omega
  have e5 : max (max g.toNat a.toNat) (max c.toNat r.toNat) = x3.toNat := by
    refine Nat.le_antisymm (Nat.max_le.2 ⟨Nat.max_le.2 ⟨e1, e2⟩, Nat.max_le.2 ⟨e3, e4⟩⟩) ?_
    rcases m3 with h | h | h | h <;> subst h
    · exact Nat.le_trans (Nat.le_max_left _ _) (Nat.le_max_left _ _)
    · exact Nat.le_trans (Nat.le_max_right _ _) (Nat.le_max_left _ _)
    · exact Nat.le_trans (Nat.le_max_left _ _) (Nat.le_max_right _ _)
    · exact Nat.le_trans (Nat.le_max_right _ _) (Nat.le_max_right _ _)
  rw [e5, e]

theorem shortest_of {g a c r x0 : Int} (m0 : x0 = g ∨ x0 = a ∨ x0 = c ∨ x0 = r) (h0 : 0 ≤ x0) (bg : x0 ≤ g) (ba : x0 ≤ a) (bc : x0 ≤ c) (br : x0 ≤ r) :
    ((Neutral.four g a c r).shortest : Int) = x0 := by
  show ((min (min g.toNat a.toNat) (min c.toNat r.toNat) : Nat) : Int) = x0
  have e := Int.toNat_of_nonneg h0
  have e1 : x0.toNat ≤ g.toNat := by omega
  have e2 : x0.toNat ≤ a.toNat := by omega
  have e3 : x0.toNat ≤ c.toNat := by omega
  have e4 : x0.toNat ≤ r.toNat := by omega
  have e5 : min (min g.toNat a.toNat) (min c.toNat r.toNat) = x0.toNat := by
    refine Nat.le_antisymm ?_ (Nat.le_min.2 ⟨Nat.le_min.2 ⟨e1, e2⟩, Nat.le_min.2 ⟨e3, e4⟩⟩)
    rcases m0 with h | h | h | h <;> subst h
    · exact Nat.le_trans (Nat.min_le_left _ _) (Nat.min_le_left _ _)
    · exact Nat.le_trans (Nat.min_le_left _ _) (Nat.min_le_right _ _)
    · exact Nat.le_trans (Nat.min_le_right _ _) (Nat.min_le_left _ _)
    · exact Nat.le_trans (Nat.min_le_right _ _) (Nat.min_le_right _ _)
  rw [e5, e]

theorem kind_core {L S T G A C : Nat} {g a c x0 x1 x2 x3 : Int} (eL : (L : Int) = x3) (eS : (S : Int) = x0) (eT : (T : Int) = x0 + x1 + x2 + x3) (eg : (G : Int) = g) (ea : (A : Int) = a) (ec : (C : Int) = c)
    (h01 : x0 ≤ x1) (h12 : x1 ≤ x2) (h23 : x2 ≤ x3) :
    ((if S + (T - L - S) < L then 0 else if S + (T - L - S) = L then 1 else if S + L < T - L - S then (if G = S then 2 else if A = S then 3 else if C = S then 4 else 5) else if S + L = T - L - S then 6 else 7 : Nat) : Int) = kindR g a c x0 x1 x2 x3 := by
  have eM : T - L - S = (x1 + x2).toNat := by omega
  have e0 : 0 ≤ x1 + x2 := by omega
  have eM' : ((T - L - S : Nat) : Int) = x1 + x2 := by omega
  generalize T - L - S = M at *
  clear eM
  unfold kindR
  by_cases k1 : S + M < L
  · rw [if_pos k1, if_pos (show x0 + (x1 + x2) ≤ x3 by omega), if_pos (show x0 + (x1 + x2) < x3 by omega)]; rfl
  rw [if_neg k1]
  by_cases k2 : S + M = L
  · rw [if_pos k2, if_pos (show x0 + (x1 + x2) ≤ x3 by omega), if_neg (show ¬ x0 + (x1 + x2) < x3 by omega)]; rfl
  rw [if_neg k2, if_neg (show ¬ x0 + (x1 + x2) ≤ x3 by omega)]
  by_cases k3 : S + L < M
  · rw [if_pos k3, if_pos (show x0 + x3 < x1 + x2 by omega)]
    by_cases j1 : G = S
    · rw [if_pos j1, if_pos (show g = x0 by omega)]; rfl
    rw [if_neg j1, if_neg (show ¬ g = x0 by omega)]
    by_cases j2 : A = S
    · rw [if_pos j2, if_pos (show a = x0 by omega)]; rfl
    rw [if_neg j2, if_neg (show ¬ a = x0 by omega)]
    by_cases j3 : C = S
    · rw [if_pos j3, if_pos (show c = x0 by omega)]; rfl
    rw [if_neg j3, if_neg (show ¬ c = x0 by omega)]; rfl
  rw [if_neg k3, if_neg (show ¬ x0 + x3 < x1 + x2 by omega)]
  by_cases k4 : S + L = M
  · rw [if_pos k4, if_neg (show ¬ x1 + x2 < x0 + x3 by omega)]; rfl
  rw [if_neg k4, if_pos (show x1 + x2 < x0 + x3 by omega)]; rfl

theorem kind_rising {g a c r x0 x1 x2 x3 : Int} (hg : 0 ≤ g) (ha : 0 ≤ a) (hc : 0 ≤ c) (hr : 0 ≤ r)
    (hp : [x0, x1, x2, x3].Perm [g, a, c, r]) (h01 : x0 ≤ x1) (h12 : x1 ≤ x2) (h23 : x2 ≤ x3) :
    kindI g a c r = kindR g a c x0 x1 x2 x3 := by
  have hs := perm_sum hp
  simp only [List.sum_cons, List.sum_nil] at hs
  have m0 : x0 ∈ [g, a, c, r] := hp.mem_iff.1 (by simp)
  have m3 : x3 ∈ [g, a, c, r] := hp.mem_iff.1 (by simp)
  have ng : g ∈ [x0, x1, x2, x3] := hp.mem_iff.2 (by simp)
  have na : a ∈ [x0, x1, x2, x3] := hp.mem_iff.2 (by simp)
  have nc : c ∈ [x0, x1, x2, x3] := hp.mem_iff.2 (by simp)
  have nr : r ∈ [x0, x1, x2, x3] := hp.mem_iff.2 (by simp)
  simp only [List.mem_cons, List.not_mem_nil, or_false] at m0 m3 ng na nc nr
  have bg := or_bounds h01 h12 h23 ng
  have ba := or_bounds h01 h12 h23 na
  have bc := or_bounds h01 h12 h23 nc
  have br := or_bounds h01 h12 h23 nr
  clear ng na nc nr hp
  have p3 : 0 ≤ x3 := by omega
  have p0 : 0 ≤ x0 := by rcases m0 with h | h | h | h <;> (rw [h]; assumption)
  have eL := longest_of m3 p3 bg.2 ba.2 bc.2 br.2
  have eS := shortest_of m0 p0 bg.1 ba.1 bc.1 br.1
  have eT : ((Neutral.four g a c r).sum : Int) = x0 + x1 + x2 + x3 := by
    show ((g.toNat + a.toNat + c.toNat + r.toNat : Nat) : Int) = x0 + x1 + x2 + x3
    clear m0 m3
    omega
  exact kind_core eL eS eT (Int.toNat_of_nonneg hg) (Int.toNat_of_nonneg ha) (Int.toNat_of_nonneg hc) h01 h12 h23
end FB
/-! Four bars: plain law, part 2: pins, cosines, lines. -/
namespace FB
open LkFour LkDSpec

def ab (i : Int) : Int := if i < 0 then -i else i
/-- a fraction in lowest terms -/
def fr (o u : Int) : List Int := [o / ((Int.gcd o u : Nat) : Int), u / ((Int.gcd o u : Nat) : Int)]
def nth (g a c r k : Int) : Int := if k = 0 then g else if k = 1 then a else if k = 2 then c else r
def canBe (w z d : Int) : Bool := decide (ab (w - z) ≤ d) && decide (d ≤ w + z)
def cosI (u v d : Int) : List Int := fr (u * u + v * v - d * d) (2 * u * v)
def mn (i j : Int) : Int := if j < i then j else i
def mx (i j : Int) : Int := if j > i then j else i
/-- a pin's bars: u, v meet there; w goes on from u, z from v -/
structure P4 where
  u : Int
  v : Int
  w : Int
  z : Int
def pinI (g a c r n : Int) : P4 := ⟨nth g a c r ((n + 0) % 4), nth g a c r ((n + 1) % 4), nth g a c r ((n + 3) % 4), nth g a c r ((n + 2) % 4)⟩
def fullI (p : P4) : Bool := canBe p.w p.z (ab (p.u - p.v)) && canBe p.w p.z (p.u + p.v)
def rangeI (p : P4) : List Int := cosI p.u p.v (mn (p.u + p.v) (p.w + p.z)) ++ cosI p.u p.v (mx (ab (p.u - p.v)) (ab (p.w - p.z)))
def besideI (own far side other d : Int) : List Int :=
  if d = own + far ∨ far < own then fr (d * d + side * side - other * other) (2 * d * side) else fr (0 - (d * d + side * side - other * other)) (2 * d * side)
def lineI (g a c r n folded other : Int) : List Int :=
  let p := pinI g a c r n
  let d := if folded = 1 then ab (p.u - p.v) else p.u + p.v
  if canBe p.w p.z d = false then [0, 0]
  else if (n + 2) % 4 = other then [1, 2] ++ cosI (pinI g a c r other).u (pinI g a c r other).v d
  else if d ≤ 0 then [-5]
  else if (n + 1) % 4 = other then [1, 2] ++ besideI p.v p.u p.z p.w d
  else [1, 2] ++ besideI p.u p.v p.w p.z d

def ansKind (g a c r : Int) : List Int := if lensOk g a c r = false then [-1] else [kindI g a c r]
def ansFull (g a c r pin : Int) : List Int :=
  if lensOk g a c r = false then [-1] else if ¬ pin ≤ 3 then [-1] else if kindI g a c r = 0 then [-2] else [if fullI (pinI g a c r pin) = true then 1 else 0]
def ansRange (g a c r pin : Int) : List Int :=
  if lensOk g a c r = false then [-1] else if ¬ pin ≤ 3 then [-1] else if kindI g a c r = 0 then [-2] else [0, 4] ++ rangeI (pinI g a c r pin)
def ansLine (g a c r pin folded other : Int) : List Int :=
  if lensOk g a c r = false then [-1] else if ¬ (pin ≤ 3 ∧ other ≤ 3 ∧ other ≠ pin ∧ folded ≤ 1) then [-1] else if kindI g a c r = 0 then [-2] else lineI g a c r pin folded other
def ansCircuits (g a c r : Int) : List Int :=
  if lensOk g a c r = false then [-1] else if kindI g a c r = 0 then [0] else [1 + (if 2 ≤ kindI g a c r ∧ kindI g a c r ≤ 5 then 1 else 0)]

/-! ### the specification's own words opened -/
theorem whole4 {g a c r : Int} (hg : 0 ≤ g) (ha : 0 ≤ a) (hc : 0 ≤ c) (hr : 0 ≤ r) : Neutral.whole [g, a, c, r] = true := by
  simp [Neutral.whole, *]
theorem spec_kind {g a c r : Int} (hg : 0 ≤ g) (ha : 0 ≤ a) (hc : 0 ≤ c) (hr : 0 ≤ r) : PyWqapbt.kind g a c r = ansKind g a c r := by
  have e : PyWqapbt.kind g a c r = Neutral.shown (answer ⟨Neutral.four g a c r, .kind⟩) := by
    simp only [PyWqapbt.kind, Neutral.step, Neutral.callOf, if_pos (whole4 hg ha hc hr), LkDSpec.step]
  rw [e]
  unfold answer ansKind
  dsimp only
  rw [four_lens g a c r hg ha hc hr]
  by_cases k : lensOk g a c r = false
  · rw [if_pos k, if_pos (Or.inl k)]; rfl
  · rw [if_neg k, if_neg (by intro q; rcases q with q | q; exact k q; cases q)]; rfl
theorem spec_circuits {g a c r : Int} (hg : 0 ≤ g) (ha : 0 ≤ a) (hc : 0 ≤ c) (hr : 0 ≤ r) : PyWqapbt.circuits g a c r = ansCircuits g a c r := by
  have e : PyWqapbt.circuits g a c r = Neutral.shown (answer ⟨Neutral.four g a c r, .circuits⟩) := by
    simp only [PyWqapbt.circuits, Neutral.step, Neutral.callOf, if_pos (whole4 hg ha hc hr), LkDSpec.step]
  rw [e]
  unfold answer ansCircuits
  dsimp only
  rw [four_lens g a c r hg ha hc hr]
  by_cases k : lensOk g a c r = false
  · rw [if_pos k, if_pos (Or.inl k)]; rfl
  · rw [if_neg k, if_neg (by intro q; rcases q with q | q; exact k q; cases q)]
    show [(((Neutral.four g a c r).circuits : Nat) : Int)] = _
    unfold Four.circuits kindI
    generalize (Neutral.four g a c r).kind = K
    by_cases k0 : K = 0
    · rw [if_pos k0, if_pos (show (K : Int) = 0 by omega)]; rfl
    · rw [if_neg k0, if_neg (show ¬ (K : Int) = 0 by omega)]
      by_cases k1 : 2 ≤ K ∧ K ≤ 5
      · rw [if_pos k1, if_pos (show 2 ≤ (K : Int) ∧ (K : Int) ≤ 5 by omega)]; rfl
      · rw [if_neg k1, if_neg (show ¬ (2 ≤ (K : Int) ∧ (K : Int) ≤ 5) by omega)]; rfl

theorem two_div (a b : Int) (hb : 0 < b) : two ((a : Rat) / (b : Rat)) = fr a b := by
  rw [← Rat.divInt_eq_div]
  unfold two fr
  rw [Rat.num_divInt, Rat.den_divInt, if_neg (by omega), Int.sign_eq_one_of_pos hb, Int.one_mul, Int.gcd_comm]
  congr 1
  congr 1
  rw [Int.natCast_ediv]; congr 1; omega
theorem two_cosine {u v : Nat} {s : Int} (hu : 1 ≤ u) (hv : 1 ≤ v) : two (cosine u v s) = fr ((u : Int) * u + (v : Int) * v - s) (2 * (u : Int) * v) := by
  have p : 0 < 2 * (u : Int) * v := Int.mul_pos (by omega) (by omega)
  rw [← two_div _ _ p]
  unfold cosine
  congr 1
  congr 1
  · rw [Rat.intCast_sub]; rfl
theorem ab_le {x y : Int} : ab x ≤ y ↔ x ≤ y ∧ -x ≤ y := by
  unfold ab; split <;> omega
theorem ab_nonneg (x : Int) : 0 ≤ ab x := by
  unfold ab; split <;> omega
theorem ab_sq (x : Int) : ab x * ab x = x * x := by
  unfold ab; split
  · rw [Int.neg_mul_neg]
  · rfl
theorem gap_cast (x y : Nat) : ((gap x y : Nat) : Int) = ab ((x : Int) - y) := by
  unfold gap ab; split <;> omega
end FB
/-! Four bars: plain law, part 3: full, range_of, line against the specification. -/
namespace FB
open LkFour LkDSpec

theorem four_cases {n : Int} (h0 : 0 ≤ n) (h3 : n ≤ 3) : n = 0 ∨ n = 1 ∨ n = 2 ∨ n = 3 := by omega
theorem at_pin {g a c r n : Int} (h0 : 0 ≤ n) (h3 : n ≤ 3) :
    (Neutral.four g a c r).at_ n.toNat = ((pinI g a c r n).u.toNat, (pinI g a c r n).v.toNat, (pinI g a c r n).w.toNat, (pinI g a c r n).z.toNat) := by
  rcases four_cases h0 h3 with h | h | h | h <;> subst h <;> rfl
theorem nth_ok {g a c r : Int} (h : lensOk g a c r = true) (k : Int) : 1 ≤ nth g a c r k ∧ nth g a c r k ≤ 999 := by
  have q := lensOk_iff.1 h
  unfold nth
  split
  · exact q.1
  · split
    · exact q.2.1
    · split
      · exact q.2.2.1
      · exact q.2.2.2
theorem canBe_iff {w z d : Int} : canBe w z d = true ↔ ab (w - z) ≤ d ∧ d ≤ w + z := by
  unfold canBe
  rw [Bool.and_eq_true, decide_eq_true_iff, decide_eq_true_iff]
theorem full_core (U V W Z : Nat) : (decide (U + V ≤ W + Z) && decide (gap W Z ≤ gap U V)) = fullI ⟨U, V, W, Z⟩ := by
  rw [Bool.eq_iff_iff]
  unfold fullI
  rw [Bool.and_eq_true, decide_eq_true_iff, decide_eq_true_iff, Bool.and_eq_true, canBe_iff, canBe_iff]
  have g1 := gap_cast W Z
  have g2 := gap_cast U V
  have k1 : ab ((U : Int) - V) ≤ U + V := by rw [ab_le]; omega
  dsimp only
  omega
theorem fr_neg_self {k : Int} (h : 0 < k) : fr (-k) k = [-1, 1] := by
  unfold fr
  rw [Int.neg_gcd, Int.gcd_self]
  have e : ((k.natAbs : Nat) : Int) = k := by omega
  rw [e, Int.neg_ediv_self _ (by omega), Int.ediv_self (by omega)]
theorem fr_self {k : Int} (h : 0 < k) : fr k k = [1, 1] := by
  unfold fr
  rw [Int.gcd_self]
  have e : ((k.natAbs : Nat) : Int) = k := by omega
  rw [e, Int.ediv_self (by omega)]
theorem cos_far {u v : Int} (hu : 1 ≤ u) (hv : 1 ≤ v) : cosI u v (u + v) = [-1, 1] := by
  have p : 0 < 2 * u * v := Int.mul_pos (by omega) (by omega)
  rw [← fr_neg_self p]
  unfold cosI
  congr 1
  grind
theorem cos_near {u v : Int} (hu : 1 ≤ u) (hv : 1 ≤ v) : cosI u v (ab (u - v)) = [1, 1] := by
  have p : 0 < 2 * u * v := Int.mul_pos (by omega) (by omega)
  rw [← fr_self p]
  unfold cosI
  rw [ab_sq]
  congr 1
  grind
theorem range_core {U V W Z : Nat} (hu : 1 ≤ U) (hv : 1 ≤ V) :
    two (if U + V ≤ W + Z then -1 else cosine U V (((W + Z) * (W + Z) : Nat) : Int)) ++ two (if gap W Z ≤ gap U V then 1 else cosine U V ((gap W Z * gap W Z : Nat) : Int)) = rangeI ⟨U, V, W, Z⟩ := by
  have g1 := gap_cast W Z
  have g2 := gap_cast U V
  unfold rangeI
  dsimp only
  congr 1
  · by_cases k : U + V ≤ W + Z
    · rw [if_pos k]
      have e : mn ((U : Int) + V) (W + Z) = U + V := by unfold mn; rw [if_neg (by omega)]
      rw [e, cos_far (by omega) (by omega)]
      rfl
    · rw [if_neg k]
      have e : mn ((U : Int) + V) (W + Z) = W + Z := by unfold mn; rw [if_pos (by omega)]
      rw [e, two_cosine hu hv]
      unfold cosI
      rw [Int.natCast_mul, Int.natCast_add]
  · by_cases k : gap W Z ≤ gap U V
    · rw [if_pos k]
      have e : mx (ab ((U : Int) - V)) (ab ((W : Int) - Z)) = ab ((U : Int) - V) := by unfold mx; rw [if_neg (by omega)]
      rw [e, cos_near (by omega) (by omega)]
      rfl
    · rw [if_neg k]
      have e : mx (ab ((U : Int) - V)) (ab ((W : Int) - Z)) = ab ((W : Int) - Z) := by unfold mx; rw [if_pos (by omega)]
      rw [e, two_cosine hu hv]
      unfold cosI
      rw [Int.natCast_mul, g1]

/-- a pin's bars as natural numbers -/
theorem pin_nats {g a c r : Int} (h : lensOk g a c r = true) (n : Int) :
    ∃ U V W Z : Nat, 1 ≤ U ∧ 1 ≤ V ∧ 1 ≤ W ∧ 1 ≤ Z ∧ pinI g a c r n = ⟨U, V, W, Z⟩ ∧ (pinI g a c r n).u.toNat = U ∧ (pinI g a c r n).v.toNat = V ∧ (pinI g a c r n).w.toNat = W ∧ (pinI g a c r n).z.toNat = Z := by
  have b0 := nth_ok h ((n + 0) % 4)
  have b1 := nth_ok h ((n + 1) % 4)
  have b2 := nth_ok h ((n + 2) % 4)
  have b3 := nth_ok h ((n + 3) % 4)
  unfold pinI
  revert b0 b1 b2 b3
  generalize nth g a c r ((n + 0) % 4) = u
  generalize nth g a c r ((n + 1) % 4) = v
  generalize nth g a c r ((n + 2) % 4) = z
  generalize nth g a c r ((n + 3) % 4) = w
  intro b0 b1 b2 b3
  refine ⟨u.toNat, v.toNat, w.toNat, z.toNat, by omega, by omega, by omega, by omega, ?_, rfl, rfl, rfl, rfl⟩
  rw [Int.toNat_of_nonneg (by omega), Int.toNat_of_nonneg (by omega), Int.toNat_of_nonneg (by omega), Int.toNat_of_nonneg (by omega)]

theorem whole5 {g a c r x : Int} (hg : 0 ≤ g) (ha : 0 ≤ a) (hc : 0 ≤ c) (hr : 0 ≤ r) (hx : 0 ≤ x) : Neutral.whole [g, a, c, r, x] = true := by
  simp [Neutral.whole, *]
theorem kind_zero {g a c r : Int} : kindI g a c r = 0 ↔ (Neutral.four g a c r).kind = 0 := by
  unfold kindI; omega
theorem spec_full {g a c r pin : Int} (hg : 0 ≤ g) (ha : 0 ≤ a) (hc : 0 ≤ c) (hr : 0 ≤ r) (hp : 0 ≤ pin) : PyWqapbt.full g a c r pin = ansFull g a c r pin := by
  have e : PyWqapbt.full g a c r pin = Neutral.shown (answer ⟨Neutral.four g a c r, .full pin.toNat⟩) := by
    simp only [PyWqapbt.full, Neutral.step, Neutral.callOf, if_pos (whole5 hg ha hc hr hp), LkDSpec.step]
  rw [e]
  unfold answer ansFull
  dsimp only
  rw [four_lens g a c r hg ha hc hr]
  by_cases k : lensOk g a c r = false
  · rw [if_pos k, if_pos (Or.inl k)]; rfl
  rw [if_neg k]
  by_cases k3 : pin ≤ 3
  · have q : fine (.full pin.toNat) = true := decide_eq_true (show pin.toNat ≤ 3 by omega)
    rw [if_neg (by intro w; rcases w with w | w; exact k w; rw [q] at w; cases w), if_neg (not_not_intro k3)]
    by_cases k0 : (Neutral.four g a c r).kind = 0
    · rw [if_pos k0, if_pos (kind_zero.2 k0)]; rfl
    rw [if_neg k0, if_neg (mt kind_zero.1 k0)]
    obtain ⟨U, V, W, Z, _, _, _, _, eP, e1, e2, e3, e4⟩ := pin_nats (Bool.not_eq_false _ ▸ k) pin
    have eF : (Neutral.four g a c r).full pin.toNat = fullI (pinI g a c r pin) := by
      unfold Four.full
      rw [at_pin hp k3, e1, e2, e3, e4, eP]
      exact full_core U V W Z
    rw [eF]
    by_cases kf : fullI (pinI g a c r pin) = true
    · rw [if_pos kf]; rfl
    · rw [if_neg kf]; rfl
  · have q : fine (.full pin.toNat) = false := decide_eq_false (show ¬ pin.toNat ≤ 3 by omega)
    rw [if_pos (Or.inr q), if_pos k3]; rfl
theorem spec_range {g a c r pin : Int} (hg : 0 ≤ g) (ha : 0 ≤ a) (hc : 0 ≤ c) (hr : 0 ≤ r) (hp : 0 ≤ pin) : PyWqapbt.range_of g a c r pin = ansRange g a c r pin := by
  have e : PyWqapbt.range_of g a c r pin = Neutral.shown (answer ⟨Neutral.four g a c r, .range pin.toNat⟩) := by
    simp only [PyWqapbt.range_of, Neutral.step, Neutral.callOf, if_pos (whole5 hg ha hc hr hp), LkDSpec.step]
  rw [e]
  unfold answer ansRange
  dsimp only
  rw [four_lens g a c r hg ha hc hr]
  by_cases k : lensOk g a c r = false
  · rw [if_pos k, if_pos (Or.inl k)]; rfl
  rw [if_neg k]
  by_cases k3 : pin ≤ 3
  · have q : fine (.range pin.toNat) = true := decide_eq_true (show pin.toNat ≤ 3 by omega)
    rw [if_neg (by intro w; rcases w with w | w; exact k w; rw [q] at w; cases w), if_neg (not_not_intro k3)]
    by_cases k0 : (Neutral.four g a c r).kind = 0
    · rw [if_pos k0, if_pos (kind_zero.2 k0)]; rfl
    rw [if_neg k0, if_neg (mt kind_zero.1 k0)]
    obtain ⟨U, V, W, Z, hU, hV, _, _, eP, e1, e2, e3, e4⟩ := pin_nats (Bool.not_eq_false _ ▸ k) pin
    have eF : two ((Neutral.four g a c r).range pin.toNat).1 ++ two ((Neutral.four g a c r).range pin.toNat).2 = rangeI (pinI g a c r pin) := by
      unfold Four.range
      rw [at_pin hp k3, e1, e2, e3, e4, eP]
      exact range_core hU hV
    rw [eF]
    show 0 :: (((rangeI (pinI g a c r pin)).length : Nat) : Int) :: (rangeI (pinI g a c r pin) ++ []) = _
    rw [List.append_nil]
    rfl
  · have q : fine (.range pin.toNat) = false := decide_eq_false (show ¬ pin.toNat ≤ 3 by omega)
    rw [if_pos (Or.inr q), if_pos k3]; rfl
end FB
/-! Four bars: plain law, part 4: line. -/
namespace FB
open LkFour LkDSpec
/-- the cosine beside, whatever the sign of the distance -/
theorem beside_core {U V W Z : Nat} {A : Int} (hU : 1 ≤ U) (hV : 1 ≤ V) (hW : 1 ≤ W) (hA : A ≠ 0) (h : A = (U : Int) + V ∨ A = (U : Int) - V) :
    two ((A * A + ((W * W : Nat) : Int) - ((Z * Z : Nat) : Int) : Rat) / (2 * A * (W : Int) : Rat)) = besideI U V W Z (A.natAbs : Int) := by
  have e1 : (A * A + ((W * W : Nat) : Int) - ((Z * Z : Nat) : Int) : Rat) = ((A * A + (W : Int) * W - (Z : Int) * Z : Int) : Rat) := by
    rw [Rat.intCast_sub, Rat.intCast_add, Rat.intCast_mul, Int.natCast_mul, Int.natCast_mul]
  have e2 : (2 * A * (W : Int) : Rat) = ((2 * A * (W : Int) : Int) : Rat) := by
    rw [Rat.intCast_mul, Rat.intCast_mul]; rfl
  rw [e1, e2]
  unfold besideI
  by_cases k : 0 < A
  · have ea : (A.natAbs : Int) = A := by omega
    rw [if_pos (by omega), ea, two_div _ _ (Int.mul_pos (by omega) (by omega))]
  · have ea : (A.natAbs : Int) = -A := by omega
    rw [if_neg (by omega), ea]
    have p : 0 < 2 * -A * (W : Int) := Int.mul_pos (by omega) (by omega)
    rw [← two_div _ _ p]
    congr 1
    rw [← Rat.divInt_eq_div, ← Rat.divInt_eq_div, ← Rat.neg_divInt_neg]
    congr 1 <;> grind
theorem inLine_core (W Z D : Nat) : (decide (gap W Z ≤ D) && decide (D ≤ W + Z)) = canBe W Z D := by
  rw [Bool.eq_iff_iff, canBe_iff, Bool.and_eq_true, decide_eq_true_iff, decide_eq_true_iff]
  have g1 := gap_cast W Z
  omega
/-- what's told of a line -/
def told (x : Option Rat) : List Int := match x with
  | some x => [1, 2] ++ two x
  | none => [-5]
def specLine (f : Four) (pin : Nat) (folded : Bool) (other : Nat) : List Int := if f.inLine pin folded = false then [0, 0] else told (f.lineCosine pin folded other)
theorem line_core {U V W Z : Nat} {A : Int} {n other : Int} (hU : 1 ≤ U) (hV : 1 ≤ V) (hW : 1 ≤ W) (hZ : 1 ≤ Z) (n0 : 0 ≤ n) (n3 : n ≤ 3) (o0 : 0 ≤ other) (o3 : other ≤ 3) (hne : other ≠ n) (B : Bool)
    (hA : A = if B = true then (U : Int) - V else (U : Int) + V) (d : Int) (hd : d = (A.natAbs : Int)) :
    told (if other.toNat = (n.toNat + 2) % 4 then some (cosine W Z (A * A))
      else if A = 0 then none
      else if other.toNat = (n.toNat + 3) % 4 then some ((A * A + ((W * W : Nat) : Int) - ((Z * Z : Nat) : Int) : Rat) / (2 * A * (W : Int) : Rat))
      else
        let e := if B = true then -A else A
        some ((A * A + ((Z * Z : Nat) : Int) - ((W * W : Nat) : Int) : Rat) / (2 * e * (Z : Int) : Rat))) =
    (if (n + 2) % 4 = other then [1, 2] ++ cosI Z W d
      else if d ≤ 0 then [-5]
      else if (n + 1) % 4 = other then [1, 2] ++ besideI V U Z W d
      else [1, 2] ++ besideI U V W Z d) := by
  by_cases k2 : (n + 2) % 4 = other
  · rw [if_pos k2, if_pos (show other.toNat = (n.toNat + 2) % 4 by omega)]
    show [1, 2] ++ two (cosine W Z (A * A)) = [1, 2] ++ cosI Z W d
    rw [two_cosine hW hZ]
    unfold cosI
    have e : d * d = A * A := by rw [hd, ← Int.natCast_mul, Int.natAbs_mul_self]
    rw [e]
    congr 2 <;> grind
  rw [if_neg k2, if_neg (show ¬ other.toNat = (n.toNat + 2) % 4 by omega)]
  by_cases k0 : A = 0
  · rw [if_pos k0, if_pos (show d ≤ 0 by omega)]; rfl
  rw [if_neg k0, if_neg (show ¬ d ≤ 0 by omega)]
  by_cases k1 : (n + 1) % 4 = other
  · rw [if_pos k1, if_neg (show ¬ other.toNat = (n.toNat + 3) % 4 by omega)]
    show [1, 2] ++ two _ = [1, 2] ++ besideI V U Z W d
    congr 1
    have hE : (if B = true then -A else A) ≠ 0 := by split <;> omega
    have hE2 : (if B = true then -A else A) = (V : Int) + U ∨ (if B = true then -A else A) = (V : Int) - U := by
      by_cases kb : B = true
      · rw [if_pos kb] at hA ⊢; omega
      · rw [if_neg kb] at hA ⊢; omega
    have q := beside_core (Z := W) hV hU hZ hE hE2
    have ee : d = ((if B = true then -A else A).natAbs : Int) := by rw [hd]; split <;> omega
    rw [ee, ← q]
    congr 1
    have sq : ((if B = true then -A else A : Int) : Rat) * ((if B = true then -A else A : Int) : Rat) = (A : Rat) * (A : Rat) := by
      split
      · rw [Rat.intCast_neg]; grind
      · rfl
    rw [sq]
  · rw [if_neg k1, if_pos (show other.toNat = (n.toNat + 3) % 4 by omega)]
    show [1, 2] ++ two _ = [1, 2] ++ besideI U V W Z d
    congr 1
    rw [hd]
    refine beside_core hU hV hW k0 ?_
    by_cases kb : B = true
    · rw [if_pos kb] at hA; exact Or.inr hA
    · rw [if_neg kb] at hA; exact Or.inl hA
theorem pin_opp {g a c r n other : Int} (h0 : 0 ≤ n) (h3 : n ≤ 3) (e : (n + 2) % 4 = other) : (pinI g a c r other).u = (pinI g a c r n).z ∧ (pinI g a c r other).v = (pinI g a c r n).w := by
  subst e
  rcases four_cases h0 h3 with h | h | h | h <;> subst h <;> exact ⟨rfl, rfl⟩
theorem whole7 {g a c r x y z : Int} (hg : 0 ≤ g) (ha : 0 ≤ a) (hc : 0 ≤ c) (hr : 0 ≤ r) (hx : 0 ≤ x) (hy : 0 ≤ y) (hz : 0 ≤ z) : Neutral.whole [g, a, c, r, x, y, z] = true := by
  simp [Neutral.whole, *]
theorem spec_line {g a c r pin folded other : Int} (hg : 0 ≤ g) (ha : 0 ≤ a) (hc : 0 ≤ c) (hr : 0 ≤ r) (hp : 0 ≤ pin) (hf : 0 ≤ folded) (ho : 0 ≤ other) :
    PyWqapbt.line g a c r pin folded other = ansLine g a c r pin folded other := by
  have e : PyWqapbt.line g a c r pin folded other = Neutral.shown (answer ⟨Neutral.four g a c r, .line pin.toNat folded.toNat other.toNat⟩) := by
    simp only [PyWqapbt.line, Neutral.step, Neutral.callOf, if_pos (whole7 hg ha hc hr hp hf ho), LkDSpec.step]
  rw [e]
  unfold answer ansLine
  dsimp only
  rw [four_lens g a c r hg ha hc hr]
  by_cases k : lensOk g a c r = false
  · rw [if_pos k, if_pos (Or.inl k)]; rfl
  rw [if_neg k]
  have qi : fine (.line pin.toNat folded.toNat other.toNat) = true ↔ (pin ≤ 3 ∧ other ≤ 3 ∧ other ≠ pin ∧ folded ≤ 1) := by
    unfold fine
    dsimp only
    rw [Bool.and_eq_true, Bool.and_eq_true, Bool.and_eq_true, decide_eq_true_iff, decide_eq_true_iff, decide_eq_true_iff, bne_iff_ne]
    omega
  by_cases kk : pin ≤ 3 ∧ other ≤ 3 ∧ other ≠ pin ∧ folded ≤ 1
  · have q := qi.2 kk
    rw [if_neg (by intro w; rcases w with w | w; exact k w; rw [q] at w; cases w), if_neg (not_not_intro kk)]
    obtain ⟨k3, ko, kne, kf⟩ := kk
    by_cases k0 : (Neutral.four g a c r).kind = 0
    · rw [if_pos k0, if_pos (kind_zero.2 k0)]; rfl
    rw [if_neg k0, if_neg (mt kind_zero.1 k0)]
    have eT : Neutral.shown (if (Neutral.four g a c r).inLine pin.toNat (folded.toNat == 1) = false then (⟨0, [[]]⟩ : Answer) else match (Neutral.four g a c r).lineCosine pin.toNat (folded.toNat == 1) other.toNat with
        | some x => ⟨1, [two x]⟩
        | none => says (-5)) = specLine (Neutral.four g a c r) pin.toNat (folded.toNat == 1) other.toNat := by
      unfold specLine
      split
      · rfl
      · cases (Neutral.four g a c r).lineCosine pin.toNat (folded.toNat == 1) other.toNat <;> rfl
    refine eT.trans ?_
    unfold specLine lineI
    obtain ⟨U, V, W, Z, hU, hV, hW, hZ, eP, e1, e2, e3, e4⟩ := pin_nats (Bool.not_eq_false _ ▸ k) pin
    have ek : (Neutral.four g a c r).at_ pin.toNat = (U, V, W, Z) := by rw [at_pin hp k3, e1, e2, e3, e4]
    generalize hB : (folded.toNat == 1) = B
    have hBi : B = true ↔ folded = 1 := by rw [← hB, beq_iff_eq]; omega
    have eA : (Neutral.four g a c r).apart pin.toNat B = if B = true then (U : Int) - V else (U : Int) + V := by
      unfold Four.apart
      rw [ek]
    generalize hAA : (Neutral.four g a c r).apart pin.toNat B = A at eA
    have ed : (if folded = 1 then ab ((U : Int) - V) else (U : Int) + V) = (A.natAbs : Int) := by
      by_cases kb : B = true
      · rw [if_pos kb] at eA; rw [if_pos (hBi.1 kb), eA]; unfold ab; split <;> omega
      · rw [if_neg kb] at eA; rw [if_neg (mt hBi.2 kb), eA]; omega
    have eI : (Neutral.four g a c r).inLine pin.toNat B = canBe W Z (A.natAbs : Int) := by
      unfold Four.inLine
      rw [ek, hAA]
      exact inLine_core W Z A.natAbs
    rw [eI, eP]
    dsimp only
    rw [ed]
    by_cases kc : canBe W Z (A.natAbs : Int) = false
    · rw [if_pos kc, if_pos kc]
    rw [if_neg kc, if_neg kc]
    unfold Four.lineCosine
    rw [ek, hAA]
    refine (line_core hU hV hW hZ hp k3 ho ko kne B eA _ rfl).trans ?_
    by_cases k2 : (pin + 2) % 4 = other
    · rw [if_pos k2, if_pos k2, (pin_opp hp k3 k2).1, (pin_opp hp k3 k2).2, eP]
    · rw [if_neg k2, if_neg k2]
  · have q : fine (.line pin.toNat folded.toNat other.toNat) = false := by
      cases h : fine (.line pin.toNat folded.toNat other.toNat)
      · rfl
      · exact absurd (qi.1 h) kk
    rw [if_pos (Or.inr q), if_pos kk]; rfl
end FB
/-! Four bars: plain law, part 5: places, directions, turns. -/
namespace FB
open LkFour LkDSpec

structure Pl where
  o : Int
  u : Int
def mkPl (p q : Int) : Pl := if q < 0 then ⟨0 - p, 0 - q⟩ else ⟨p, q⟩
def isPl (p q : Int) : Bool := (decide (ab p ≤ 99) && decide (ab q ≤ 99)) && (decide (p ≠ 0) || decide (q ≠ 0))
def Pl.wt (P : Pl) : Int := P.o * P.o + P.u * P.u
def sqI (g a : Int) (P : Pl) : Int := (g * g + a * a) * P.wt - 2 * g * a * (P.u * P.u - P.o * P.o)
def sameI (P Q : Pl) : Bool := decide (P.o * Q.u = Q.o * P.u)
def beforeI (P Q : Pl) : Bool := if P.u = 0 then false else if Q.u = 0 then true else decide (P.o * Q.u < Q.o * P.u)
def withinI (F L P : Pl) : Bool := if beforeI F L = true then (if beforeI F P = true then beforeI P L else false) else (if beforeI F P = true then true else beforeI P L)
def hasI (F L P : Pl) : Bool := if sameI P F = true then true else if sameI P L = true then true else withinI F L P

/-- places that are told with what's under not below 0, not both 0 -/
structure Pl.Ok (P : Pl) : Prop where
  u0 : 0 ≤ P.u
  ne : P.o ≠ 0 ∨ P.u ≠ 0

theorem isPl_iff {p q : Int} : isPl p q = true ↔ (-99 ≤ p ∧ p ≤ 99) ∧ (-99 ≤ q ∧ q ≤ 99) ∧ (p ≠ 0 ∨ q ≠ 0) := by
  unfold isPl
  rw [Bool.and_eq_true, Bool.and_eq_true, Bool.or_eq_true, decide_eq_true_iff, decide_eq_true_iff, decide_eq_true_iff, decide_eq_true_iff, ab_le, ab_le]
  omega
theorem mkPl_ok {p q : Int} (h : isPl p q = true) : (mkPl p q).Ok := by
  have z := isPl_iff.1 h
  unfold mkPl
  split
  · exact ⟨by dsimp only; omega, by dsimp only; omega⟩
  · exact ⟨by dsimp only; omega, by dsimp only; omega⟩
theorem isPlace_eq (p q : Int) : isPlace p q = isPl p q := by
  rw [Bool.eq_iff_iff, isPl_iff]
  unfold isPlace PLACE
  rw [Bool.and_eq_true, Bool.and_eq_true, decide_eq_true_iff, decide_eq_true_iff, Bool.not_eq_true', ← Bool.not_eq_true, Bool.and_eq_true, beq_iff_eq, beq_iff_eq]
  omega
theorem mul_self_pos {x : Int} (h : x ≠ 0) : 0 < x * x := by
  rcases Int.lt_or_gt_of_ne h with k | k
  · exact Int.mul_pos_of_neg_of_neg k k
  · exact Int.mul_pos k k
theorem mul_self_nn (x : Int) : 0 ≤ x * x := by
  by_cases h : x = 0
  · subst h; decide
  · exact Int.le_of_lt (mul_self_pos h)
theorem Pl.wt_pos {P : Pl} (h : P.o ≠ 0 ∨ P.u ≠ 0) : 0 < P.wt := by
  unfold Pl.wt
  have a := mul_self_nn P.o
  have b := mul_self_nn P.u
  rcases h with k | k
  · have := mul_self_pos k; omega
  · have := mul_self_pos k; omega

/-! ### directions: squares of half an angle's direction (C, S) -/
/-- less than, over whole numbers -/
def ltT (x1 y1 x2 y2 : Int) : Bool :=
  let u1 := decide (0 < y1) || (decide (y1 = 0) && decide (0 < x1))
  let u2 := decide (0 < y2) || (decide (y2 = 0) && decide (0 < x2))
  if u1 = true ∧ u2 = false then true else if u1 = false ∧ u2 = true then false else decide (0 < x1 * y2 - y1 * x2)
theorem pos_div {A B : Int} (hB : 0 < B) : 0 < ((A : Rat) / (B : Rat)) ↔ 0 < A := by
  have hB' : (0 : Rat) < (B : Rat) := by rw [← Rat.intCast_zero]; exact Rat.intCast_lt_intCast.2 hB
  rw [Rat.lt_div_iff hB', Rat.zero_mul, ← Rat.intCast_zero, Rat.intCast_lt_intCast]
theorem zero_div {A B : Int} (hB : 0 < B) : ((A : Rat) / (B : Rat)) = 0 ↔ A = 0 := by
  have hB' : (B : Rat) ≠ 0 := by intro h; rw [← Rat.intCast_zero, Rat.intCast_inj] at h; omega
  constructor
  · intro h
    have e : (A : Rat) = 0 := by
      have := congrArg (fun x => x * (B : Rat)) h
      simp only [Rat.zero_mul] at this
      rwa [Rat.div_mul_cancel hB'] at this
    rw [← Rat.intCast_zero, Rat.intCast_inj] at e
    exact e
  · intro h; subst h; rw [Rat.intCast_zero, Rat.div_def, Rat.zero_mul]
theorem upper_div {A C B : Int} (hB : 0 < B) : upper ((A : Rat) / (B : Rat), (C : Rat) / (B : Rat)) = (decide (0 < C) || (decide (C = 0) && decide (0 < A))) := by
  rw [Bool.eq_iff_iff]
  unfold upper
  rw [Bool.or_eq_true, Bool.and_eq_true, decide_eq_true_iff, decide_eq_true_iff, decide_eq_true_iff, Bool.or_eq_true, Bool.and_eq_true, decide_eq_true_iff, decide_eq_true_iff, decide_eq_true_iff, pos_div hB, pos_div hB, zero_div hB]
theorem cross_div {A C B D F E : Int} (hB : 0 < B) (hE : 0 < E) : ((A : Rat) / (B : Rat)) * ((F : Rat) / (E : Rat)) - ((C : Rat) / (B : Rat)) * ((D : Rat) / (E : Rat)) = ((A * F - C * D : Int) : Rat) / ((B * E : Int) : Rat) := by
  have hB' : (B : Rat) ≠ 0 := by intro h; rw [← Rat.intCast_zero, Rat.intCast_inj] at h; omega
  have hE' : (E : Rat) ≠ 0 := by intro h; rw [← Rat.intCast_zero, Rat.intCast_inj] at h; omega
  rw [Rat.intCast_sub, Rat.intCast_mul, Rat.intCast_mul, Rat.intCast_mul]
  grind
theorem lessTurn_div {A C B D F E : Int} (hB : 0 < B) (hE : 0 < E) : lessTurn ((A : Rat) / (B : Rat), (C : Rat) / (B : Rat)) ((D : Rat) / (E : Rat), (F : Rat) / (E : Rat)) = ltT A C D F := by
  unfold lessTurn ltT
  rw [upper_div hB, upper_div hE, cross_div hB hE]
  have e : decide (0 < ((A * F - C * D : Int) : Rat) / ((B * E : Int) : Rat)) = decide (0 < A * F - C * D) := by
    rw [decide_eq_decide, pos_div (Int.mul_pos hB hE)]
  rw [e]
theorem back_div {A C B D F E : Int} (hB : 0 < B) (hE : 0 < E) : back ((A : Rat) / (B : Rat), (C : Rat) / (B : Rat)) ((D : Rat) / (E : Rat), (F : Rat) / (E : Rat)) = (((A * D + C * F : Int) : Rat) / ((B * E : Int) : Rat), ((C * D - A * F : Int) : Rat) / ((B * E : Int) : Rat)) := by
  unfold back
  have hB' : (B : Rat) ≠ 0 := by intro h; rw [← Rat.intCast_zero, Rat.intCast_inj] at h; omega
  have hE' : (E : Rat) ≠ 0 := by intro h; rw [← Rat.intCast_zero, Rat.intCast_inj] at h; omega
  dsimp only
  congr 1
  · rw [Rat.intCast_add, Rat.intCast_mul, Rat.intCast_mul, Rat.intCast_mul]
    grind
  · rw [Rat.intCast_sub, Rat.intCast_mul, Rat.intCast_mul, Rat.intCast_mul]
    grind
end FB
/-! Four bars: plain law, part 6: turns by half angles. -/
namespace FB
open LkFour LkDSpec
theorem pos_of_mul {x k : Int} (hk : 0 < k) (h : 0 < x * k) : 0 < x := by
  by_cases a : 0 < x
  · exact a
  · exfalso
    have a : x ≤ 0 := by omega
    have := Int.mul_le_mul_of_nonneg_right a (Int.le_of_lt hk)
    omega
theorem pos_iff_of {x k r m : Int} (hk : 0 < k) (hm : 0 < m) (e : x * k = r * m) : 0 < x ↔ 0 < r := by
  constructor
  · intro h
    have := Int.mul_pos h hk
    rw [e] at this
    exact pos_of_mul hm this
  · intro h
    have := Int.mul_pos h hm
    rw [← e] at this
    exact pos_of_mul hk this
theorem upT {C S : Int} (h : C ≠ 0 ∨ S ≠ 0) : (decide (0 < 2 * C * S) || (decide (2 * C * S = 0) && decide (0 < C * C - S * S))) = true ↔ 0 < C * S ∨ S = 0 := by
  rw [Bool.or_eq_true, Bool.and_eq_true, decide_eq_true_iff, decide_eq_true_iff, decide_eq_true_iff]
  have e : 2 * C * S = 2 * (C * S) := by grind
  rw [e]
  constructor
  · rintro (k | ⟨k1, k2⟩)
    · left; omega
    · have k3 : C * S = 0 := by omega
      rcases Int.mul_eq_zero.1 k3 with z | z
      · subst z
        have := mul_self_nn S
        omega
      · exact Or.inr z
  · rintro (k | k)
    · left; omega
    · subst k
      right
      have hc : C ≠ 0 := by omega
      have := mul_self_pos hc
      omega
theorem half_turn {C1 S1 C2 S2 : Int} (h1 : C1 ≠ 0 ∨ S1 ≠ 0) (h2 : C2 ≠ 0 ∨ S2 ≠ 0) :
    ltT (C1 * C1 - S1 * S1) (2 * C1 * S1) (C2 * C2 - S2 * S2) (2 * C2 * S2) = true ↔ (S1 = 0 ∧ S2 ≠ 0) ∨ 0 < (C1 * S1) * (S2 * S2) - (S1 * S1) * (C2 * S2) := by
  have a1 := upT h1
  have a2 := upT h2
  unfold ltT
  dsimp only
  revert a1 a2
  generalize (decide (0 < 2 * C1 * S1) || (decide (2 * C1 * S1 = 0) && decide (0 < C1 * C1 - S1 * S1))) = u1
  generalize (decide (0 < 2 * C2 * S2) || (decide (2 * C2 * S2 = 0) && decide (0 < C2 * C2 - S2 * S2))) = u2
  intro a1 a2
  have both : ∀ (n1 : S1 ≠ 0) (n2 : S2 ≠ 0) (hh : 0 ≤ (C1 * S1) * (C2 * S2)), 0 < (C1 * C1 - S1 * S1) * (2 * C2 * S2) - 2 * C1 * S1 * (C2 * C2 - S2 * S2) ↔ 0 < (C1 * S1) * (S2 * S2) - (S1 * S1) * (C2 * S2) := by
    intro n1 n2 hh
    have k1 := mul_self_pos n1
    have k2 := mul_self_pos n2
    have kk := Int.mul_pos k1 k2
    refine pos_iff_of (k := (S1 * S1) * (S2 * S2)) (m := 2 * ((C1 * S1) * (C2 * S2) + (S1 * S1) * (S2 * S2))) kk (by omega) ?_
    grind
  cases u1 <;> cases u2
  · -- both below
    have b1 : ¬ (0 < C1 * S1 ∨ S1 = 0) := fun q => Bool.noConfusion (a1.2 q)
    have b2 : ¬ (0 < C2 * S2 ∨ S2 = 0) := fun q => Bool.noConfusion (a2.2 q)
    have n1 : S1 ≠ 0 := fun q => b1 (Or.inr q)
    have n2 : S2 ≠ 0 := fun q => b2 (Or.inr q)
    have hh : 0 ≤ (C1 * S1) * (C2 * S2) := Int.mul_nonneg_of_nonpos_of_nonpos (by omega) (by omega)
    rw [if_neg (by simp), if_neg (by simp), decide_eq_true_iff, both n1 n2 hh]
    constructor
    · exact Or.inr
    · rintro (q | q)
      · exact absurd q.1 n1
      · exact q
  · -- the first below, the second above
    have b1 : ¬ (0 < C1 * S1 ∨ S1 = 0) := fun q => Bool.noConfusion (a1.2 q)
    have n1 : S1 ≠ 0 := fun q => b1 (Or.inr q)
    rw [if_neg (by simp), if_pos (by simp)]
    constructor
    · intro q; cases q
    · rintro (q | q)
      · exact absurd q.1 n1
      · exfalso
        rcases a2.1 rfl with z | z
        · have e1 : (C1 * S1) * (S2 * S2) ≤ 0 := Int.mul_nonpos_of_nonpos_of_nonneg (by omega) (mul_self_nn _)
          have e2 : 0 ≤ (S1 * S1) * (C2 * S2) := Int.mul_nonneg (mul_self_nn _) (by omega)
          omega
        · subst z
          simp at q
  · -- the first above, the second below
    have b2 : ¬ (0 < C2 * S2 ∨ S2 = 0) := fun q => Bool.noConfusion (a2.2 q)
    have n2 : S2 ≠ 0 := fun q => b2 (Or.inr q)
    rw [if_pos (by simp)]
    refine ⟨fun _ => ?_, fun _ => rfl⟩
    rcases a1.1 rfl with z | z
    · right
      have e1 : 0 < (C1 * S1) * (S2 * S2) := Int.mul_pos z (mul_self_pos n2)
      have e2 : (S1 * S1) * (C2 * S2) ≤ 0 := Int.mul_nonpos_of_nonneg_of_nonpos (mul_self_nn _) (by omega)
      omega
    · exact Or.inl ⟨z, n2⟩
  · -- both above
    rw [if_neg (by simp), if_neg (by simp), decide_eq_true_iff]
    by_cases n1 : S1 = 0
    · subst n1
      by_cases n2 : S2 = 0
      · subst n2; simp
      · have z : 0 < C2 * S2 := (a2.1 rfl).resolve_right n2
        have hc : C1 ≠ 0 := by omega
        refine ⟨fun _ => Or.inl ⟨rfl, n2⟩, fun _ => ?_⟩
        have k := Int.mul_pos (mul_self_pos hc) z
        have e : (C1 * C1 - 0 * 0) * (2 * C2 * S2) - 2 * C1 * 0 * (C2 * C2 - S2 * S2) = 2 * ((C1 * C1) * (C2 * S2)) := by grind
        omega
    · by_cases n2 : S2 = 0
      · subst n2
        have z : 0 < C1 * S1 := (a1.1 rfl).resolve_right n1
        have hc : C2 ≠ 0 := by omega
        have k := Int.mul_pos z (mul_self_pos hc)
        have e : (C1 * C1 - S1 * S1) * (2 * C2 * 0) - 2 * C1 * S1 * (C2 * C2 - 0 * 0) = -(2 * ((C1 * S1) * (C2 * C2))) := by grind
        constructor
        · intro q; omega
        · rintro (q | q)
          · exact absurd q.1 n1
          · simp at q
      · have z1 : 0 < C1 * S1 := (a1.1 rfl).resolve_right n1
        have z2 : 0 < C2 * S2 := (a2.1 rfl).resolve_right n2
        rw [both n1 n2 (Int.le_of_lt (Int.mul_pos z1 z2))]
        constructor
        · exact Or.inr
        · rintro (q | q)
          · exact absurd q.1 n1
          · exact q

/-- the direction of a place -/
theorem place_eq (p q : Int) : place p q = (((q * q - p * p : Int) : Rat) / ((q * q + p * p : Int) : Rat), ((2 * p * q : Int) : Rat) / ((q * q + p * p : Int) : Rat)) := rfl
theorem place_mk (p q : Int) : place p q = place (mkPl p q).o (mkPl p q).u := by
  unfold mkPl
  split
  · rw [place_eq, place_eq]
    dsimp only
    have e1 : (0 - q) * (0 - q) = q * q := by grind
    have e2 : (0 - p) * (0 - p) = p * p := by grind
    have e3 : 2 * (0 - p) * (0 - q) = 2 * p * q := by grind
    rw [e1, e2, e3]
  · rfl
/-- the way's measure: below 0 or above 0 -/
def sd (P Q : Pl) : Int := Q.o * P.u - P.o * Q.u
theorem one_dir : ((1 : Rat), (0 : Rat)) = (((1 : Int) : Rat) / ((1 : Int) : Rat), ((0 : Int) : Rat) / ((1 : Int) : Rat)) := by decide +kernel
theorem minus_dir : ((-1 : Rat), (0 : Rat)) = (((-1 : Int) : Rat) / ((1 : Int) : Rat), ((0 : Int) : Rat) / ((1 : Int) : Rat)) := by decide +kernel
theorem back_sum {P Q : Pl} : (P.u * Q.u + P.o * Q.o) * (P.u * Q.u + P.o * Q.o) + sd P Q * sd P Q = P.wt * Q.wt := by
  unfold sd Pl.wt; grind
theorem ne_of_sum {a b k : Int} (hk : 0 < k) (e : a * a + b * b = k) : a ≠ 0 ∨ b ≠ 0 := by
  by_cases ha : a = 0
  · by_cases hb : b = 0
    · subst ha; subst hb; simp at e; omega
    · exact Or.inr hb
  · exact Or.inl ha
/-- **between**, of the direction of the ground (z = 1) and of the contrary (z = -1) -/
theorem between_gen {P Q : Pl} (hP : P.o ≠ 0 ∨ P.u ≠ 0) (hQ : Q.o ≠ 0 ∨ Q.u ≠ 0) {z : Int} {ck sk : Int} (hz1 : z * (P.u * P.u - P.o * P.o) = ck * ck - sk * sk) (hz2 : z * (-(2 * P.o * P.u)) = 2 * ck * sk) (hk : ck ≠ 0 ∨ sk ≠ 0) :
    between (place P.o P.u) (place Q.o Q.u) (((z : Int) : Rat) / ((1 : Int) : Rat), ((0 : Int) : Rat) / ((1 : Int) : Rat)) = true ↔
      0 < (ck * sk) * (sd P Q * sd P Q) - (sk * sk) * ((P.u * Q.u + P.o * Q.o) * sd P Q) := by
  have w1 : 0 < P.u * P.u + P.o * P.o := by have := Pl.wt_pos hP; unfold Pl.wt at this; omega
  have w2 : 0 < Q.u * Q.u + Q.o * Q.o := by have := Pl.wt_pos hQ; unfold Pl.wt at this; omega
  unfold between
  dsimp only
  rw [place_eq, place_eq, back_div w2 w1, back_div (by decide) w1, one_dir, lessTurn_div (by decide) (Int.mul_pos (by decide) w1), lessTurn_div (Int.mul_pos (by decide) w1) (Int.mul_pos w2 w1)]
  have hT : (P.u * Q.u + P.o * Q.o) ≠ 0 ∨ sd P Q ≠ 0 := ne_of_sum (Int.mul_pos (Pl.wt_pos hP) (Pl.wt_pos hQ)) back_sum
  have e1 : z * (P.u * P.u - P.o * P.o) + 0 * (2 * P.o * P.u) = ck * ck - sk * sk := by rw [← hz1]; grind
  have e2 : 0 * (P.u * P.u - P.o * P.o) - z * (2 * P.o * P.u) = 2 * ck * sk := by rw [← hz2]; grind
  have e3 : (Q.u * Q.u - Q.o * Q.o) * (P.u * P.u - P.o * P.o) + 2 * Q.o * Q.u * (2 * P.o * P.u) = (P.u * Q.u + P.o * Q.o) * (P.u * Q.u + P.o * Q.o) - sd P Q * sd P Q := by unfold sd; grind
  have e4 : 2 * Q.o * Q.u * (P.u * P.u - P.o * P.o) - (Q.u * Q.u - Q.o * Q.o) * (2 * P.o * P.u) = 2 * (P.u * Q.u + P.o * Q.o) * sd P Q := by unfold sd; grind
  rw [e1, e2, e3, e4, Bool.and_eq_true, half_turn hk hT]
  have q1 : ltT 1 0 (ck * ck - sk * sk) (2 * ck * sk) = true ↔ sk ≠ 0 := by
    have := half_turn (C1 := 1) (S1 := 0) (C2 := ck) (S2 := sk) (by omega) hk
    simp only [Int.one_mul, Int.mul_one, Int.mul_zero, Int.zero_mul, Int.sub_zero] at this
    rw [this]
    simp
  rw [q1]
  constructor
  · rintro ⟨a, b⟩
    rcases b with b | b
    · exact absurd b.1 a
    · exact b
  · intro h
    refine ⟨fun q => ?_, Or.inr h⟩
    subst q
    simp at h
theorem neg_pos_iff {x k y : Int} (hk : 0 < k) (e : y = -(x * k)) : 0 < y ↔ x < 0 := by
  have := pos_iff_of (x := -x) (k := k) (r := y) (m := 1) hk (by decide) (by grind)
  omega
theorem between_ahead {P Q : Pl} (hP : P.o ≠ 0 ∨ P.u ≠ 0) (hQ : Q.o ≠ 0 ∨ Q.u ≠ 0) :
    between (place P.o P.u) (place Q.o Q.u) (1, 0) = true ↔ P.o * Q.o * sd P Q < 0 := by
  rw [one_dir, between_gen hP hQ (z := 1) (ck := P.u) (sk := -P.o) (by grind) (by grind) (by omega)]
  exact neg_pos_iff (Pl.wt_pos hP) (by unfold sd Pl.wt; grind)
theorem between_behind {P Q : Pl} (hP : P.o ≠ 0 ∨ P.u ≠ 0) (hQ : Q.o ≠ 0 ∨ Q.u ≠ 0) :
    between (place P.o P.u) (place Q.o Q.u) (-1, 0) = true ↔ P.u * Q.u * sd P Q < 0 := by
  rw [minus_dir, between_gen hP hQ (z := -1) (ck := P.o) (sk := P.u) (by grind) (by grind) (by omega)]
  exact neg_pos_iff (Pl.wt_pos hP) (by unfold sd Pl.wt; grind)
end FB
/-! Four bars: plain law, part 7: the program's ways against the specification's. -/
namespace FB
open LkFour LkDSpec
def ahead : Pl := ⟨0, 1⟩
def behind : Pl := ⟨1, 0⟩
theorem before_iff {P Q : Pl} (hP : P.Ok) (hQ : Q.Ok) : beforeI P Q = true ↔ P.u ≠ 0 ∧ (Q.u = 0 ∨ 0 < sd P Q) := by
  unfold beforeI sd
  by_cases a : P.u = 0
  · rw [if_pos a]; simp [a]
  rw [if_neg a]
  by_cases b : Q.u = 0
  · rw [if_pos b]; simp [a, b]
  rw [if_neg b, decide_eq_true_iff]
  constructor
  · intro h; exact ⟨a, Or.inr (by omega)⟩
  · rintro ⟨_, h⟩
    rcases h with h | h
    · exact absurd h b
    · omega
theorem ahead_ok : ahead.Ok := ⟨by decide, by decide⟩
theorem behind_ok : behind.Ok := ⟨by decide, by decide⟩
theorem sd_ahead_l (P : Pl) : sd P ahead = -P.o := by unfold sd ahead; dsimp only; omega
theorem sd_ahead_r (P : Pl) : sd ahead P = P.o := by unfold sd ahead; dsimp only; omega
theorem same_iff {P Q : Pl} : sameI P Q = true ↔ sd P Q = 0 := by
  unfold sameI sd; rw [decide_eq_true_iff]; omega
theorem bcond {b c : Bool} : (if b = true then c else false) = true ↔ b = true ∧ c = true := by cases b <;> simp
theorem bcond2 {b c : Bool} : (if b = true then true else c) = true ↔ b = true ∨ c = true := by cases b <;> simp
theorem within_iff {F L P : Pl} : withinI F L P = true ↔ (beforeI F L = true ∧ beforeI F P = true ∧ beforeI P L = true) ∨ (¬ beforeI F L = true ∧ (beforeI F P = true ∨ beforeI P L = true)) := by
  unfold withinI
  by_cases h : beforeI F L = true
  · rw [if_pos h, bcond]; simp [h]
  · rw [if_neg h, bcond2]; simp [h]
theorem has_iff {F L P : Pl} : hasI F L P = true ↔ sd P F = 0 ∨ sd P L = 0 ∨ withinI F L P = true := by
  unfold hasI
  rw [bcond2, bcond2, same_iff, same_iff]
theorem lt_zero_iff {x k y : Int} (hk : 0 < k) (e : y = x * k) : y < 0 ↔ x < 0 := by
  have := pos_iff_of (x := -x) (k := k) (r := -y) (m := 1) hk (by decide) (by rw [e]; grind)
  omega
theorem lt_zero_iff' {x k y : Int} (hk : 0 < k) (e : y = -(x * k)) : y < 0 ↔ 0 < x := by
  have := pos_iff_of (x := x) (k := k) (r := -y) (m := 1) hk (by decide) (by rw [e]; grind)
  omega
theorem neg_of_mul {x k : Int} (hk : 0 < k) (h : x * k < 0) : x < 0 := (lt_zero_iff hk rfl).1 h
theorem mul_neg_cases {x y : Int} (h : x * y < 0) : (x < 0 ∧ 0 < y) ∨ (0 < x ∧ y < 0) := by
  rcases Int.lt_trichotomy x 0 with a | a | a
  · refine Or.inl ⟨a, ?_⟩
    by_cases b : 0 < y
    · exact b
    · have := Int.mul_nonneg_of_nonpos_of_nonpos (Int.le_of_lt a) (show y ≤ 0 by omega); omega
  · subst a; simp at h
  · refine Or.inr ⟨a, ?_⟩
    by_cases b : y < 0
    · exact b
    · have := Int.mul_nonneg (Int.le_of_lt a) (show 0 ≤ y by omega); omega
theorem mul_pos_cases {x y : Int} (h : 0 < x * y) : (x < 0 ∧ y < 0) ∨ (0 < x ∧ 0 < y) := by
  rcases Int.lt_trichotomy x 0 with a | a | a
  · refine Or.inl ⟨a, ?_⟩
    by_cases b : y < 0
    · exact b
    · have := Int.mul_nonpos_of_nonpos_of_nonneg (Int.le_of_lt a) (show 0 ≤ y by omega); omega
  · subst a; simp at h
  · refine Or.inr ⟨a, ?_⟩
    by_cases b : 0 < y
    · exact b
    · have := Int.mul_nonpos_of_nonneg_of_nonpos (Int.le_of_lt a) (show y ≤ 0 by omega); omega
/-- the way over the direction of the ground -/
theorem within_ahead {F L : Pl} (hF : F.Ok) (hL : L.Ok) (hn : sd F L ≠ 0) : withinI F L ahead = true ↔ F.o * L.o * sd F L < 0 := by
  rw [within_iff, before_iff hF hL, before_iff hF ahead_ok, before_iff ahead_ok hL, sd_ahead_l, sd_ahead_r]
  have ea : ahead.u = 1 := rfl
  rw [ea]
  have f0 := hF.u0
  have l0 := hL.u0
  have nF := hF.ne
  have nL := hL.ne
  have dd : sd F L = L.o * F.u - F.o * L.u := rfl
  by_cases k1 : F.u = 0
  · have nf : F.o ≠ 0 := by omega
    have e : sd F L = -(F.o * L.u) := by rw [dd, k1]; simp
    have lp : 0 < L.u := by
      rcases Int.lt_or_eq_of_le l0 with z | z
      · exact z
      · exfalso; apply hn; rw [e, ← z]; simp
    have q : F.o * L.o * sd F L < 0 ↔ 0 < L.o := lt_zero_iff' (k := F.o * F.o * L.u) (Int.mul_pos (mul_self_pos nf) lp) (by rw [e]; grind)
    rw [q]
    omega
  by_cases k2 : L.u = 0
  · have nl : L.o ≠ 0 := by omega
    have fp : 0 < F.u := by omega
    have e : sd F L = L.o * F.u := by rw [dd, k2]; simp
    have q : F.o * L.o * sd F L < 0 ↔ F.o < 0 := lt_zero_iff (k := L.o * L.o * F.u) (Int.mul_pos (mul_self_pos nl) fp) (by rw [e]; grind)
    rw [q]
    omega
  have fp : 0 < F.u := by omega
  have lp : 0 < L.u := by omega
  by_cases hs : 0 < sd F L
  · have q : F.o * L.o * sd F L < 0 ↔ F.o * L.o < 0 := lt_zero_iff hs rfl
    rw [q]
    constructor
    · rintro (⟨_, b, c⟩ | ⟨a, _⟩)
      · exact Int.mul_neg_of_neg_of_pos (by omega) (by omega)
      · exact absurd ⟨k1, Or.inr hs⟩ a
    · intro h
      rcases mul_neg_cases h with ⟨a, b⟩ | ⟨a, b⟩
      · exact Or.inl ⟨⟨k1, Or.inr hs⟩, ⟨k1, Or.inr (by omega)⟩, ⟨by decide, Or.inr b⟩⟩
      · exfalso
        have c1 := Int.mul_neg_of_neg_of_pos b fp
        have c2 := Int.mul_pos a lp
        omega
  · have hs' : sd F L < 0 := by omega
    have q : F.o * L.o * sd F L < 0 ↔ 0 < F.o * L.o := lt_zero_iff' (k := -sd F L) (by omega) (by grind)
    rw [q]
    have c1 : L.o * F.u < F.o * L.u := by omega
    constructor
    · rintro (⟨a, _⟩ | ⟨_, b⟩)
      · omega
      · rcases b with b | b
        · have fn : F.o < 0 := by omega
          have c2 := Int.mul_neg_of_neg_of_pos fn lp
          have ln : L.o < 0 := neg_of_mul fp (by omega)
          exact Int.mul_pos_of_neg_of_neg fn ln
        · have lpo : 0 < L.o := by omega
          have c2 := Int.mul_pos lpo fp
          have fpo : 0 < F.o := pos_of_mul lp (by omega)
          exact Int.mul_pos fpo lpo
    · intro h
      refine Or.inr ⟨by omega, ?_⟩
      rcases mul_pos_cases h with ⟨a, b⟩ | ⟨a, b⟩
      · exact Or.inl ⟨k1, Or.inr (by omega)⟩
      · exact Or.inr ⟨by decide, Or.inr b⟩
/-- the way over the contrary direction -/
theorem within_behind {F L : Pl} (hF : F.Ok) (hL : L.Ok) (hn : sd F L ≠ 0) : withinI F L behind = true ↔ F.u * L.u * sd F L < 0 := by
  rw [within_iff, before_iff hF hL, before_iff hF behind_ok, before_iff behind_ok hL]
  have ea : behind.u = 0 := rfl
  rw [ea]
  have f0 := hF.u0
  have l0 := hL.u0
  by_cases k1 : F.u = 0
  · rw [k1]; simp
  by_cases k2 : L.u = 0
  · rw [k2]; simp
  have fp : 0 < F.u := by omega
  have lp : 0 < L.u := by omega
  have q : F.u * L.u * sd F L < 0 ↔ sd F L < 0 := lt_zero_iff (k := F.u * L.u) (Int.mul_pos fp lp) (by grind)
  rw [q]
  omega
theorem has_ahead {F L : Pl} : hasI F L ahead = true ↔ F.o = 0 ∨ L.o = 0 ∨ withinI F L ahead = true := by
  rw [has_iff, sd_ahead_r, sd_ahead_r]
theorem has_behind {F L : Pl} : hasI F L behind = true ↔ F.u = 0 ∨ L.u = 0 ∨ withinI F L behind = true := by
  rw [has_iff]
  have e : ∀ P : Pl, sd behind P = -P.u := fun P => by unfold sd behind; dsimp only; omega
  rw [e, e, Int.neg_eq_zero, Int.neg_eq_zero]
end FB
/-! Four bars: plain law, part 8: circuit and drive. -/
namespace FB
open LkFour LkDSpec
/-- the circles -/
structure Ci where
  g : Int
  a : Int
  near : Int
  far : Int
def ciOf (g a c r : Int) : Ci := ⟨g, a, ab (c - r), c + r⟩
def Ci.sq (k : Ci) (P : Pl) : Int := sqI k.g k.a P
def Ci.isLet (k : Ci) (P : Pl) : Bool := if k.near * k.near * P.wt ≤ k.sq P then decide (k.sq P ≤ k.far * k.far * P.wt) else false
def Ci.closes (k : Ci) (P : Pl) : Bool := if k.sq P > 0 then k.isLet P else false
def Ci.touch (k : Ci) (P : Pl) : Bool := if k.sq P = k.near * k.near * P.wt then true else decide (k.sq P = k.far * k.far * P.wt)
def Ci.openAhead (k : Ci) : Bool := decide (ab (k.g - k.a) < k.near)
def Ci.openBehind (k : Ci) : Bool := decide (k.g + k.a > k.far)
def drivenI (k : Ci) (F : Pl) (s left : Int) (L : Pl) : Int :=
  if k.closes F = false then -3
  else if sameI F L = true then (if k.touch L = true then 0 else s)
  else
    let A := if left = 1 then F else L
    let B := if left = 1 then L else F
    if k.isLet L = false then -4
    else if (if hasI A B ahead = true then k.openAhead else false) = true then -4
    else if (if hasI A B behind = true then k.openBehind else false) = true then -4
    else if withinI A B ahead = true ∧ ab (k.g - k.a) = k.near then -5
    else if withinI A B behind = true ∧ k.g + k.a = k.far then -5
    else if ¬ k.sq L > 0 then -5
    else if k.touch L = true then 0 else s
def ansCircuit (g a c r p q s : Int) : List Int :=
  if lensOk g a c r = false then [-1] else if isPl p q = false then [-1] else if ¬ s ≤ 1 then [-1]
  else if (ciOf g a c r).closes (mkPl p q) = false then [-3]
  else if kindI g a c r = 2 ∨ kindI g a c r = 3 then [s]
  else if kindI g a c r = 4 ∨ kindI g a c r = 5 then [1 - (if 0 < (mkPl p q).o * (mkPl p q).u then 1 else 0)]
  else [0]
def ansDrive (g a c r p q s left p2 q2 : Int) : List Int :=
  if lensOk g a c r = false then [-1] else if isPl p q = false then [-1] else if isPl p2 q2 = false then [-1] else if ¬ (s ≤ 1 ∧ left ≤ 1) then [-1]
  else [drivenI (ciOf g a c r) (mkPl p q) s left (mkPl p2 q2)]

/-! ### the square of the distance -/
theorem sq_ahead (g a : Int) (P : Pl) : sqI g a P = (g - a) * (g - a) * P.wt + 4 * (g * a) * (P.o * P.o) := by
  unfold sqI Pl.wt; grind
theorem sq_behind (g a : Int) (P : Pl) : sqI g a P = (g + a) * (g + a) * P.wt - 4 * (g * a) * (P.u * P.u) := by
  unfold sqI Pl.wt; grind
theorem same_sq {g a : Int} {P Q : Pl} (h : sd P Q = 0) : sqI g a P * Q.wt = sqI g a Q * P.wt := by
  have e : Q.o * P.u = P.o * Q.u := by unfold sd at h; omega
  have e2 : (Q.o * P.u) * (Q.o * P.u) = (P.o * Q.u) * (P.o * Q.u) := by rw [e]
  unfold sqI Pl.wt
  grind

/-! ### comparisons of fractions -/
theorem rpos {B : Int} (h : 0 < B) : (0 : Rat) < (B : Rat) := by rw [← Rat.intCast_zero]; exact Rat.intCast_lt_intCast.2 h
theorem qlt {A B C D : Int} (hB : 0 < B) (hD : 0 < D) : ((A : Rat) / (B : Rat) < (C : Rat) / (D : Rat)) ↔ A * D < C * B := by
  rw [Rat.div_lt_iff (rpos hB)]
  have e : (C : Rat) / (D : Rat) * (B : Rat) = ((C * B : Int) : Rat) / (D : Rat) := by
    rw [Rat.intCast_mul, Rat.div_def, Rat.div_def, Rat.mul_assoc, Rat.mul_assoc, Rat.mul_comm _ (B : Rat)]
  rw [e, Rat.lt_div_iff (rpos hD), ← Rat.intCast_mul, Rat.intCast_lt_intCast]
theorem qle {A B C D : Int} (hB : 0 < B) (hD : 0 < D) : ((A : Rat) / (B : Rat) ≤ (C : Rat) / (D : Rat)) ↔ A * D ≤ C * B := by
  rw [← Rat.not_lt, qlt hD hB]; omega
theorem qeq {A B C D : Int} (hB : 0 < B) (hD : 0 < D) : ((A : Rat) / (B : Rat) = (C : Rat) / (D : Rat)) ↔ A * D = C * B := by
  rw [Rat.le_antisymm_iff, qle hB hD, qle hD hB]; omega

/-- the lengths as natural numbers -/
structure Nt (g a c r : Int) (f : Four) : Prop where
  eg : (f.g : Int) = g
  ea : (f.a : Int) = a
  ec : (f.c : Int) = c
  er : (f.r : Int) = r
  hg : 1 ≤ g
  ha : 1 ≤ a
  hc : 1 ≤ c
  hr : 1 ≤ r
theorem nt_of {g a c r : Int} (h : lensOk g a c r = true) : Nt g a c r (Neutral.four g a c r) := by
  have q := lensOk_iff.1 h
  exact ⟨Int.toNat_of_nonneg (by omega), Int.toNat_of_nonneg (by omega), Int.toNat_of_nonneg (by omega), Int.toNat_of_nonneg (by omega), q.1.1, q.2.1.1, q.2.2.1.1, q.2.2.2.1⟩
theorem cosine_div {u v : Nat} {s : Int} : cosine u v s = (((u : Int) * u + (v : Int) * v - s : Int) : Rat) / ((2 * (u : Int) * v : Int) : Rat) := by
  unfold cosine
  congr 1
  rw [Rat.intCast_sub]; rfl
section
variable {g a c r : Int} {f : Four}
theorem lim1 (N : Nt g a c r f) : f.limits.1 = ((g * g + a * a - (c + r) * (c + r) : Int) : Rat) / ((2 * g * a : Int) : Rat) := by
  show cosine f.g f.a _ = _
  rw [cosine_div, N.eg, N.ea, Int.natCast_mul, Int.natCast_add, N.ec, N.er]
theorem lim2 (N : Nt g a c r f) : f.limits.2 = ((g * g + a * a - ab (c - r) * ab (c - r) : Int) : Rat) / ((2 * g * a : Int) : Rat) := by
  show cosine f.g f.a _ = _
  rw [cosine_div, N.eg, N.ea, Int.natCast_mul, gap_cast, N.ec, N.er]
theorem ga_pos (N : Nt g a c r f) : 0 < 2 * g * a := Int.mul_pos (by have := N.hg; omega) (by have := N.ha; omega)
/-- x of a place -/
def xi (P : Pl) : Rat := ((P.u * P.u - P.o * P.o : Int) : Rat) / ((P.u * P.u + P.o * P.o : Int) : Rat)
theorem place_1 (P : Pl) : (place P.o P.u).1 = xi P := rfl
theorem wt_comm (P : Pl) : P.u * P.u + P.o * P.o = P.wt := by unfold Pl.wt; omega
theorem lo_iff (N : Nt g a c r f) {P : Pl} (hP : P.o ≠ 0 ∨ P.u ≠ 0) : f.limits.2 < xi P ↔ (ciOf g a c r).sq P < (ciOf g a c r).near * (ciOf g a c r).near * P.wt := by
  have w := Pl.wt_pos hP
  unfold xi
  rw [lim2 N, wt_comm, qlt (ga_pos N) w]
  show _ ↔ sqI g a P < ab (c - r) * ab (c - r) * P.wt
  have e : sqI g a P - ab (c - r) * ab (c - r) * P.wt = (g * g + a * a - ab (c - r) * ab (c - r)) * P.wt - (P.u * P.u - P.o * P.o) * (2 * g * a) := by unfold sqI; grind
  omega
theorem hi_iff (N : Nt g a c r f) {P : Pl} (hP : P.o ≠ 0 ∨ P.u ≠ 0) : xi P < f.limits.1 ↔ (ciOf g a c r).far * (ciOf g a c r).far * P.wt < (ciOf g a c r).sq P := by
  have w := Pl.wt_pos hP
  unfold xi
  rw [lim1 N, wt_comm, qlt w (ga_pos N)]
  show _ ↔ (c + r) * (c + r) * P.wt < sqI g a P
  have e : sqI g a P - (c + r) * (c + r) * P.wt = (g * g + a * a - (c + r) * (c + r)) * P.wt - (P.u * P.u - P.o * P.o) * (2 * g * a) := by unfold sqI; grind
  omega
theorem eq2_iff (N : Nt g a c r f) {P : Pl} (hP : P.o ≠ 0 ∨ P.u ≠ 0) : xi P = f.limits.2 ↔ (ciOf g a c r).sq P = (ciOf g a c r).near * (ciOf g a c r).near * P.wt := by
  have w := Pl.wt_pos hP
  unfold xi
  rw [lim2 N, wt_comm, qeq w (ga_pos N)]
  show _ ↔ sqI g a P = ab (c - r) * ab (c - r) * P.wt
  have e : sqI g a P - ab (c - r) * ab (c - r) * P.wt = (g * g + a * a - ab (c - r) * ab (c - r)) * P.wt - (P.u * P.u - P.o * P.o) * (2 * g * a) := by unfold sqI; grind
  omega
theorem eq1_iff (N : Nt g a c r f) {P : Pl} (hP : P.o ≠ 0 ∨ P.u ≠ 0) : xi P = f.limits.1 ↔ (ciOf g a c r).sq P = (ciOf g a c r).far * (ciOf g a c r).far * P.wt := by
  have w := Pl.wt_pos hP
  unfold xi
  rw [lim1 N, wt_comm, qeq w (ga_pos N)]
  show _ ↔ sqI g a P = (c + r) * (c + r) * P.wt
  have e : sqI g a P - (c + r) * (c + r) * P.wt = (g * g + a * a - (c + r) * (c + r)) * P.wt - (P.u * P.u - P.o * P.o) * (2 * g * a) := by unfold sqI; grind
  omega
theorem xi_one {P : Pl} (hP : P.o ≠ 0 ∨ P.u ≠ 0) : xi P = 1 ↔ P.o = 0 := by
  have w := Pl.wt_pos hP
  have e1 : (1 : Rat) = ((1 : Int) : Rat) / ((1 : Int) : Rat) := by decide +kernel
  unfold xi
  rw [wt_comm, e1, qeq w (by decide)]
  unfold Pl.wt
  constructor
  · intro h
    by_cases z : P.o = 0
    · exact z
    · have := mul_self_pos z; omega
  · intro h; rw [h]; omega
theorem atB_iff (N : Nt g a c r f) {P : Pl} (hP : P.o ≠ 0 ∨ P.u ≠ 0) : f.atB (xi P) = true ↔ ¬ (ciOf g a c r).sq P > 0 := by
  have w := Pl.wt_pos hP
  unfold Four.atB
  rw [Bool.and_eq_true, beq_iff_eq, beq_iff_eq, xi_one hP]
  show _ ↔ ¬ sqI g a P > 0
  rw [sq_ahead]
  have e : f.a = f.g ↔ a = g := by have := N.eg; have := N.ea; omega
  rw [e]
  have p := Int.mul_pos (show 0 < g by have := N.hg; omega) (show 0 < a by have := N.ha; omega)
  constructor
  · rintro ⟨h1, h2⟩
    rw [h1, h2]; simp
  · intro h
    by_cases k1 : P.o = 0
    · refine ⟨?_, k1⟩
      by_cases k2 : a = g
      · exact k2
      · exfalso; apply h
        have z := Int.mul_pos (mul_self_pos (show g - a ≠ 0 by omega)) w
        rw [k1]; omega
    · exfalso; apply h
      have z1 := Int.mul_nonneg (mul_self_nn (g - a)) (Int.le_of_lt w)
      have z2 := Int.mul_pos (show 0 < 4 * (g * a) by omega) (mul_self_pos k1)
      omega
theorem closes_iff {k : Ci} {P : Pl} : k.closes P = true ↔ k.sq P > 0 ∧ k.near * k.near * P.wt ≤ k.sq P ∧ k.sq P ≤ k.far * k.far * P.wt := by
  unfold Ci.closes Ci.isLet
  by_cases h1 : k.sq P > 0
  · rw [if_pos h1]
    by_cases h2 : k.near * k.near * P.wt ≤ k.sq P
    · rw [if_pos h2, decide_eq_true_iff]; exact ⟨fun h => ⟨h1, h2, h⟩, fun h => h.2.2⟩
    · rw [if_neg h2]; exact ⟨fun h => Bool.noConfusion h, fun h => absurd h.2.1 h2⟩
  · rw [if_neg h1]; exact ⟨fun h => Bool.noConfusion h, fun h => absurd h.1 h1⟩
theorem isLet_iff {k : Ci} {P : Pl} : k.isLet P = true ↔ k.near * k.near * P.wt ≤ k.sq P ∧ k.sq P ≤ k.far * k.far * P.wt := by
  unfold Ci.isLet
  by_cases h2 : k.near * k.near * P.wt ≤ k.sq P
  · rw [if_pos h2, decide_eq_true_iff]; exact ⟨fun h => ⟨h2, h⟩, fun h => h.2⟩
  · rw [if_neg h2]; exact ⟨fun h => Bool.noConfusion h, fun h => absurd h.1 h2⟩
theorem touch_iff {k : Ci} {P : Pl} : k.touch P = true ↔ k.sq P = k.near * k.near * P.wt ∨ k.sq P = k.far * k.far * P.wt := by
  unfold Ci.touch
  by_cases h : k.sq P = k.near * k.near * P.wt
  · rw [if_pos h]; exact ⟨fun _ => Or.inl h, fun _ => rfl⟩
  · rw [if_neg h, decide_eq_true_iff]; exact ⟨Or.inr, fun q => q.resolve_left h⟩
theorem closes_eq (N : Nt g a c r f) {P : Pl} (hP : P.o ≠ 0 ∨ P.u ≠ 0) : f.closes (xi P) = (ciOf g a c r).closes P := by
  rw [Bool.eq_iff_iff, closes_iff]
  unfold Four.closes
  rw [Bool.and_eq_true, Bool.and_eq_true, decide_eq_true_iff, decide_eq_true_iff, ← Rat.not_lt, ← Rat.not_lt, hi_iff N hP, lo_iff N hP, Bool.not_eq_true', ← Bool.not_eq_true, atB_iff N hP]
  omega
theorem touches_eq (N : Nt g a c r f) {P : Pl} (hP : P.o ≠ 0 ∨ P.u ≠ 0) : f.touches (xi P) = (ciOf g a c r).touch P := by
  rw [Bool.eq_iff_iff, touch_iff]
  unfold Four.touches
  rw [Bool.or_eq_true, beq_iff_eq, beq_iff_eq, eq1_iff N hP, eq2_iff N hP]
  omega
end
end FB
/-! Four bars: plain law, part 9: circuit and drive against the specification. -/
namespace FB
open LkFour LkDSpec
theorem sq_lt {x y : Int} (hx : 0 ≤ x) (hy : 0 ≤ y) : x * x < y * y ↔ x < y := by
  constructor
  · intro h
    by_cases k : x < y
    · exact k
    · have := Int.mul_le_mul (show y ≤ x by omega) (show y ≤ x by omega) hy hx; omega
  · intro h
    have a := Int.mul_le_mul (Int.le_of_lt h) (Int.le_refl x) hx hy
    have b := Int.mul_lt_mul_of_pos_left h (show 0 < y by omega)
    omega
theorem sq_eq {x y : Int} (hx : 0 ≤ x) (hy : 0 ≤ y) : x * x = y * y ↔ x = y := by
  have a := sq_lt hx hy
  have b := sq_lt hy hx
  omega
section
variable {g a c r : Int} {f : Four}
/-- what's known of the circles -/
structure Kn (k : Ci) : Prop where
  p : 0 < k.g * k.a
  gp : 0 < k.g
  ap : 0 < k.a
  n0 : 0 ≤ k.near
  f0 : 0 ≤ k.far
theorem kn_of (N : Nt g a c r f) : Kn (ciOf g a c r) :=
  ⟨Int.mul_pos (show 0 < g by have := N.hg; omega) (show 0 < a by have := N.ha; omega), show 0 < g by have := N.hg; omega, show 0 < a by have := N.ha; omega, ab_nonneg _, show 0 ≤ c + r by have := N.hc; have := N.hr; omega⟩
def Ci.lo (k : Ci) (P : Pl) : Prop := k.sq P < k.near * k.near * P.wt
def Ci.hi (k : Ci) (P : Pl) : Prop := k.far * k.far * P.wt < k.sq P
theorem wt_ahead : ahead.wt = 1 := rfl
theorem wt_behind : behind.wt = 1 := rfl
section
variable {k : Ci}
theorem sqA (k : Ci) : k.sq ahead = (k.g - k.a) * (k.g - k.a) := by
  show sqI k.g k.a ahead = _
  rw [sq_ahead, wt_ahead]
  show _ + 4 * (k.g * k.a) * (0 * 0) = _
  simp
theorem sqB (k : Ci) : k.sq behind = (k.g + k.a) * (k.g + k.a) := by
  show sqI k.g k.a behind = _
  rw [sq_behind, wt_behind]
  show _ - 4 * (k.g * k.a) * (0 * 0) = _
  simp
theorem lo_ahead : k.lo ahead ↔ (k.g - k.a) * (k.g - k.a) < k.near * k.near := by
  unfold Ci.lo; rw [sqA, wt_ahead, Int.mul_one]
theorem hi_behind : k.hi behind ↔ k.far * k.far < (k.g + k.a) * (k.g + k.a) := by
  unfold Ci.hi; rw [sqB, wt_behind, Int.mul_one]
theorem lt_of_mul {x y w : Int} (hw : 0 < w) : x * w < y * w ↔ x < y := by
  constructor
  · intro h
    by_cases q : x < y
    · exact q
    · have := Int.mul_le_mul_of_nonneg_right (show y ≤ x by omega) (Int.le_of_lt hw); omega
  · intro h; exact Int.mul_lt_mul_of_pos_right h hw
theorem f1 (K : Kn k) {P : Pl} (w : 0 < P.wt) (h : k.lo P) : k.lo ahead := by
  rw [lo_ahead, ← lt_of_mul w]
  have z := Int.mul_nonneg (show 0 ≤ 4 * (k.g * k.a) by have := K.p; omega) (mul_self_nn P.o)
  have e : k.sq P = _ := sq_ahead k.g k.a P
  unfold Ci.lo at h
  omega
theorem f3 {P : Pl} (w : 0 < P.wt) (ho : P.o = 0) (h : k.lo ahead) : k.lo P := by
  rw [lo_ahead, ← lt_of_mul w] at h
  have e : k.sq P = _ := sq_ahead k.g k.a P
  rw [ho] at e
  unfold Ci.lo
  omega
theorem h1 (K : Kn k) {P : Pl} (w : 0 < P.wt) (h : k.hi P) : k.hi behind := by
  rw [hi_behind, ← lt_of_mul w]
  have z := Int.mul_nonneg (show 0 ≤ 4 * (k.g * k.a) by have := K.p; omega) (mul_self_nn P.u)
  have e : k.sq P = _ := sq_behind k.g k.a P
  unfold Ci.hi at h
  omega
theorem h3 {P : Pl} (w : 0 < P.wt) (hu : P.u = 0) (h : k.hi behind) : k.hi P := by
  rw [hi_behind, ← lt_of_mul w] at h
  have e : k.sq P = _ := sq_behind k.g k.a P
  rw [hu] at e
  unfold Ci.hi
  omega
theorem openAhead_iff (K : Kn k) : k.openAhead = true ↔ k.lo ahead := by
  unfold Ci.openAhead
  rw [decide_eq_true_iff, lo_ahead, ← ab_sq, sq_lt (ab_nonneg _) K.n0]
theorem openBehind_iff (K : Kn k) : k.openBehind = true ↔ k.hi behind := by
  unfold Ci.openBehind
  rw [decide_eq_true_iff, hi_behind, sq_lt K.f0 (by have := K.gp; have := K.ap; omega)]
theorem at_ahead (K : Kn k) {F : Pl} (w : 0 < F.wt) (ho : F.o ≠ 0) (hF : ¬ k.hi F) (hA : ¬ k.lo ahead) : (¬ k.sq ahead > 0 ∨ k.touch ahead = true) ↔ ab (k.g - k.a) = k.near := by
  rw [touch_iff, sqA, wt_ahead, Int.mul_one, Int.mul_one]
  rw [lo_ahead] at hA
  have e1 := ab_sq (k.g - k.a)
  have e2 := sq_eq (ab_nonneg (k.g - k.a)) K.n0
  have e3 := mul_self_nn k.near
  have e4 : ¬ (k.g - k.a) * (k.g - k.a) = k.far * k.far := by
    intro q
    apply hF
    unfold Ci.hi
    have e : k.sq F = _ := sq_ahead k.g k.a F
    rw [e, q]
    have := Int.mul_pos (show 0 < 4 * (k.g * k.a) by have := K.p; omega) (mul_self_pos ho)
    omega
  omega
theorem at_behind (K : Kn k) {F : Pl} (w : 0 < F.wt) (hu : F.u ≠ 0) (hF : ¬ k.lo F) : k.touch behind = true ↔ k.g + k.a = k.far := by
  rw [touch_iff, sqB, wt_behind, Int.mul_one, Int.mul_one]
  have e2 := sq_eq (show 0 ≤ k.g + k.a by have := K.gp; have := K.ap; omega) K.f0
  have e4 : ¬ (k.g + k.a) * (k.g + k.a) = k.near * k.near := by
    intro q
    apply hF
    unfold Ci.lo
    have e : k.sq F = _ := sq_behind k.g k.a F
    rw [e, q]
    have := Int.mul_pos (show 0 < 4 * (k.g * k.a) by have := K.p; omega) (mul_self_pos hu)
    omega
  rw [← e2]
  exact ⟨fun q => q.resolve_left e4, Or.inr⟩
theorem notLet {P : Pl} : k.isLet P = false ↔ k.lo P ∨ k.hi P := by
  rw [← Bool.not_eq_true, isLet_iff]
  unfold Ci.lo Ci.hi
  omega
theorem closes_lo {P : Pl} (h : k.closes P = true) : ¬ k.lo P ∧ ¬ k.hi P ∧ k.sq P > 0 := by
  have q := closes_iff.1 h
  unfold Ci.lo Ci.hi
  omega
/-- **the way driven**: the specification's questions and the program's -/
theorem drive_logic (K : Kn k) {F L : Pl} (wF : 0 < F.wt) (wL : 0 < L.wt) (s : Int) {wA wB hA hB : Bool}
    (eA : hA = true ↔ F.o = 0 ∨ L.o = 0 ∨ wA = true) (eB : hB = true ↔ F.u = 0 ∨ L.u = 0 ∨ wB = true) (nA : wA = true → F.o ≠ 0) (nB : wB = true → F.u ≠ 0)
    {C4 C5 : Prop} [Decidable C4] [Decidable C5] (q4 : C4 ↔ ((wA = true ∧ k.lo ahead) ∨ (wA = false ∧ (k.lo F ∨ k.lo L))) ∨ ((wB = true ∧ k.hi behind) ∨ (wB = false ∧ (k.hi F ∨ k.hi L))))
    (q5 : C5 ↔ (wA = true ∧ (¬ k.sq ahead > 0 ∨ k.touch ahead = true)) ∨ ((wB = true ∧ k.touch behind = true) ∨ ¬ k.sq L > 0)) (hc : k.closes F = true) :
    (if C4 then -4 else if C5 then -5 else if k.touch L = true then 0 else s) =
    (if k.isLet L = false then -4
    else if (if hA = true then k.openAhead else false) = true then -4
    else if (if hB = true then k.openBehind else false) = true then -4
    else if wA = true ∧ ab (k.g - k.a) = k.near then -5
    else if wB = true ∧ k.g + k.a = k.far then -5
    else if ¬ k.sq L > 0 then -5
    else if k.touch L = true then 0 else s) := by
  obtain ⟨nl, nh, sp⟩ := closes_lo hc
  have o1 := openAhead_iff K
  have o2 := openBehind_iff K
  by_cases c1 : k.isLet L = false
  · rw [if_pos c1]
    have z : C4 := by
      rw [q4]
      rcases notLet.1 c1 with h | h
      · left
        cases hw : wA
        · exact Or.inr ⟨rfl, Or.inr h⟩
        · exact Or.inl ⟨rfl, f1 K wL h⟩
      · right
        cases hw : wB
        · exact Or.inr ⟨rfl, Or.inr h⟩
        · exact Or.inl ⟨rfl, h1 K wL h⟩
    rw [if_pos z]
  rw [if_neg c1]
  have nL : ¬ k.lo L ∧ ¬ k.hi L := by
    have := mt notLet.2 c1
    exact ⟨fun q => this (Or.inl q), fun q => this (Or.inr q)⟩
  have z4 : C4 ↔ (wA = true ∧ k.lo ahead) ∨ (wB = true ∧ k.hi behind) := by
    rw [q4]
    constructor
    · rintro ((h | h) | (h | h))
      · exact Or.inl h
      · rcases h.2 with q | q
        · exact absurd q nl
        · exact absurd q nL.1
      · exact Or.inr h
      · rcases h.2 with q | q
        · exact absurd q nh
        · exact absurd q nL.2
    · rintro (h | h)
      · exact Or.inl (Or.inl h)
      · exact Or.inr (Or.inl h)
  have pA : (if hA = true then k.openAhead else false) = true ↔ wA = true ∧ k.lo ahead := by
    rw [bcond, eA, o1]
    constructor
    · rintro ⟨h | h | h, q⟩
      · exact absurd (f3 wF h q) nl
      · exact absurd (f3 wL h q) nL.1
      · exact ⟨h, q⟩
    · rintro ⟨h, q⟩; exact ⟨Or.inr (Or.inr h), q⟩
  have pB : (if hB = true then k.openBehind else false) = true ↔ wB = true ∧ k.hi behind := by
    rw [bcond, eB, o2]
    constructor
    · rintro ⟨h | h | h, q⟩
      · exact absurd (h3 wF h q) nh
      · exact absurd (h3 wL h q) nL.2
      · exact ⟨h, q⟩
    · rintro ⟨h, q⟩; exact ⟨Or.inr (Or.inr h), q⟩
  by_cases c2 : wA = true ∧ k.lo ahead
  · rw [if_pos (z4.2 (Or.inl c2)), if_pos (pA.2 c2)]
  rw [if_neg (mt pA.1 c2)]
  by_cases c3 : wB = true ∧ k.hi behind
  · rw [if_pos (z4.2 (Or.inr c3)), if_pos (pB.2 c3)]
  rw [if_neg (mt pB.1 c3), if_neg (fun q => (z4.1 q).elim c2 c3)]
  have tA : (wA = true ∧ (¬ k.sq ahead > 0 ∨ k.touch ahead = true)) ↔ (wA = true ∧ ab (k.g - k.a) = k.near) := by
    constructor
    · rintro ⟨h, q⟩; exact ⟨h, (at_ahead K wF (nA h) nh (fun z => c2 ⟨h, z⟩)).1 q⟩
    · rintro ⟨h, q⟩; exact ⟨h, (at_ahead K wF (nA h) nh (fun z => c2 ⟨h, z⟩)).2 q⟩
  have tB : (wB = true ∧ k.touch behind = true) ↔ (wB = true ∧ k.g + k.a = k.far) := by
    constructor
    · rintro ⟨h, q⟩; exact ⟨h, (at_behind K wF (nB h) nl).1 q⟩
    · rintro ⟨h, q⟩; exact ⟨h, (at_behind K wF (nB h) nl).2 q⟩
  rw [tA, tB] at q5
  by_cases c5 : wA = true ∧ ab (k.g - k.a) = k.near
  · rw [if_pos (q5.2 (Or.inl c5)), if_pos c5]
  rw [if_neg c5]
  by_cases c6 : wB = true ∧ k.g + k.a = k.far
  · rw [if_pos (q5.2 (Or.inr (Or.inl c6))), if_pos c6]
  rw [if_neg c6]
  by_cases c7 : ¬ k.sq L > 0
  · rw [if_pos (q5.2 (Or.inr (Or.inr c7))), if_pos c7]
  rw [if_neg c7, if_neg (fun q => (q5.1 q).elim c5 (fun q => q.elim c6 c7))]
end

/-! ### the specification's most and fewest -/
theorem lt_max {x y z : Rat} : x < max y z ↔ x < y ∨ x < z := by
  rw [Rat.max_def]
  split
  · rename_i h
    exact ⟨Or.inr, fun q => q.elim (fun q => Std.lt_of_lt_of_le q h) id⟩
  · rename_i h
    have h' : z < y := Rat.not_le.1 h
    exact ⟨Or.inl, fun q => q.elim id (fun q => Std.lt_trans q h')⟩
theorem min_lt {x y z : Rat} : min y z < x ↔ y < x ∨ z < x := by
  rw [Rat.min_def]
  split
  · rename_i h
    exact ⟨Or.inl, fun q => q.elim id (fun q => Std.lt_of_le_of_lt h q)⟩
  · rename_i h
    have h' : z < y := Rat.not_le.1 h
    exact ⟨Or.inr, fun q => q.elim (fun q => Std.lt_trans h' q) id⟩
end
end FB
/-! Four bars: plain law, part 10: circuit and drive, the specification's words. -/
namespace FB
open LkFour LkDSpec
theorem whole_c {g a c r z : Int} (hg : 0 ≤ g) (ha : 0 ≤ a) (hc : 0 ≤ c) (hr : 0 ≤ r) (hz : 0 ≤ z) : Neutral.whole [g, a, c, r, z] = true := by
  simp [Neutral.whole, *]
theorem pos_y (P : Pl) (h : P.o ≠ 0 ∨ P.u ≠ 0) : 0 < (place P.o P.u).2 ↔ 0 < P.o * P.u := by
  rw [place_eq]
  dsimp only
  rw [wt_comm, pos_div (Pl.wt_pos h)]
  have e : 2 * P.o * P.u = 2 * (P.o * P.u) := by grind
  omega
theorem spec_circuit {g a c r p q s : Int} (hg : 0 ≤ g) (ha : 0 ≤ a) (hc : 0 ≤ c) (hr : 0 ≤ r) (hs : 0 ≤ s) : PyWqapbt.circuit g a c r p q s = ansCircuit g a c r p q s := by
  have e : PyWqapbt.circuit g a c r p q s = Neutral.shown (answer ⟨Neutral.four g a c r, .circuit p q s.toNat⟩) := by
    simp only [PyWqapbt.circuit, Neutral.step, Neutral.callOf, if_pos (whole_c hg ha hc hr hs), LkDSpec.step]
  rw [e]
  unfold answer ansCircuit
  dsimp only
  rw [four_lens g a c r hg ha hc hr]
  by_cases k : lensOk g a c r = false
  · rw [if_pos k, if_pos (Or.inl k)]; rfl
  rw [if_neg k]
  have qi : fine (.circuit p q s.toNat) = true ↔ isPl p q = true ∧ s ≤ 1 := by
    unfold fine
    dsimp only
    have e : s.toNat ≤ 1 ↔ s ≤ 1 := by omega
    rw [Bool.and_eq_true, isPlace_eq, decide_eq_true_iff, e]
  by_cases kp : isPl p q = false
  · have z : fine (.circuit p q s.toNat) = false := by
      rw [← Bool.not_eq_true]; intro h; rw [kp] at qi; exact absurd (qi.1 h).1 (by decide)
    rw [if_pos (Or.inr z), if_pos kp]; rfl
  rw [if_neg kp]
  have kp' : isPl p q = true := by simpa using kp
  by_cases ks : s ≤ 1
  · have z := qi.2 ⟨kp', ks⟩
    rw [if_neg (by intro w; rcases w with w | w; exact k w; rw [z] at w; cases w), if_neg (not_not_intro ks)]
    have ok := mkPl_ok kp'
    have N := nt_of (Bool.not_eq_false _ ▸ k : lensOk g a c r = true)
    rw [place_mk]
    generalize mkPl p q = P at *
    rw [place_1, closes_eq N ok.ne]
    by_cases kc : (ciOf g a c r).closes P = false
    · rw [if_pos kc, if_pos kc]; rfl
    rw [if_neg kc, if_neg kc]
    show [(((Neutral.four g a c r).circuit (place P.o P.u).2 s.toNat : Nat) : Int)] = _
    unfold Four.circuit kindI
    generalize (Neutral.four g a c r).kind = K
    by_cases j1 : K = 2 ∨ K = 3
    · rw [if_pos j1, if_pos (show (K : Int) = 2 ∨ (K : Int) = 3 by omega)]
      rw [Int.toNat_of_nonneg hs]
    rw [if_neg j1, if_neg (show ¬ ((K : Int) = 2 ∨ (K : Int) = 3) by omega)]
    by_cases j2 : K = 4 ∨ K = 5
    · rw [if_pos j2, if_pos (show (K : Int) = 4 ∨ (K : Int) = 5 by omega)]
      by_cases j3 : 0 < P.o * P.u
      · rw [if_pos ((pos_y P ok.ne).2 j3), if_pos j3]; rfl
      · rw [if_neg (mt (pos_y P ok.ne).1 j3), if_neg j3]; rfl
    · rw [if_neg j2, if_neg (show ¬ ((K : Int) = 4 ∨ (K : Int) = 5) by omega)]; rfl
  · have z : fine (.circuit p q s.toNat) = false := by
      rw [← Bool.not_eq_true]; intro h; exact ks (qi.1 h).2
    rw [if_pos (Or.inr z), if_pos ks]; rfl
theorem one_xi : (1 : Rat) = xi ahead := by decide +kernel
theorem minus_xi : (-1 : Rat) = xi behind := by decide +kernel
/-- the ways, told once: the specification's question over (1, 0), over (-1, 0) -/
theorem on_ahead {P Q : Pl} (hP : P.Ok) (hQ : Q.Ok) (hn : sd P Q ≠ 0) (left : Int) :
    (if (left = 1) then between (place P.o P.u) (place Q.o Q.u) (1, 0) else between (place Q.o Q.u) (place P.o P.u) (1, 0)) = withinI (if left = 1 then P else Q) (if left = 1 then Q else P) ahead := by
  have hn' : sd Q P ≠ 0 := by unfold sd at hn ⊢; omega
  by_cases h : left = 1
  · rw [if_pos h, if_pos h, if_pos h, Bool.eq_iff_iff, between_ahead hP.ne hQ.ne, within_ahead hP hQ hn]
  · rw [if_neg h, if_neg h, if_neg h, Bool.eq_iff_iff, between_ahead hQ.ne hP.ne, within_ahead hQ hP hn']
theorem on_behind {P Q : Pl} (hP : P.Ok) (hQ : Q.Ok) (hn : sd P Q ≠ 0) (left : Int) :
    (if (left = 1) then between (place P.o P.u) (place Q.o Q.u) (-1, 0) else between (place Q.o Q.u) (place P.o P.u) (-1, 0)) = withinI (if left = 1 then P else Q) (if left = 1 then Q else P) behind := by
  have hn' : sd Q P ≠ 0 := by unfold sd at hn ⊢; omega
  by_cases h : left = 1
  · rw [if_pos h, if_pos h, if_pos h, Bool.eq_iff_iff, between_behind hP.ne hQ.ne, within_behind hP hQ hn]
  · rw [if_neg h, if_neg h, if_neg h, Bool.eq_iff_iff, between_behind hQ.ne hP.ne, within_behind hQ hP hn']
/-- of one direction there's no way -/
theorem on_same {P Q : Pl} (hP : P.Ok) (hQ : Q.Ok) (hn : sd P Q = 0) : between (place P.o P.u) (place Q.o Q.u) (1, 0) = false ∧ between (place P.o P.u) (place Q.o Q.u) (-1, 0) = false := by
  constructor
  · rw [← Bool.not_eq_true, between_ahead hP.ne hQ.ne, hn]; simp
  · rw [← Bool.not_eq_true, between_behind hP.ne hQ.ne, hn]; simp
theorem ne_of_mul3 {x y z : Int} (h : x * y * z < 0) : x ≠ 0 ∧ y ≠ 0 := by
  constructor
  · intro e; subst e; simp at h
  · intro e; subst e; simp at h
theorem way_cases {P Q : Pl} (left : Int) : ((if left = 1 then P else Q) = P ∧ (if left = 1 then Q else P) = Q ∧ left = 1) ∨ ((if left = 1 then P else Q) = Q ∧ (if left = 1 then Q else P) = P ∧ left ≠ 1) := by
  by_cases h : left = 1
  · left; rw [if_pos h, if_pos h]; exact ⟨rfl, rfl, h⟩
  · right; rw [if_neg h, if_neg h]; exact ⟨rfl, rfl, h⟩
/-- the specification's drive, its two questions told ahead -/
def driveS (f : Four) (x y : Rat) (s : Nat) (oA oB : Bool) : Int :=
  if f.closes x = false then -3
  else if f.limits.2 < (if oA = true then 1 else max x y) ∨ (if oB = true then -1 else min x y) < f.limits.1 then -4
  else if ((oA && (f.atB 1 || f.touches 1)) || ((oB && f.touches (-1)) || f.atB y)) = true then -5
  else if f.touches y = true then 0 else (s : Int)
theorem drive_on (f : Four) (d e : Rat × Rat) (s : Nat) (B : Bool) : f.drive d s B e = driveS f d.1 e.1 s (if B = true then between d e (1, 0) else between e d (1, 0)) (if B = true then between d e (-1, 0) else between e d (-1, 0)) := rfl
theorem drive_is {g a c r : Int} {f : Four} (N : Nt g a c r f) {P Q : Pl} (hP : P.Ok) (hQ : Q.Ok) {s : Nat} {left : Int} {B : Bool} (hB : B = true ↔ left = 1) :
    f.drive (place P.o P.u) s B (place Q.o Q.u) = drivenI (ciOf g a c r) P (s : Int) left Q := by
  have K := kn_of N
  have wP := Pl.wt_pos hP.ne
  have wQ := Pl.wt_pos hQ.ne
  rw [drive_on, place_1, place_1]
  by_cases kc : (ciOf g a c r).closes P = false
  · unfold driveS drivenI
    rw [closes_eq N hP.ne, if_pos kc, if_pos kc]
  have kc' : (ciOf g a c r).closes P = true := by simpa using kc
  obtain ⟨nl, nh, sp⟩ := closes_lo kc'
  have eB : ∀ x y : Bool, (if B = true then x else y) = (if left = 1 then x else y) := fun x y => by
    by_cases h : left = 1
    · rw [if_pos h, if_pos (hB.2 h)]
    · rw [if_neg h, if_neg (mt hB.1 h)]
  rw [eB, eB]
  unfold drivenI
  dsimp only
  rw [if_neg kc]
  by_cases h0 : sd P Q = 0
  · have h0' : sd Q P = 0 := by unfold sd at h0 ⊢; omega
    rw [if_pos (same_iff.2 h0)]
    have o1 : (if left = 1 then between (place P.o P.u) (place Q.o Q.u) (1, 0) else between (place Q.o Q.u) (place P.o P.u) (1, 0)) = false := by
      split
      · exact (on_same hP hQ h0).1
      · exact (on_same hQ hP h0').1
    have o2 : (if left = 1 then between (place P.o P.u) (place Q.o Q.u) (-1, 0) else between (place Q.o Q.u) (place P.o P.u) (-1, 0)) = false := by
      split
      · exact (on_same hP hQ h0).2
      · exact (on_same hQ hP h0').2
    rw [o1, o2]
    unfold driveS
    rw [closes_eq N hP.ne, touches_eq N hQ.ne, if_neg kc]
    have es : (ciOf g a c r).sq P * Q.wt = (ciOf g a c r).sq Q * P.wt := same_sq h0
    have nlQ : ¬ (ciOf g a c r).lo Q := by
      intro h
      apply nl
      unfold Ci.lo at h ⊢
      have h2 := Int.mul_lt_mul_of_pos_right h wP
      rw [← es] at h2
      have e3 : (ciOf g a c r).near * (ciOf g a c r).near * Q.wt * P.wt = (ciOf g a c r).near * (ciOf g a c r).near * P.wt * Q.wt := by grind
      rw [e3, lt_of_mul wQ] at h2
      exact h2
    have nhQ : ¬ (ciOf g a c r).hi Q := by
      intro h
      apply nh
      unfold Ci.hi at h ⊢
      have h2 := Int.mul_lt_mul_of_pos_right h wP
      rw [← es] at h2
      have e3 : (ciOf g a c r).far * (ciOf g a c r).far * Q.wt * P.wt = (ciOf g a c r).far * (ciOf g a c r).far * P.wt * Q.wt := by grind
      rw [e3, lt_of_mul wQ] at h2
      exact h2
    have n4 : ¬ (f.limits.2 < (if false = true then (1 : Rat) else max (xi P) (xi Q)) ∨ (if false = true then (-1 : Rat) else min (xi P) (xi Q)) < f.limits.1) := by
      rw [if_neg Bool.false_ne_true, if_neg Bool.false_ne_true, lt_max, min_lt, lo_iff N hP.ne, lo_iff N hQ.ne, hi_iff N hP.ne, hi_iff N hQ.ne]
      rintro ((h | h) | (h | h))
      · exact nl h
      · exact nlQ h
      · exact nh h
      · exact nhQ h
    have a5 : f.atB (xi Q) = false := by
      rw [← Bool.not_eq_true, atB_iff N hQ.ne]
      have := Int.mul_pos sp wQ
      rw [es] at this
      have := pos_of_mul wP this
      omega
    rw [if_neg n4, a5]
    rw [if_neg (by simp)]
  · rw [if_neg (mt same_iff.1 h0), on_ahead hP hQ h0 left, on_behind hP hQ h0 left]
    have h0' : sd Q P ≠ 0 := by unfold sd at h0 ⊢; omega
    have eA : hasI (if left = 1 then P else Q) (if left = 1 then Q else P) ahead = true ↔ P.o = 0 ∨ Q.o = 0 ∨ withinI (if left = 1 then P else Q) (if left = 1 then Q else P) ahead = true := by
      rw [has_ahead]
      rcases way_cases (P := P) (Q := Q) left with ⟨e1, e2, _⟩ | ⟨e1, e2, _⟩
      · rw [e1, e2]
      · rw [e1, e2]; exact ⟨fun h => h.elim (fun h => Or.inr (Or.inl h)) (fun h => h.elim Or.inl (fun h => Or.inr (Or.inr h))), fun h => h.elim (fun h => Or.inr (Or.inl h)) (fun h => h.elim Or.inl (fun h => Or.inr (Or.inr h)))⟩
    have eC : hasI (if left = 1 then P else Q) (if left = 1 then Q else P) behind = true ↔ P.u = 0 ∨ Q.u = 0 ∨ withinI (if left = 1 then P else Q) (if left = 1 then Q else P) behind = true := by
      rw [has_behind]
      rcases way_cases (P := P) (Q := Q) left with ⟨e1, e2, _⟩ | ⟨e1, e2, _⟩
      · rw [e1, e2]
      · rw [e1, e2]; exact ⟨fun h => h.elim (fun h => Or.inr (Or.inl h)) (fun h => h.elim Or.inl (fun h => Or.inr (Or.inr h))), fun h => h.elim (fun h => Or.inr (Or.inl h)) (fun h => h.elim Or.inl (fun h => Or.inr (Or.inr h)))⟩
    have nA : withinI (if left = 1 then P else Q) (if left = 1 then Q else P) ahead = true → P.o ≠ 0 := by
      rcases way_cases (P := P) (Q := Q) left with ⟨e1, e2, _⟩ | ⟨e1, e2, _⟩
      · rw [e1, e2, within_ahead hP hQ h0]; exact fun h => (ne_of_mul3 h).1
      · rw [e1, e2, within_ahead hQ hP h0']; exact fun h => (ne_of_mul3 h).2
    have nB : withinI (if left = 1 then P else Q) (if left = 1 then Q else P) behind = true → P.u ≠ 0 := by
      rcases way_cases (P := P) (Q := Q) left with ⟨e1, e2, _⟩ | ⟨e1, e2, _⟩
      · rw [e1, e2, within_behind hP hQ h0]; exact fun h => (ne_of_mul3 h).1
      · rw [e1, e2, within_behind hQ hP h0']; exact fun h => (ne_of_mul3 h).2
    generalize withinI (if left = 1 then P else Q) (if left = 1 then Q else P) ahead = wA at *
    generalize withinI (if left = 1 then P else Q) (if left = 1 then Q else P) behind = wB at *
    generalize hasI (if left = 1 then P else Q) (if left = 1 then Q else P) ahead = hA at *
    generalize hasI (if left = 1 then P else Q) (if left = 1 then Q else P) behind = hC at *
    unfold driveS
    rw [closes_eq N hP.ne, touches_eq N hQ.ne, if_neg kc]
    refine drive_logic K wP wQ (s : Int) eA eC nA nB ?_ ?_ kc'
    · have q1 : f.limits.2 < (if wA = true then (1 : Rat) else max (xi P) (xi Q)) ↔ ((wA = true ∧ (ciOf g a c r).lo ahead) ∨ (wA = false ∧ ((ciOf g a c r).lo P ∨ (ciOf g a c r).lo Q))) := by
        cases wA
        · rw [if_neg Bool.false_ne_true, lt_max, lo_iff N hP.ne, lo_iff N hQ.ne]
          exact ⟨fun h => Or.inr ⟨rfl, h⟩, fun h => h.elim (fun h => absurd h.1 Bool.false_ne_true) (fun h => h.2)⟩
        · rw [if_pos rfl, one_xi, lo_iff N ahead_ok.ne]
          exact ⟨fun h => Or.inl ⟨rfl, h⟩, fun h => h.elim (fun h => h.2) (fun h => absurd h.1 Bool.noConfusion)⟩
      have q2 : (if wB = true then (-1 : Rat) else min (xi P) (xi Q)) < f.limits.1 ↔ ((wB = true ∧ (ciOf g a c r).hi behind) ∨ (wB = false ∧ ((ciOf g a c r).hi P ∨ (ciOf g a c r).hi Q))) := by
        cases wB
        · rw [if_neg Bool.false_ne_true, min_lt, hi_iff N hP.ne, hi_iff N hQ.ne]
          exact ⟨fun h => Or.inr ⟨rfl, h⟩, fun h => h.elim (fun h => absurd h.1 Bool.false_ne_true) (fun h => h.2)⟩
        · rw [if_pos rfl, minus_xi, hi_iff N behind_ok.ne]
          exact ⟨fun h => Or.inl ⟨rfl, h⟩, fun h => h.elim (fun h => h.2) (fun h => absurd h.1 Bool.noConfusion)⟩
      rw [q1, q2]
    · rw [minus_xi, one_xi, Bool.or_eq_true, Bool.or_eq_true, Bool.and_eq_true, Bool.and_eq_true, Bool.or_eq_true, atB_iff N ahead_ok.ne, atB_iff N hQ.ne, touches_eq N ahead_ok.ne, touches_eq N behind_ok.ne]
theorem whole_d {g a c r s l : Int} (hg : 0 ≤ g) (ha : 0 ≤ a) (hc : 0 ≤ c) (hr : 0 ≤ r) (hs : 0 ≤ s) (hl : 0 ≤ l) : Neutral.whole [g, a, c, r, s, l] = true := by
  simp [Neutral.whole, *]
theorem spec_drive {g a c r p q s left p2 q2 : Int} (hg : 0 ≤ g) (ha : 0 ≤ a) (hc : 0 ≤ c) (hr : 0 ≤ r) (hs : 0 ≤ s) (hl : 0 ≤ left) : PyWqapbt.drive g a c r p q s left p2 q2 = ansDrive g a c r p q s left p2 q2 := by
  have e : PyWqapbt.drive g a c r p q s left p2 q2 = Neutral.shown (answer ⟨Neutral.four g a c r, .drive p q s.toNat left.toNat p2 q2⟩) := by
    simp only [PyWqapbt.drive, Neutral.step, Neutral.callOf, if_pos (whole_d hg ha hc hr hs hl), LkDSpec.step]
  rw [e]
  unfold answer ansDrive
  dsimp only
  rw [four_lens g a c r hg ha hc hr]
  by_cases k : lensOk g a c r = false
  · rw [if_pos k, if_pos (Or.inl k)]; rfl
  rw [if_neg k]
  have qi : fine (.drive p q s.toNat left.toNat p2 q2) = true ↔ isPl p q = true ∧ isPl p2 q2 = true ∧ (s ≤ 1 ∧ left ≤ 1) := by
    unfold fine
    have e1 : s.toNat ≤ 1 ↔ s ≤ 1 := by omega
    have e2 : left.toNat ≤ 1 ↔ left ≤ 1 := by omega
    dsimp only
    rw [Bool.and_eq_true, Bool.and_eq_true, Bool.and_eq_true, isPlace_eq, isPlace_eq, decide_eq_true_iff, decide_eq_true_iff, e1, e2]
  by_cases kp : isPl p q = false
  · have z : fine (.drive p q s.toNat left.toNat p2 q2) = false := by
      rw [← Bool.not_eq_true]; intro h; rw [kp] at qi; exact absurd (qi.1 h).1 (by decide)
    rw [if_pos (Or.inr z), if_pos kp]; rfl
  rw [if_neg kp]
  by_cases kq : isPl p2 q2 = false
  · have z : fine (.drive p q s.toNat left.toNat p2 q2) = false := by
      rw [← Bool.not_eq_true]; intro h; rw [kq] at qi; exact absurd (qi.1 h).2.1 (by decide)
    rw [if_pos (Or.inr z), if_pos kq]; rfl
  rw [if_neg kq]
  have kp' : isPl p q = true := by simpa using kp
  have kq' : isPl p2 q2 = true := by simpa using kq
  by_cases ks : s ≤ 1 ∧ left ≤ 1
  · have z := qi.2 ⟨kp', kq', ks⟩
    rw [if_neg (by intro w; rcases w with w | w; exact k w; rw [z] at w; cases w), if_neg (not_not_intro ks)]
    have N := nt_of (Bool.not_eq_false _ ▸ k : lensOk g a c r = true)
    rw [place_mk p q, place_mk p2 q2, drive_is N (mkPl_ok kp') (mkPl_ok kq') (left := left) (by rw [beq_iff_eq]; omega), Int.toNat_of_nonneg hs]
    rfl
  · have z : fine (.drive p q s.toNat left.toNat p2 q2) = false := by
      rw [← Bool.not_eq_true]; intro h; exact ks (qi.1 h).2.2
    rw [if_pos (Or.inr z), if_pos ks]; rfl
end FB
/-! Four bars: what the walks of all the defs share. -/
namespace FW
open PySem L2 Evl

/-! ### callees by name -/
section
variable (P : Program) (w : World) (K : PySem.W.Frag) (mg : Str → Option Value) (base : Heap)
def Cal (k : Nat) (x : Str) (sp : Sp) : Prop := ∃ f fd ps, FnOk P w K mg base (L2.CX P w) k f fd ps sp ∧ mg x = some (.ref f) ∧ PySem.W.keepIn K (.ref f) = true ∧ Binds K fd ps []
def Met (k : Nat) (C : Addr) (m : Str) (sp : Sp) : Prop := ∃ f fd ps, FnOk P w K mg base (L2.CX P w) k f fd ps sp ∧ Meth K C m f ∧ Binds K fd ps []
def Mak (k : Nat) (x : Str) (C : Addr) (sp : Sp) : Prop := ∃ f fd ps, FnOk P w K mg base (L2.CX P w) k f fd ps sp ∧ Mk K C f ∧ mg x = some (.ref C) ∧ Binds K fd ps []
end
section
variable {X : Cx} {k j : Nat} {x m : Str} {C : Addr} {sp : Sp} {E : XK} {p pos apos : Pos} {e o : Expr} {es : List Expr} {t : TA} {ta : TE}
theorem pe_cal (c : Cal X.prog X.w X.K X.mg X.base k x sp) (hr : Room j X.A) (hk : k ≤ j) (hx : Passes (L2.CX X.prog X.w) X E) (ha : PA X (e :: es) t) (hg : Gl X x := by rfl) (hdb : (x == ("__debug__" : Str)) = false := by decide)
    (he : starEach (e :: es) X.env = (false, eval e X.env) :: starEach es X.env := by rfl) (hpl : (backTo pos (starEach es X.env)).any (·.1) = false := by rfl) : PE X (.Call (.Name x p) (e :: es) [] pos) (tCall sp [] E t) := by
  obtain ⟨f, fd, ps, F, hm, hkp, hb⟩ := c
  exact pe_call F (hr.mono hk) hg hm hkp hb .nil hx ha hdb he hpl
theorem pe_mak (c : Mak X.prog X.w X.K X.mg X.base k x C sp) (hr : Room j X.A) (hk : k + 1 ≤ j) (hx : Passes (L2.CX X.prog X.w) X E) (ha : PA X (e :: es) t) (hg : Gl X x := by rfl) (hdb : (x == ("__debug__" : Str)) = false := by decide)
    (he : starEach (e :: es) X.env = (false, eval e X.env) :: starEach es X.env := by rfl) (hpl : (backTo pos (starEach es X.env)).any (·.1) = false := by rfl) : PE X (.Call (.Name x p) (e :: es) [] pos) (tMake C sp [] E t) := by
  obtain ⟨f, fd, ps, F, M, hm, hb⟩ := c
  exact pe_make M F (hr.mono hk) hg hm hb .nil hx ha hdb he hpl
theorem pe_met0 {pl : Sem Bool} (he : PE X o ta) (cl : Cls X.K C) (c : Met X.prog X.w X.K X.mg X.base k C m sp) (hr : Room j X.A) (hk : k ≤ j) (hx : Passes (L2.CX X.prog X.w) X E)
    (ht : eval (.Call (.Attribute o m apos) [] [] pos) X.env = (do let ov ← eval o X.env; standAt apos.atName; let (f, first) ← holding [ov] (getMethod ov m pl); callWith pos f first (backTo pos (starEach [] X.env)) (backToKw pos (keywordEach [] X.env))) := by rfl) :
    PE X (.Call (.Attribute o m apos) [] [] pos) (tMeth C m sp [] E ta tNil) := by
  obtain ⟨f, fd, ps, F, M, hb⟩ := c
  exact pe_meth0 he cl M F (hr.mono hk) hb .nil hx ht
theorem pe_met {pl : Sem Bool} (he : PE X o ta) (cl : Cls X.K C) (c : Met X.prog X.w X.K X.mg X.base k C m sp) (hr : Room j X.A) (hk : k ≤ j) (hx : Passes (L2.CX X.prog X.w) X E) (ha : PA X (e :: es) t)
    (ht : eval (.Call (.Attribute o m apos) (e :: es) [] pos) X.env = (do let ov ← eval o X.env; standAt apos.atName; let (f, first) ← holding [ov] (getMethod ov m pl); callWith pos f first (backTo pos (starEach (e :: es) X.env)) (backToKw pos (keywordEach [] X.env))) := by rfl)
    (he2 : starEach (e :: es) X.env = (false, eval e X.env) :: starEach es X.env := by rfl) (hpl : (backTo pos (starEach es X.env)).any (·.1) = false := by rfl) :
    PE X (.Call (.Attribute o m apos) (e :: es) [] pos) (tMeth C m sp [] E ta t) := by
  obtain ⟨f, fd, ps, F, M, hb⟩ := c
  exact pe_meth he cl M F (hr.mono hk) hb .nil hx ha he2 hpl ht
end
/-- a def that lets nothing out, where others may -/
theorem fn_up {P : Program} {w : World} {K : PySem.W.Frag} {mg : Str → Option Value} {base : Heap} {k : Nat} {f : Addr} {fd : FuncData} {ps : List Str} {sp : Sp} (F : FnOk P w K mg base CX0 k f fd ps sp) : FnOk P w K mg base (L2.CX P w) k f fd ps sp :=
  ⟨F.len, fun A outer s H args us vs Q E hr en bt vl h => codeAny_mono (F.run A outer s H args us vs Q E hr en bt vl h) fun r s' q => by
    cases r with
    | error e => exact False.elim q
    | ok fl => cases fl <;> exact q⟩
/-! ### what is let out -/
/-- a refusal with its number -/
def Out (R : Addr) (E : XK) (n : Int) (H : Hp) : Prop := ∀ d H2, Ex H H2 → H2 d = some (.xd [(("code" : Str), .int n)]) → E (.ref R) (some d) H2
theorem Out.go {R : Addr} {E : XK} {n : Int} {H H' : Hp} (h : Out R E n H) (e : Ex H H') : Out R E n H' := fun d H2 e2 hd => h d H2 (e.trans e2) hd
/-- the wish of a try's body where the slots may stand as they like -/
abbrev EW (W : WX) (n : Nat) : XK := fun cls d H => ∀ σ : St, σ.length = n → W cls d σ H
theorem passLen {X : Cx} {W : WX} {n : Nat} (tk : Takes X W) (hn : X.N.length = n) : Passes (L2.CX X.prog X.w) X (EW W n) := fun _ σ _ _ e s' I c =>
  tk e s' (XE.of_call I (fun cls d H' h => h σ (I.len.trans hn)) c)
theorem passE {X : Cx} {E : XK} (tk : Takes X (fun cls d _ H => E cls d H)) : Passes (L2.CX X.prog X.w) X E := passes_call tk fun _ _ _ _ h => h

/-! ### what evaluates to what, further -/
section
variable {K : PySem.W.Frag} {σ : L2.St} {H H' : Hp} {ta tb te : TE} {x y z v : V}
theorem ev_fld {a C dx : Addr} {fs : List (Str × V)} {f : Str} (h : Ev ta σ H (.ref a)) (ho : H a = some (.ins C dx fs)) (hc : Cls K C) (hn : NoAttr K C f) (hl : fs.lookup f = some v) : Ev (tFld K ta f) σ H v := fun H1 e Q q =>
  h H1 e _ fun H2 e2 => ⟨a, C, dx, fs, v, rfl, e2 _ _ (e _ _ ho), hc, hn, hl, q H2 e2⟩
theorem ev_abs {ta : TE} {i : Int} (h : Ev ta σ H (.int i)) : Ev (tCB (fun xs H Q => ∃ i, xs = [V.int i] ∧ Q (.int (if i < 0 then -i else i)) H) (tCons ta tNil)) σ H (.int (FB.ab i)) := fun H1 e Q q =>
  h H1 e _ fun H2 e2 => ⟨i, rfl, q H2 e2⟩
theorem ev_intB {b : Bool} (h : Ev ta σ H (.bl b)) : Ev (tCB (fun xs H Q => (∃ i, xs = [V.int i] ∧ Q (.int i) H) ∨ ∃ k, xs = [V.bl k] ∧ Q (.int (if k then 1 else 0)) H) (tCons ta tNil)) σ H (.int (if b = true then 1 else 0)) := fun H1 e Q q =>
  h H1 e _ fun H2 e2 => Or.inr ⟨b, rfl, q H2 e2⟩
theorem ev_min2 {i j : Int} (ha : Ev ta σ H (.int i)) (hb : Ev tb σ H (.int j)) : Ev (tCB (fun xs H Q => ∃ i j, xs = [V.int i, V.int j] ∧ Q (.int (if j < i then j else i)) H) (tCons ta (tCons tb tNil))) σ H (.int (FB.mn i j)) := fun H1 e Q q =>
  ha H1 e _ fun H2 e2 => hb H2 (e.trans e2) _ fun H3 e3 => ⟨i, j, rfl, q H3 (e2.trans e3)⟩
theorem ev_mx2 {i j : Int} (ha : Ev ta σ H (.int i)) (hb : Ev tb σ H (.int j)) : Ev (tCB (fun xs H Q => ∃ i j, xs = [V.int i, V.int j] ∧ Q (.int (if j > i then j else i)) H) (tCons ta (tCons tb tNil))) σ H (.int (FB.mx i j)) := fun H1 e Q q =>
  ha H1 e _ fun H2 e2 => hb H2 (e.trans e2) _ fun H3 e3 => ⟨i, j, rfl, q H3 (e2.trans e3)⟩
/-- o.m(..), what m promises a value -/
theorem ev_meth {a C dx : Addr} {fs : List (Str × V)} {m : Str} {sp : Sp} {E : XK} {tr : TA} {vs : List V} (h : Ev ta σ H (.ref a)) (ho : H a = some (.ins C dx fs)) (hl : fs.lookup m = none) (hr : EvA tr σ H vs) (hs : SpV sp (.ref a :: vs) H z) : Ev (tMeth C m sp [] E ta tr) σ H z := fun H1 e Q q =>
  h H1 e _ fun H2 e2 => ⟨a, dx, fs, rfl, e2 _ _ (e _ _ ho), hl, hr H2 (e.trans e2) _ fun H3 e3 => by
    have k := hs H3 ((e.trans e2).trans e3) Q (fun H4 e4 => q H4 ((e2.trans e3).trans e4)) E
    show sp (V.ref a :: (vs ++ [])) H3 Q E
    rw [List.append_nil]
    exact k⟩
theorem ev_cal {sp : Sp} {E : XK} {tr : TA} {vs : List V} (hr : EvA tr σ H vs) (hs : SpV sp vs H z) : Ev (tCall sp [] E tr) σ H z := ev_call hr (by rw [List.append_nil]; exact hs)
theorem el_cal {sp : Sp} {E : XK} {tr : TA} {vs xs : List V} (hr : EvA tr σ H vs) (hs : SpL sp vs H xs) : EvL (tCall sp [] E tr) σ H xs := el_call hr (by rw [List.append_nil]; exact hs)
theorem el_meth {a C dx : Addr} {fs : List (Str × V)} {m : Str} {sp : Sp} {E : XK} {tr : TA} {vs xs : List V} (h : Ev ta σ H (.ref a)) (ho : H a = some (.ins C dx fs)) (hl : fs.lookup m = none) (hr : EvA tr σ H vs) (hs : SpL sp (.ref a :: vs) H xs) : EvL (tMeth C m sp [] E ta tr) σ H xs := fun H1 e Q q =>
  h H1 e _ fun H2 e2 => ⟨a, dx, fs, rfl, e2 _ _ (e _ _ ho), hl, hr H2 (e.trans e2) _ fun H3 e3 => by
    have k := hs H3 ((e.trans e2).trans e3) Q (fun p H4 hp e4 h4 => q p H4 (fresh_back (e2.trans e3) hp) ((e2.trans e3).trans e4) h4) E
    show sp (V.ref a :: (vs ++ [])) H3 Q E
    rw [List.append_nil]
    exact k⟩
/-- a new object of the class at C with these fields -/
def EvO1 (te : TE) (σ : L2.St) (H : Hp) (C : Addr) (fs : List (Str × V)) : Prop := ∀ H1, Ex H H1 → ∀ Q : VK, (∀ p dx H2, H1 p = none → Ex H1 H2 → H2 p = some (.ins C dx fs) → Q (.ref p) H2) → te σ H1 Q
/-- what a promise makes: a new object -/
def SpO (sp : Sp) (vs : List V) (H : Hp) (C : Addr) (fs : List (Str × V)) : Prop := ∀ H1, Ex H H1 → ∀ Q : VK, (∀ p dx H2, H1 p = none → Ex H1 H2 → H2 p = some (.ins C dx fs) → Q (.ref p) H2) → ∀ E : XK, sp vs H1 Q E
/-- a maker's promise: the fields of the object at p -/
def Fills (C : Addr) (H : Hp) (p dx : Addr) (fs : List (Str × V)) (Q : VK) : Prop := ∀ H2, (∀ b o, b ≠ p → H b = some o → H2 b = some o) → H2 p = some (.ins C dx fs) → Q .non H2
theorem ex_made {H H2 : Hp} {p dx C : Addr} (hp : H p = none) (hd : H dx = none) (k : ∀ b o, b ≠ p → (upd (upd H dx (.own p)) p (.ins C dx [])) b = some o → H2 b = some o) : Ex H H2 := fun b o hb => by
  have n1 : b ≠ p := ne_of_none hb hp
  have n2 : b ≠ dx := ne_of_none hb hd
  exact k b o n1 (by rw [upd_ne n1, upd_ne n2]; exact hb)
theorem eo_make {C : Addr} {sp : Sp} {E : XK} {tr : TA} {vs : List V} {fs : List (Str × V)} (hr : EvA tr σ H vs)
    (hs : ∀ H1 p dx Q, Ex H H1 → H1 p = some (.ins C dx []) → Fills C H1 p dx fs Q → sp (.ref p :: vs) H1 Q E) : EvO1 (tMake C sp [] E tr) σ H C fs := fun H1 e Q q =>
  hr H1 e _ fun H2 e2 => by
    intro p dx hp hd hne
    have ee : Ex H (upd (upd H2 dx (.own p)) p (.ins C dx [])) := fun b o hb => by
      have hb2 := e2 b o (e b o hb)
      rw [upd_ne (ne_of_none hb2 hp), upd_ne (ne_of_none hb2 hd)]
      exact hb2
    have k := hs (upd (upd H2 dx (.own p)) p (.ins C dx [])) p dx (fun v H3 => v = .non ∧ Q (.ref p) H3) ee upd_same (fun H3 k3 h3 => ⟨rfl, q p dx H3 (fresh_back e2 hp) (e2.trans (ex_made hp hd k3)) h3⟩)
    show sp (V.ref p :: (vs ++ [])) _ _ _
    rw [List.append_nil]
    exact k
theorem s_asgO {i : Nat} {D : Ends} {C : Addr} {fs : List (Str × V)} (h : EvO1 te σ H C fs) (k : ∀ p dx H1, H p = none → Ex H H1 → H1 p = some (.ins C dx fs) → D.nx (σ.set i (some (.ref p))) H1) : tAsg te (gName i) D σ H := h H (Ex.refl H) _ fun p dx H1 hp e h1 => k p dx H1 hp e h1
theorem q_asgO {i : Nat} {D : Ends} {tz : TS} {C : Addr} {fs : List (Str × V)} (h : EvO1 te σ H C fs) (k : ∀ p dx H1, H p = none → Ex H H1 → H1 p = some (.ins C dx fs) → tz D (σ.set i (some (.ref p))) H1) : tSeq (tAsg te (gName i)) tz D σ H := s_asgO (D := { D with nx := tz D }) h k
theorem s_retO {D : Ends} {C : Addr} {fs : List (Str × V)} (h : EvO1 te σ H C fs) (k : ∀ p dx H1, H p = none → Ex H H1 → H1 p = some (.ins C dx fs) → D.rt (.ref p) H1) : tRet te D σ H := h H (Ex.refl H) _ fun p dx H1 hp e h1 => k p dx H1 hp e h1
/-- self.f = v -/
theorem s_fld {D : Ends} {a C dx : Addr} {fs : List (Str × V)} {f : Str} (hv : Ev tb σ H y) (ha : Ev ta σ H (.ref a)) (ho : H a = some (.ins C dx fs)) (hc : Cls K C) (hn : NoAttr K C f) (hl : fs.length < 1000)
    (k : ∀ H1, Ex H H1 → H1 a = some (.ins C dx fs) → D.nx σ (upd H1 a (.ins C dx (putF f y fs)))) : sFld K ta tb f D σ H := hv H (Ex.refl H) _ fun H1 e1 =>
  ha H1 e1 _ fun H2 e2 => ⟨a, C, dx, fs, rfl, e2 _ _ (e1 _ _ ho), hc, hn, hl, k H2 (e1.trans e2) (e2 _ _ (e1 _ _ ho))⟩
theorem q_fld {D : Ends} {tz : TS} {a C dx : Addr} {fs : List (Str × V)} {f : Str} (hv : Ev tb σ H y) (ha : Ev ta σ H (.ref a)) (ho : H a = some (.ins C dx fs)) (hc : Cls K C) (hn : NoAttr K C f) (hl : fs.length < 1000)
    (k : ∀ H1, Ex H H1 → H1 a = some (.ins C dx fs) → tz D σ (upd H1 a (.ins C dx (putF f y fs)))) : tSeq (sFld K ta tb f) tz D σ H := s_fld (D := { D with nx := tz D }) hv ha ho hc hn hl k
end
/-! ### must -/
def spMust (R : Addr) : Sp := fun vs H Q E => ∃ (b : Bool) (n : Int), vs = [.bl b, .int n] ∧ (b = true → RetV .non H Q) ∧ (b = false → Out R E n H)
theorem q_must {σ : L2.St} {H : Hp} {D : Ends} {tz : TS} {R : Addr} {E : XK} {b : Bool} {n : Int} {tr : TA} (h : EvA tr σ H [.bl b, .int n]) (h1 : b = true → ∀ H1, Ex H H1 → tz D σ H1) (h2 : b = false → ∀ H1, Ex H H1 → Out R E n H1) :
    tSeq (tDrop (tCall (spMust R) [] E tr)) tz D σ H := h H (Ex.refl H) _ fun H1 e1 => ⟨b, n, rfl, fun hb H2 e2 => h1 hb H2 (e1.trans e2), fun hb => h2 hb H1 e1⟩
theorem s_must {σ : L2.St} {H : Hp} {D : Ends} {R : Addr} {E : XK} {b : Bool} {n : Int} {tr : TA} (h : EvA tr σ H [.bl b, .int n]) (h1 : b = true → ∀ H1, Ex H H1 → D.nx σ H1) (h2 : b = false → ∀ H1, Ex H H1 → Out R E n H1) :
    tDrop (tCall (spMust R) [] E tr) D σ H := h H (Ex.refl H) _ fun H1 e1 => ⟨b, n, rfl, fun hb H2 e2 => h1 hb H2 (e1.trans e2), fun hb => h2 hb H1 e1⟩
def spRI (R : Addr) : Sp := fun vs H Q _ => ∃ (a : Addr) (n : Int), vs = [.ref a, .int n] ∧ H a = some (exo a R none) ∧ ∀ dx, H dx = none → dx ≠ a → Q .non (upd (upd H dx (exd dx [(("code" : Str), .int n)])) a (exo a R (some dx)))
end FW
/-! Four bars: promises and readings of the defs that most calls share. -/
namespace FW
open PySem L2 Evl
section
variable {K : PySem.W.Frag} {σ : L2.St} {H H' : Hp} {ta tb te : TE} {x y z v : V} {D : Ends} {tz : TS}
def LI (ns : List Int) : List V := ns.map V.int
theorem ev_allL {bs : List Bool} (h : EvL te σ H (bs.map V.bl)) : Ev (tCB (rAll K) (tCons te tNil)) σ H (.bl (bs.all id)) := fun H1 e Q q =>
  h H1 e _ fun p H2 _ e2 hp => ⟨p, bs, rfl, sq_of hp, q H2 e2⟩
theorem q_sorted {i : Nat} {a : Addr} {ns : List Int} (h : Ev te σ H (.ref a)) (hl : SqL K H a (ns.map V.int)) (hn : ns.length < 64)
    (k : ∀ (ns' : List Int) (p : Addr) (H1 : Hp), ns'.Perm ns → ns'.Pairwise (· ≤ ·) → Ex H H1 → H1 p = some (.lst (ns'.map V.int)) → tz D (σ.set i (some (.ref p))) H1) : tSeq (tAsg (tCB (rSorted K) (tCons te tNil)) (gName i)) tz D σ H :=
  h H (Ex.refl H) _ fun H1 e => ⟨a, ns, rfl, ex_l e hl, hn, fun ns' p hp hw hf => k ns' p _ hp hw (e.trans (Ex.new hf)) upd_same⟩
theorem flat_ints : ∀ ns : List Int, (ns.map V.int).all flatV = true
  | [] => rfl
  | _ :: r => flat_ints r
theorem ev_index {a : Addr} {ns : List Int} {n : Int} {j : Nat} (h : Ev te σ H (.ref a)) (hl : SqL K H a (ns.map V.int)) (hx : Ev ta σ H (.int n)) (hj : ns[j]? = some n) (hm : ∀ (m : Nat) (z : Int), m < j → ns[m]? = some z → z ≠ n) :
    Ev (tBM K "list" (rIndex K) te (tCons ta tNil)) σ H (.int (j : Nat)) := fun H1 e Q q =>
  h H1 e _ fun H2 e2 => ⟨Or.inl ⟨rfl, _, ex_l (e.trans e2) hl⟩, hx H2 (e.trans e2) _ fun H3 e3 => ⟨a, ns.map V.int, .int n, j, .int n, rfl, rfl, ex_l ((e.trans e2).trans e3) hl, rfl, flat_ints ns, by rw [List.getElem?_map, hj] <;> rfl, by
      show (n == n) = true
      exact beq_self_eq_true n, fun m z' hmj hz => by
      rw [List.getElem?_map] at hz
      cases hq : ns[m]? with
      | none => rw [hq] at hz; cases hz
      | some u =>
        rw [hq] at hz
        cases hz
        show (u == n) = false
        exact beq_eq_false_iff_ne.mpr (hm m u hmj hq), q H3 (e2.trans e3)⟩⟩
theorem ev_ixL {a : Addr} {xs : List V} {n : Int} {j : Nat} (h : Ev te σ H (.ref a)) (hl : SqL K H a xs) (hx : Ev ta σ H (.int n)) (hn : n = (j : Int)) (hj : xs[j]? = some v) : Ev (tOp (rIxL K) te ta) σ H v := by
  subst hn
  exact ev_op h hx (rv_ixL hl (atI_nat hj))
theorem ev_ixT {a : Addr} {xs : List V} {n : Int} {j : Nat} (h : Ev te σ H (.ref a)) (hl : SqT K H a xs) (hx : Ev ta σ H (.int n)) (hn : n = (j : Int)) (hj : xs[j]? = some v) : Ev (tOp (rIxT K) te ta) σ H v := by
  subst hn
  exact ev_op h hx (rv_ixT hl (atI_nat hj))
theorem ev_neg {i : Int} (h : Ev te σ H (.int i)) : Ev (tUn (rU fun i => .int (-i)) te) σ H (.int (-i)) := ev_un h ru_neg
theorem et_val {b : Bool} (h : Ev te σ H (.bl b)) : EvT (tB te) σ H b := et_B h
theorem yes_T : EvT tYes σ H true := fun H1 _ Q q => q H1 (Ex.refl H1)
end
/-! ### the bars -/
/-- at p: the four lengths -/
def BarsAt (C : Addr) (H : Hp) (p : Addr) (g a c r : Int) : Prop := ∃ dx l, H p = some (.ins C dx [(("lengths" : Str), .ref l)]) ∧ H l = some (.lst (LI [g, a, c, r]))
theorem BarsAt.mono {C : Addr} {H H' : Hp} {p : Addr} {g a c r : Int} (e : Ex H H') (h : BarsAt C H p g a c r) : BarsAt C H' p g a c r := by
  obtain ⟨dx, l, h1, h2⟩ := h
  exact ⟨dx, l, e _ _ h1, e _ _ h2⟩
def spBI (R C : Addr) : Sp := fun vs H Q E => ∃ (p dx l : Addr) (g a c r : Int), vs = [.ref p, .ref l] ∧ H p = some (.ins C dx []) ∧ H l = some (.lst (LI [g, a, c, r])) ∧ p ≠ l ∧
  (FB.lensOk g a c r = true → Fills C H p dx [(("lengths" : Str), .ref l)] Q) ∧ (FB.lensOk g a c r = false → Out R E (-1) H)
def spBK (C : Addr) : Sp := fun vs H Q _ => ∃ (p : Addr) (g a c r : Int), vs = [.ref p] ∧ BarsAt C H p g a c r ∧ FB.lensOk g a c r = true ∧ RetV (.int (FB.kindI g a c r)) H Q
theorem spv_bk {C p : Addr} {H : Hp} {g a c r : Int} (h : BarsAt C H p g a c r) (hl : FB.lensOk g a c r = true) : SpV (spBK C) [.ref p] H (.int (FB.kindI g a c r)) := fun H1 e Q q E => ⟨p, g, a, c, r, rfl, h.mono e, hl, q⟩
/-- Bars([g, a, c, r]) -/
theorem mk_bars {σ : L2.St} {H : Hp} {R C : Addr} {E : XK} {g a c r : Int} {ta : TA} {Q : VK} (h : EvA ta σ H [.int g, .int a, .int c, .int r])
    (h1 : FB.lensOk g a c r = true → ∀ p H1, H p = none → Ex H H1 → BarsAt C H1 p g a c r → Q (.ref p) H1) (h2 : FB.lensOk g a c r = false → Out R E (-1) H) :
    tMake C (spBI R C) [] E (tCons (tLst ta) tNil) σ H Q :=
  h H (Ex.refl H) _ fun H1 e1 => ⟨by show 4 ≤ sizeLine; decide, fun l hl => by
    intro p dx hp hd hne
    have hlp : p ≠ l := fun z => by rw [z, upd_same] at hp; cases hp
    have e2 : Ex H1 (upd H1 l (.lst (LI [g, a, c, r]))) := Ex.new hl
    have e3 : Ex (upd H1 l (.lst (LI [g, a, c, r]))) (upd (upd (upd H1 l (.lst (LI [g, a, c, r]))) dx (.own p)) p (.ins C dx [])) := fun b o hb => by
      rw [upd_ne (ne_of_none hb hp), upd_ne (ne_of_none hb hd)]
      exact hb
    refine ⟨p, dx, l, g, a, c, r, rfl, upd_same, e3 _ _ upd_same, hlp, fun ok => ?_, fun bad => (h2 bad).go ((e1.trans e2).trans e3)⟩
    intro H2 k2 hp2
    have ee : Ex H1 H2 := (e2.trans (ex_made hp hd k2))
    exact ⟨rfl, h1 ok p H2 (fresh_back (e1.trans e2) hp) (e1.trans ee) ⟨dx, l, hp2, k2 l _ (Ne.symm hlp) (e3 _ _ upd_same)⟩⟩⟩
theorem q_bars {σ : L2.St} {H : Hp} {D : Ends} {tz : TS} {R C : Addr} {E : XK} {g a c r : Int} {i : Nat} {ta : TA} (h : EvA ta σ H [.int g, .int a, .int c, .int r])
    (h1 : FB.lensOk g a c r = true → ∀ p H1, H p = none → Ex H H1 → BarsAt C H1 p g a c r → tz D (σ.set i (some (.ref p))) H1) (h2 : FB.lensOk g a c r = false → Out R E (-1) H) :
    tSeq (tAsg (tMake C (spBI R C) [] E (tCons (tLst ta) tNil)) (gName i)) tz D σ H := mk_bars (Q := fun x H1 => gName i x σ H1 (tz D)) h h1 h2
theorem ev4 {σ : L2.St} {H : Hp} {g a c r : V} {i j k l : Nat} (h1 : σ[i]? = some (some g)) (h2 : σ[j]? = some (some a)) (h3 : σ[k]? = some (some c)) (h4 : σ[l]? = some (some r)) : EvA (tCons (tVar i) (tCons (tVar j) (tCons (tVar k) (tCons (tVar l) tNil)))) σ H [g, a, c, r] :=
  ea_cons (ev_var h1) (ea_cons (ev_var h2) (ea_cons (ev_var h3) (ea_cons (ev_var h4) ea_nil)))
/-! ### the try of each call -/
def tsR (R : Addr) (i : Nat) : Addr → Value → Option Addr → TS := fun a cls d => tRet (tLst (tCons (tXf a cls d R "code" (tVar i)) tNil))
/-- what a call hands back: a list of whole numbers -/
def Gives (ns : List Int) (Q : VK) : Prop := ∀ (p : Addr) (H' : Hp), H' p = some (.lst (LI ns)) → Q (.ref p) H'
theorem caught {K : PySem.W.Frag} {R : Addr} {i n : Nat} {Wo : WX} {D : Ends} {z : Int} {H : Hp} (te : PySem.W.exmOne K (.ref R) (.ref R) = some true) (hi : i < n) (k : Gives [z] D.rt) : Out R (EW (wAs K (.ref R) i (tsR R i) Wo D) n) z H := fun d H2 _ hd σ hs =>
  ⟨true, te, fun _ a _ => ⟨.ref a, List.getElem?_set_self (by omega), rfl, rfl, d, _, .int z, rfl, hd, rfl, by show 1 ≤ sizeLine; decide, fun p hp => k p _ upd_same⟩, fun q => Bool.noConfusion q⟩
theorem s_gives {σ : L2.St} {H : Hp} {te : TE} {D : Ends} {ns : List Int} (h : EvL te σ H (LI ns)) (k : Gives ns D.rt) : tRet te D σ H := s_retL h fun p H1 _ _ h1 => k p H1 h1
theorem open_ret1 {te : TE} {D : Ends} {σ : L2.St} {H : Hp} (h : te σ H fun x H1 => [x].length ≤ sizeLine ∧ ∀ p, H1 p = none → D.rt (.ref p) (upd H1 p (.lst [x]))) : tRet (tLst (tCons te tNil)) D σ H := h
theorem open_meth0 {ta : TE} {C : Addr} {m : Str} {sp : Sp} {E : XK} {σ : L2.St} {H : Hp} {Q : VK} (h : ta σ H fun x H1 => ∃ a dx fs, x = .ref a ∧ H1 a = some (.ins C dx fs) ∧ fs.lookup m = none ∧ sp [x] H1 Q E) : tMeth C m sp [] E ta tNil σ H Q := h
/-- x = o.m(), o a call -/
theorem q_asgM {ta : TE} {C : Addr} {m : Str} {sp : Sp} {E : XK} {σ : L2.St} {H : Hp} {D : Ends} {tz : TS} {i : Nat} (h : ta σ H fun x H1 => ∃ a dx fs, x = .ref a ∧ H1 a = some (.ins C dx fs) ∧ fs.lookup m = none ∧ sp [x] H1 (fun v H2 => tz D (σ.set i (some v)) H2) E) : tSeq (tAsg (tMeth C m sp [] E ta tNil) (gName i)) tz D σ H := h
theorem perm4 {l : List Int} {g a c r : Int} (h : l.Perm [g, a, c, r]) : ∃ x0 x1 x2 x3, l = [x0, x1, x2, x3] := by
  have e := h.length_eq
  match l, e with
  | [x0, x1, x2, x3], _ => exact ⟨x0, x1, x2, x3, rfl⟩
/-! ### the calls' promises -/
def spKind : Sp := fun vs H Q _ => ∃ (g a c r : Int), vs = [.int g, .int a, .int c, .int r] ∧ Gives (FB.ansKind g a c r) Q
def spCircuits : Sp := fun vs H Q _ => ∃ (g a c r : Int), vs = [.int g, .int a, .int c, .int r] ∧ Gives (FB.ansCircuits g a c r) Q
/-- an error of the class at S is what the clause names -/
theorem exm_same {K : PySem.W.Frag} {S : Addr} (b : PySem.W.subIn K (.ref S) (.type "BaseException") = some true) (i : PySem.W.isClsIn K S = true) (t : PySem.W.typeIn K (.ref S) = some (.type "type")) (s : PySem.W.subIn K (.ref S) (.ref S) = some true) : PySem.W.exmOne K (.ref S) (.ref S) = some true := by
  unfold PySem.W.exmOne
  rw [b]
  have i' : (PySem.W.clsIn K S).isSome = true := i
  show PySem.W.kitCls K (.ref S) (.ref S) = some true
  unfold PySem.W.kitCls
  show (if ((PySem.W.clsIn K S).isSome && PySem.W.typeIn K (.ref S) == some (.type "type")) = true then PySem.W.subIn K (.ref S) (.ref S) else none) = some true
  rw [i', t, s]
  rfl
end FW
/-! Four bars: promises and words for the pins. -/
namespace FW
open PySem L2 Evl
section
variable {K : PySem.W.Frag} {σ : L2.St} {H H' : Hp} {ta tb te : TE} {x y z v : V} {D : Ends} {tz : TS}
theorem cm {i j : Int} (h : -1000000000000000000 ≤ i ∧ i ≤ 1000000000000000000) : CMul i j := Or.inl ⟨by omega, by omega⟩
theorem rv_mul {i j : Int} (h : -1000000000000000000 ≤ i ∧ i ≤ 1000000000000000000) : RV (rI CMul fun i j => .int (i * j)) (.int i) (.int j) H (.int (i * j)) := rv_I (cm h)
theorem rv_mod {i : Int} : RV (rI (fun _ j => 0 < j) fun i j => .int (i % j)) (.int i) (.int 4) H (.int (i % 4)) := rv_I (C := fun _ j => 0 < j) (by decide)
/-- two lists, joined -/
theorem el_cat {xs ys : List V} (ha : EvL ta σ H xs) (hb : EvL tb σ H ys) (hn : xs.length + ys.length ≤ 100000) : EvL (tOp rCat ta tb) σ H (xs ++ ys) := fun H1 e Q q =>
  ha H1 e _ fun p H2 hp e2 h2 => hb H2 (e.trans e2) _ fun p' H3 hp' e3 h3 => ⟨p, p', xs, ys, rfl, rfl, e3 _ _ h2, h3, sz_of hn, fun l hl => q l _ (fresh_back (e2.trans e3) hl) ((e2.trans e3).trans (Ex.new hl)) upd_same⟩
/-- one, two, three, four = e, e a new list -/
theorem q_unl4 {i j k l : Nat} {a b c d : V} (h : EvL te σ H [a, b, c, d]) (q : ∀ H1, Ex H H1 → tz D ((((σ.set i (some a)).set j (some b)).set k (some c)).set l (some d)) H1) :
    tSeq (tAsg te (gUnl K 4 (gCons (gName i) (gCons (gName j) (gCons (gName k) (gCons (gName l) gNil)))))) tz D σ H :=
  h H (Ex.refl H) _ fun p H1 _ e1 h1 => ⟨p, _, rfl, sq_of h1, rfl, a, _, rfl, b, _, rfl, c, _, rfl, d, _, rfl, rfl, q H1 e1⟩
/-- the same of a list that stands -/
theorem q_unl4s {i j k l : Nat} {a b c d : V} {p : Addr} (h : Ev te σ H (.ref p)) (hl : SqL K H p [a, b, c, d]) (q : ∀ H1, Ex H H1 → tz D ((((σ.set i (some a)).set j (some b)).set k (some c)).set l (some d)) H1) :
    tSeq (tAsg te (gUnl K 4 (gCons (gName i) (gCons (gName j) (gCons (gName k) (gCons (gName l) gNil)))))) tz D σ H :=
  h H (Ex.refl H) _ fun H1 e1 => ⟨p, _, rfl, ex_l e1 hl, rfl, a, _, rfl, b, _, rfl, c, _, rfl, d, _, rfl, rfl, q H1 e1⟩
/-- f(o), o a new object -/
theorem ev_calO {C : Addr} {fs : List (Str × V)} {sp : Sp} {E : XK} (h : EvO1 ta σ H C fs) (hs : ∀ p dx H1, Ex H H1 → H1 p = some (.ins C dx fs) → SpV sp [.ref p] H1 z) : Ev (tCall sp [] E (tCons ta tNil)) σ H z := fun H1 e Q q =>
  h H1 e _ fun p dx H2 _ e2 h2 => hs p dx H2 (e.trans e2) h2 H2 (Ex.refl H2) Q (fun H3 e3 => q H3 (e2.trans e3)) E
theorem el_calO {C : Addr} {fs : List (Str × V)} {sp : Sp} {E : XK} {xs : List V} (h : EvO1 ta σ H C fs) (hs : ∀ p dx H1, Ex H H1 → H1 p = some (.ins C dx fs) → SpL sp [.ref p] H1 xs) : EvL (tCall sp [] E (tCons ta tNil)) σ H xs := fun H1 e Q q =>
  h H1 e _ fun p dx H2 _ e2 h2 => hs p dx H2 (e.trans e2) h2 H2 (Ex.refl H2) Q (fun l H3 hl e3 h3 => q l H3 (fresh_back e2 hl) (e2.trans e3) h3) E
/-- o.m(..), what m promises a new object -/
theorem eo_meth {a C C2 dx : Addr} {fs gs : List (Str × V)} {m : Str} {sp : Sp} {E : XK} {tr : TA} {vs : List V} (h : Ev ta σ H (.ref a)) (ho : H a = some (.ins C dx fs)) (hl : fs.lookup m = none) (hr : EvA tr σ H vs) (hs : SpO sp (.ref a :: vs) H C2 gs) : EvO1 (tMeth C m sp [] E ta tr) σ H C2 gs := fun H1 e Q q =>
  h H1 e _ fun H2 e2 => ⟨a, dx, fs, rfl, e2 _ _ (e _ _ ho), hl, hr H2 (e.trans e2) _ fun H3 e3 => by
    have k := hs H3 ((e.trans e2).trans e3) Q (fun p dx2 H4 hp e4 h4 => q p dx2 H4 (fresh_back (e2.trans e3) hp) ((e2.trans e3).trans e4) h4) E
    show sp (V.ref a :: (vs ++ [])) H3 Q E
    rw [List.append_nil]
    exact k⟩
/-- o.m(..), o a new object, m a new list -/
theorem el_methO {C : Addr} {fs : List (Str × V)} {m : Str} {sp : Sp} {E : XK} {tr : TA} {vs : List V} {xs : List V} (h : EvO1 ta σ H C fs) (hl : fs.lookup m = none) (hr : EvA tr σ H vs) (hs : ∀ p dx H1, Ex H H1 → H1 p = some (.ins C dx fs) → SpL sp (.ref p :: vs) H1 xs) : EvL (tMeth C m sp [] E ta tr) σ H xs := fun H1 e Q q =>
  h H1 e _ fun p dx H2 _ e2 h2 => ⟨p, dx, fs, rfl, h2, hl, hr H2 (e.trans e2) _ fun H3 e3 => by
    have k := hs p dx H3 ((e.trans e2).trans e3) (e3 _ _ h2) H3 (Ex.refl H3) Q (fun l H4 hp e4 h4 => q l H4 (fresh_back (e2.trans e3) hp) ((e2.trans e3).trans e4) h4) E
    show sp (V.ref p :: (vs ++ [])) H3 Q E
    rw [List.append_nil]
    exact k⟩
end
/-- x = f(..), what f promises told in full -/
theorem q_calR {σ : L2.St} {H : Hp} {D : Ends} {tz : TS} {i : Nat} {sp : Sp} {E : XK} {tr : TA} {vs : List V} (h : EvA tr σ H vs) (k : ∀ H1, Ex H H1 → sp vs H1 (fun x H2 => tz D (σ.set i (some x)) H2) E) : tSeq (tAsg (tCall sp [] E tr) (gName i)) tz D σ H := h H (Ex.refl H) _ (fun H1 e1 => by
  have q := k H1 e1
  show sp (vs ++ []) H1 _ E
  rw [List.append_nil]
  exact q)
/-- return [f(..)], the same -/
theorem r_calR {σ : L2.St} {H : Hp} {D : Ends} {sp : Sp} {E : XK} {tr : TA} {vs : List V} (h : EvA tr σ H vs) (k : ∀ H1, Ex H H1 → sp vs H1 (fun x H2 => ∀ p, H2 p = none → D.rt (.ref p) (upd H2 p (.lst [x]))) E) (hm : ∀ (Q Q' : VK), (∀ x H2, Q x H2 → Q' x H2) → ∀ H1, sp vs H1 Q E → sp vs H1 Q' E) :
    tRet (tLst (tCons (tCall sp [] E tr) tNil)) D σ H := h H (Ex.refl H) _ (fun H1 e1 => by
  have q := k H1 e1
  show sp (vs ++ []) H1 _ E
  rw [List.append_nil]
  exact hm _ _ (fun x H2 z => ⟨by show 1 ≤ sizeLine; decide, z⟩) H1 q)
theorem mul_bd {x y m n : Int} (hx : 0 ≤ x ∧ x ≤ m) (hy : 0 ≤ y ∧ y ≤ n) : 0 ≤ x * y ∧ x * y ≤ m * n :=
  ⟨Int.mul_nonneg hx.1 hy.1, Int.mul_le_mul hx.2 hy.2 hy.1 (by omega)⟩
/-- o.f, the written part by its own name -/
theorem pe_fldK {K : PySem.W.Frag} {X : Cx} {e : Expr} {ta : TE} {f : Str} {pos : Pos} (hK : X.K = K) (he : PE X e ta) (hb : attributeBase e f X.env (eval e X.env) = eval e X.env) : PE X (.Attribute e f pos) (tFld K ta f) := by
  subst hK
  exact pe_fld he hb
/-! ### pins -/
def pinF (q : FB.P4) : List (Str × V) := [(("one" : Str), .int q.u), (("two" : Str), .int q.v), (("behind_one" : Str), .int q.w), (("behind_two" : Str), .int q.z)]
theorem pinF_is (u v w z : V) : putF "behind_two" z (putF "behind_one" w (putF "two" v (putF "one" u []))) = [(("one" : Str), u), (("two" : Str), v), (("behind_one" : Str), w), (("behind_two" : Str), z)] := by
  with_unfolding_all rfl
def spPinN (Pn : Addr) : Sp := fun vs H Q _ => ∃ (p dx : Addr) (u v w z : Int), vs = [.ref p, .int u, .int v, .int w, .int z] ∧ H p = some (.ins Pn dx []) ∧ Fills Pn H p dx (pinF ⟨u, v, w, z⟩) Q
def spPinL (Pn : Addr) : Sp := fun vs H Q _ => ∃ (p dx : Addr) (q : FB.P4), vs = [.ref p] ∧ H p = some (.ins Pn dx (pinF q)) ∧ RetV (.int (FB.ab (q.u - q.v))) H Q
def spPinM (Pn : Addr) : Sp := fun vs H Q _ => ∃ (p dx : Addr) (q : FB.P4), vs = [.ref p] ∧ H p = some (.ins Pn dx (pinF q)) ∧ RetV (.int (q.u + q.v)) H Q
def spPinC (Pn : Addr) : Sp := fun vs H Q _ => ∃ (p dx : Addr) (q : FB.P4) (d : Int), vs = [.ref p, .int d] ∧ H p = some (.ins Pn dx (pinF q)) ∧ RetV (.bl (FB.canBe q.w q.z d)) H Q
theorem spv_least {Pn p dx : Addr} {H : Hp} {q : FB.P4} (h : H p = some (.ins Pn dx (pinF q))) : SpV (spPinL Pn) [.ref p] H (.int (FB.ab (q.u - q.v))) := fun H1 e Q k E => ⟨p, dx, q, rfl, e _ _ h, k⟩
theorem spv_most {Pn p dx : Addr} {H : Hp} {q : FB.P4} (h : H p = some (.ins Pn dx (pinF q))) : SpV (spPinM Pn) [.ref p] H (.int (q.u + q.v)) := fun H1 e Q k E => ⟨p, dx, q, rfl, e _ _ h, k⟩
theorem spv_can {Pn p dx : Addr} {H : Hp} {q : FB.P4} {d : Int} (h : H p = some (.ins Pn dx (pinF q))) : SpV (spPinC Pn) [.ref p, .int d] H (.bl (FB.canBe q.w q.z d)) := fun H1 e Q k E => ⟨p, dx, q, d, rfl, e _ _ h, k⟩
/-- a pin of the bars -/
def spBP (B Pn : Addr) : Sp := fun vs H Q _ => ∃ (p : Addr) (n g a c r : Int), vs = [.ref p, .int n] ∧ BarsAt B H p g a c r ∧ ∀ q dx H2, H q = none → Ex H H2 → H2 q = some (.ins Pn dx (pinF (FB.pinI g a c r n))) → Q (.ref q) H2
theorem spo_pin {B Pn p : Addr} {H : Hp} {n g a c r : Int} (h : BarsAt B H p g a c r) : SpO (spBP B Pn) [.ref p, .int n] H Pn (pinF (FB.pinI g a c r n)) := fun H1 e Q k E => ⟨p, n, g, a, c, r, rfl, h.mono e, k⟩
/-- there must be a figure -/
def spBM (R B : Addr) : Sp := fun vs H Q E => ∃ (p : Addr) (g a c r : Int), vs = [.ref p] ∧ BarsAt B H p g a c r ∧ FB.lensOk g a c r = true ∧ (FB.kindI g a c r ≠ 0 → RetV .non H Q) ∧ (FB.kindI g a c r = 0 → Out R E (-2) H)
theorem q_mustbe {σ : L2.St} {H : Hp} {D : Ends} {tz : TS} {R B p : Addr} {E : XK} {g a c r : Int} {te : TE} (h : Ev te σ H (.ref p)) (hb : BarsAt B H p g a c r) (hl : FB.lensOk g a c r = true)
    (h1 : FB.kindI g a c r ≠ 0 → ∀ H1, Ex H H1 → tz D σ H1) (h2 : FB.kindI g a c r = 0 → Out R E (-2) H) : tSeq (tDrop (tMeth B "must_be" (spBM R B) [] E te tNil)) tz D σ H :=
  h H (Ex.refl H) _ fun H1 e1 => by
    have hb1 := hb.mono e1
    obtain ⟨dx, l, b1, b2⟩ := hb1
    exact ⟨p, dx, _, rfl, b1, by with_unfolding_all rfl, p, g, a, c, r, rfl, hb.mono e1, hl, fun hz H2 e2 => h1 hz H2 (e1.trans e2), fun hz => (h2 hz).go e1⟩
/-- whether full -/
def spIF (Pn : Addr) : Sp := fun vs H Q _ => ∃ (p dx : Addr) (q : FB.P4), vs = [.ref p] ∧ H p = some (.ins Pn dx (pinF q)) ∧ RetV (.bl (FB.fullI q)) H Q
def spFull : Sp := fun vs H Q _ => ∃ (g a c r pin : Int), vs = [.int g, .int a, .int c, .int r, .int pin] ∧ Gives (FB.ansFull g a c r pin) Q
end FW
/-! Four bars: promises and words for places, circles, ways. -/
namespace FW
open PySem L2 Evl
/-! ### a field as a target -/
def gFld (K : PySem.W.Frag) (ta : TE) (f : Str) : TG := fun v σ H Q => ta σ H fun x H2 => ∃ a C dx fs, x = .ref a ∧ H2 a = some (.ins C dx fs) ∧ Cls K C ∧ NoAttr K C f ∧ fs.length < 1000 ∧ Q σ (upd H2 a (.ins C dx (putF f v fs)))
theorem pg_attr {X : Cx} {o : Expr} {ta : TE} {f : Str} {pos : Pos} (ha : PE X o ta) : PG X (.Attribute o f pos) (gFld X.K ta f) := by
  refine ⟨fun pins s σ H v u Q I r h => ?_⟩
  rw [assign_Attribute]
  refine wpAny_bind (wpAny_holding (thn (ha.run pins s σ H _ I h) fun ov s1 ⟨x, H1, I1, r1, a, C, dx, fs, ex, ea, c, n, l, q⟩ => ?_))
  subst ex
  obtain rfl : ov = Value.ref a := r1
  exact wpAny_bind (wpAny_standAt (wpAny_bind (wpAny_holding (setattr_ok I1 ea c n l r fun s3 I3 => wpAny_release ⟨σ, _, I3, q⟩))))
/-! ### places -/
def plF (P : FB.Pl) : List (Str × V) := [(("over" : Str), .int P.o), (("under" : Str), .int P.u)]
structure BdL (P : FB.Pl) : Prop where
  o1 : -99 ≤ P.o
  o2 : P.o ≤ 99
  u1 : -99 ≤ P.u
  u2 : P.u ≤ 99
theorem bdl_mk {o u : Int} (h : FB.isPl o u = true) : BdL (FB.mkPl o u) := by
  have z := FB.isPl_iff.1 h
  unfold FB.mkPl
  split
  · exact ⟨by dsimp only; omega, by dsimp only; omega, by dsimp only; omega, by dsimp only; omega⟩
  · exact ⟨by dsimp only; omega, by dsimp only; omega, by dsimp only; omega, by dsimp only; omega⟩
theorem plF_new (a b : V) : putF "under" b (putF "over" a []) = [(("over" : Str), a), (("under" : Str), b)] := by with_unfolding_all rfl
theorem plF_neg (a b x y : V) : putF "under" y (putF "over" x [(("over" : Str), a), (("under" : Str), b)]) = [(("over" : Str), x), (("under" : Str), y)] := by with_unfolding_all rfl
/-- at p: a place -/
def PlAt (Pc : Addr) (H : Hp) (p : Addr) (P : FB.Pl) : Prop := BdL P ∧ ∃ dx, H p = some (.ins Pc dx (plF P))
theorem PlAt.mono {Pc : Addr} {H H' : Hp} {p : Addr} {P : FB.Pl} (e : Ex H H') (h : PlAt Pc H p P) : PlAt Pc H' p P := by
  obtain ⟨b, dx, h1⟩ := h
  exact ⟨b, dx, e _ _ h1⟩
def spPlN (R Pc : Addr) : Sp := fun vs H Q E => ∃ (p dx : Addr) (o u : Int), vs = [.ref p, .int o, .int u] ∧ H p = some (.ins Pc dx []) ∧ (FB.isPl o u = true → Fills Pc H p dx (plF (FB.mkPl o u)) Q) ∧ (FB.isPl o u = false → Out R E (-1) H)
theorem q_place {σ : L2.St} {H : Hp} {D : Ends} {tz : TS} {R Pc : Addr} {E : XK} {o u : Int} {i : Nat} {ta : TA} (h : EvA ta σ H [.int o, .int u])
    (h1 : FB.isPl o u = true → ∀ p H1, Ex H H1 → PlAt Pc H1 p (FB.mkPl o u) → tz D (σ.set i (some (.ref p))) H1) (h2 : FB.isPl o u = false → Out R E (-1) H) :
    tSeq (tAsg (tMake Pc (spPlN R Pc) [] E ta) (gName i)) tz D σ H :=
  h H (Ex.refl H) _ fun H1 e1 => by
    intro p dx hp hd hne
    have e3 : Ex H1 (upd (upd H1 dx (.own p)) p (.ins Pc dx [])) := fun b o hb => by
      rw [upd_ne (ne_of_none hb hp), upd_ne (ne_of_none hb hd)]
      exact hb
    refine ⟨p, dx, o, u, rfl, upd_same, fun ok => ?_, fun bad => (h2 bad).go (e1.trans e3)⟩
    intro H2 k2 hp2
    exact ⟨rfl, h1 ok p H2 (e1.trans (ex_made hp hd k2)) ⟨bdl_mk ok, dx, hp2⟩⟩
def spPlW (Pc : Addr) : Sp := fun vs H Q _ => ∃ (p : Addr) (P : FB.Pl), vs = [.ref p] ∧ PlAt Pc H p P ∧ RetV (.int P.wt) H Q
def spPlS (Pc : Addr) : Sp := fun vs H Q _ => ∃ (p : Addr) (P : FB.Pl) (g a : Int), vs = [.ref p, .int g, .int a] ∧ PlAt Pc H p P ∧ (1 ≤ g ∧ g ≤ 999) ∧ (1 ≤ a ∧ a ≤ 999) ∧ RetV (.int (FB.sqI g a P)) H Q
def spPlA (Pc : Addr) : Sp := fun vs H Q _ => ∃ (p : Addr) (P : FB.Pl), vs = [.ref p] ∧ PlAt Pc H p P ∧ RetV (.bl (decide (0 < P.o * P.u))) H Q
def spPl2 (Pc : Addr) (f : FB.Pl → FB.Pl → Bool) : Sp := fun vs H Q _ => ∃ (p q : Addr) (P P2 : FB.Pl), vs = [.ref p, .ref q] ∧ PlAt Pc H p P ∧ PlAt Pc H q P2 ∧ RetV (.bl (f P P2)) H Q
theorem spv_wt {Pc p : Addr} {H : Hp} {P : FB.Pl} (h : PlAt Pc H p P) : SpV (spPlW Pc) [.ref p] H (.int P.wt) := fun H1 e Q k E => ⟨p, P, rfl, h.mono e, k⟩
theorem spv_psq {Pc p : Addr} {H : Hp} {P : FB.Pl} {g a : Int} (h : PlAt Pc H p P) (hg : 1 ≤ g ∧ g ≤ 999) (ha : 1 ≤ a ∧ a ≤ 999) : SpV (spPlS Pc) [.ref p, .int g, .int a] H (.int (FB.sqI g a P)) := fun H1 e Q k E => ⟨p, P, g, a, rfl, h.mono e, hg, ha, k⟩
theorem spv_above {Pc p : Addr} {H : Hp} {P : FB.Pl} (h : PlAt Pc H p P) : SpV (spPlA Pc) [.ref p] H (.bl (decide (0 < P.o * P.u))) := fun H1 e Q k E => ⟨p, P, rfl, h.mono e, k⟩
theorem spv_pl2 {Pc p q : Addr} {H : Hp} {P P2 : FB.Pl} {f : FB.Pl → FB.Pl → Bool} (h : PlAt Pc H p P) (h2 : PlAt Pc H q P2) : SpV (spPl2 Pc f) [.ref p, .ref q] H (.bl (f P P2)) := fun H1 e Q k E => ⟨p, q, P, P2, rfl, h.mono e, h2.mono e, k⟩
theorem pm_bd {x y m n : Int} (hm : 0 ≤ m) (hx : -m ≤ x ∧ x ≤ m) (hy : -n ≤ y ∧ y ≤ n) : -(m * n) ≤ x * y ∧ x * y ≤ m * n := by
  have hn : 0 ≤ n := by omega
  have a1 : (x * y).natAbs ≤ (m * n).natAbs := by
    rw [Int.natAbs_mul, Int.natAbs_mul]
    exact Nat.mul_le_mul (by omega) (by omega)
  have a2 := Int.mul_nonneg hm hn
  omega
theorem wt_bd {P : FB.Pl} (b : BdL P) : 0 ≤ P.wt ∧ P.wt ≤ 19602 := by
  unfold FB.Pl.wt
  have h1 := pm_bd (x := P.o) (y := P.o) (m := 99) (n := 99) (by decide) ⟨b.o1, b.o2⟩ ⟨b.o1, b.o2⟩
  have h2 := pm_bd (x := P.u) (y := P.u) (m := 99) (n := 99) (by decide) ⟨b.u1, b.u2⟩ ⟨b.u1, b.u2⟩
  have h3 := FB.mul_self_nn P.o
  have h4 := FB.mul_self_nn P.u
  omega
/-! ### circles -/
def ciF (k : FB.Ci) : List (Str × V) := [(("ground" : Str), .int k.g), (("crank" : Str), .int k.a), (("nearest" : Str), .int k.near), (("farthest" : Str), .int k.far)]
theorem ciF_new (a b c d : V) : putF "farthest" d (putF "nearest" c (putF "crank" b (putF "ground" a []))) = [(("ground" : Str), a), (("crank" : Str), b), (("nearest" : Str), c), (("farthest" : Str), d)] := by with_unfolding_all rfl
structure BdC (k : FB.Ci) : Prop where
  g : 1 ≤ k.g ∧ k.g ≤ 999
  a : 1 ≤ k.a ∧ k.a ≤ 999
  n : 0 ≤ k.near ∧ k.near ≤ 1998
  f : 0 ≤ k.far ∧ k.far ≤ 1998
theorem bdc_of {g a c r : Int} (h : FB.lensOk g a c r = true) : BdC (FB.ciOf g a c r) := by
  have z := FB.lensOk_iff.1 h
  refine ⟨z.1, z.2.1, ?_, ?_⟩
  · show 0 ≤ FB.ab (c - r) ∧ FB.ab (c - r) ≤ 1998
    unfold FB.ab; split <;> omega
  · show 0 ≤ c + r ∧ c + r ≤ 1998
    omega
def CiAt (Cc : Addr) (H : Hp) (p : Addr) (k : FB.Ci) : Prop := BdC k ∧ ∃ dx, H p = some (.ins Cc dx (ciF k))
theorem CiAt.mono {Cc : Addr} {H H' : Hp} {p : Addr} {k : FB.Ci} (e : Ex H H') (h : CiAt Cc H p k) : CiAt Cc H' p k := by
  obtain ⟨b, dx, h1⟩ := h
  exact ⟨b, dx, e _ _ h1⟩
def spCiN (Cc : Addr) : Sp := fun vs H Q _ => ∃ (p dx l : Addr) (g a c r : Int), vs = [.ref p, .ref l] ∧ H p = some (.ins Cc dx []) ∧ H l = some (.lst (LI [g, a, c, r])) ∧ p ≠ l ∧ Fills Cc H p dx (ciF (FB.ciOf g a c r)) Q
theorem eo_circles {σ : L2.St} {H : Hp} {Cc l : Addr} {E : XK} {g a c r : Int} {te : TE} (h : Ev te σ H (.ref l)) (hl : H l = some (.lst (LI [g, a, c, r]))) : EvO1 (tMake Cc (spCiN Cc) [] E (tCons te tNil)) σ H Cc (ciF (FB.ciOf g a c r)) :=
  eo_make (ea_cons h ea_nil) fun H1 p dx Q e hp k => ⟨p, dx, l, g, a, c, r, rfl, hp, e _ _ hl, (fun z => by
    have q := e _ _ hl
    rw [← z, hp] at q
    cases q), k⟩
def spCi2 (Cc Pc : Addr) (f : FB.Ci → FB.Pl → V) : Sp := fun vs H Q _ => ∃ (p q : Addr) (k : FB.Ci) (P : FB.Pl), vs = [.ref p, .ref q] ∧ CiAt Cc H p k ∧ PlAt Pc H q P ∧ RetV (f k P) H Q
def spCi1 (Cc : Addr) (f : FB.Ci → Bool) : Sp := fun vs H Q _ => ∃ (p : Addr) (k : FB.Ci), vs = [.ref p] ∧ CiAt Cc H p k ∧ RetV (.bl (f k)) H Q
theorem spv_ci2 {Cc Pc p q : Addr} {H : Hp} {k : FB.Ci} {P : FB.Pl} {f : FB.Ci → FB.Pl → V} (h : CiAt Cc H p k) (h2 : PlAt Pc H q P) : SpV (spCi2 Cc Pc f) [.ref p, .ref q] H (f k P) := fun H1 e Q z E => ⟨p, q, k, P, rfl, h.mono e, h2.mono e, z⟩
theorem spv_ci1 {Cc p : Addr} {H : Hp} {k : FB.Ci} {f : FB.Ci → Bool} (h : CiAt Cc H p k) : SpV (spCi1 Cc f) [.ref p] H (.bl (f k)) := fun H1 e Q z E => ⟨p, k, rfl, h.mono e, z⟩
abbrev fSq : FB.Ci → FB.Pl → V := fun k P => .int (k.sq P)
abbrev fLet : FB.Ci → FB.Pl → V := fun k P => .bl (k.isLet P)
abbrev fCl : FB.Ci → FB.Pl → V := fun k P => .bl (k.closes P)
abbrev fTo : FB.Ci → FB.Pl → V := fun k P => .bl (k.touch P)
/-- o.m(..), o a new object, m a value -/
theorem ev_methO {σ : L2.St} {H : Hp} {ta : TE} {z : V} {C : Addr} {fs : List (Str × V)} {m : Str} {sp : Sp} {E : XK} {tr : TA} {vs : List V} (h : EvO1 ta σ H C fs) (hl : fs.lookup m = none) (hr : EvA tr σ H vs) (hs : ∀ p dx H1, Ex H H1 → H1 p = some (.ins C dx fs) → SpV sp (.ref p :: vs) H1 z) : Ev (tMeth C m sp [] E ta tr) σ H z := fun H1 e Q q =>
  h H1 e _ fun p dx H2 _ e2 h2 => ⟨p, dx, fs, rfl, h2, hl, hr H2 (e.trans e2) _ fun H3 e3 => by
    have k := hs p dx H3 ((e.trans e2).trans e3) (e3 _ _ h2) H3 (Ex.refl H3) Q (fun H4 e4 => q H4 ((e2.trans e3).trans e4)) E
    show sp (V.ref p :: (vs ++ [])) H3 Q E
    rw [List.append_nil]
    exact k⟩
theorem and_if {p q : Prop} [Decidable p] [Decidable q] : (decide p && decide q) = (if p then decide q else false) := by
  by_cases h : p
  · rw [if_pos h, decide_eq_true h]; rfl
  · rw [if_neg h, decide_eq_false h]; rfl
theorem and_ifB {p : Prop} [Decidable p] {b : Bool} : (decide p && b) = (if p then b else false) := by
  by_cases h : p
  · rw [if_pos h, decide_eq_true h]; rfl
  · rw [if_neg h, decide_eq_false h]; rfl
theorem or_ifB {p : Prop} [Decidable p] {b : Bool} : (decide p || b) = (if p then true else b) := by
  by_cases h : p
  · rw [if_pos h, decide_eq_true h]; rfl
  · rw [if_neg h, decide_eq_false h]; rfl
theorem bb_and {a b : Bool} : (a && b) = (if a = true then b else false) := by cases a <;> rfl
theorem bb_or {a b : Bool} : (a || b) = (if a = true then true else b) := by cases a <;> rfl
def spCircuit : Sp := fun vs H Q _ => ∃ (g a c r p q s : Int), vs = [.int g, .int a, .int c, .int r, .int p, .int q, .int s] ∧ Gives (FB.ansCircuit g a c r p q s) Q
/-! ### ways -/
def wyF (f l : Addr) : List (Str × V) := [(("first" : Str), .ref f), (("last" : Str), .ref l)]
theorem wyF_new (a b : V) : putF "last" b (putF "first" a []) = [(("first" : Str), a), (("last" : Str), b)] := by with_unfolding_all rfl
def spWyN (Wy : Addr) : Sp := fun vs H Q _ => ∃ (p dx f l : Addr), vs = [.ref p, .ref f, .ref l] ∧ H p = some (.ins Wy dx []) ∧ Fills Wy H p dx (wyF f l) Q
def spWy (Wy Pc : Addr) (f : FB.Pl → FB.Pl → FB.Pl → Bool) : Sp := fun vs H Q _ => ∃ (w dx a b p : Addr) (F L P : FB.Pl), vs = [.ref w, .ref p] ∧ H w = some (.ins Wy dx (wyF a b)) ∧ PlAt Pc H a F ∧ PlAt Pc H b L ∧ PlAt Pc H p P ∧ RetV (.bl (f F L P)) H Q
theorem spv_wy {Wy Pc w dx a b p : Addr} {H : Hp} {F L P : FB.Pl} {f : FB.Pl → FB.Pl → FB.Pl → Bool} (h : H w = some (.ins Wy dx (wyF a b))) (h1 : PlAt Pc H a F) (h2 : PlAt Pc H b L) (h3 : PlAt Pc H p P) : SpV (spWy Wy Pc f) [.ref w, .ref p] H (.bl (f F L P)) := fun H1 e Q z E => ⟨w, dx, a, b, p, F, L, P, rfl, e _ _ h, h1.mono e, h2.mono e, h3.mono e, z⟩
def spWO (Wy : Addr) : Sp := fun vs H Q _ => ∃ (f l : Addr) (left : Int), vs = [.ref f, .ref l, .int left] ∧ ∀ q dx H2, H q = none → Ex H H2 → H2 q = some (.ins Wy dx (wyF (if left = 1 then f else l) (if left = 1 then l else f))) → Q (.ref q) H2
theorem eo_wayof {σ : L2.St} {H : Hp} {Wy f l : Addr} {left : Int} {E : XK} {tr : TA} (h : EvA tr σ H [.ref f, .ref l, .int left]) : EvO1 (tCall (spWO Wy) [] E tr) σ H Wy (wyF (if left = 1 then f else l) (if left = 1 then l else f)) := fun H1 e Q q =>
  h H1 e _ fun H2 e2 => ⟨f, l, left, rfl, fun p dx H3 hp e3 h3 => q p dx H3 (fresh_back e2 hp) (e2.trans e3) h3⟩
def spDr (R Pc : Addr) : Sp := fun vs H Q E => ∃ (l f la : Addr) (s left g a c r : Int) (F L : FB.Pl), vs = [.ref l, .ref f, .int s, .int left, .ref la] ∧ H l = some (.lst (LI [g, a, c, r])) ∧ FB.lensOk g a c r = true ∧ PlAt Pc H f F ∧ PlAt Pc H la L ∧ 0 ≤ s ∧
  (0 ≤ FB.drivenI (FB.ciOf g a c r) F s left L → RetV (.int (FB.drivenI (FB.ciOf g a c r) F s left L)) H Q) ∧ (FB.drivenI (FB.ciOf g a c r) F s left L < 0 → Out R E (FB.drivenI (FB.ciOf g a c r) F s left L) H)
def spDrive : Sp := fun vs H Q _ => ∃ (g a c r p q s left p2 q2 : Int), vs = [.int g, .int a, .int c, .int r, .int p, .int q, .int s, .int left, .int p2, .int q2] ∧ 0 ≤ s ∧ Gives (FB.ansDrive g a c r p q s left p2 q2) Q
/-- what stands behind the way: whether they touch -/
def t_rest (Cc Pc : Addr) (E : XK) : TS := tSeq (tIfS (tB (tMeth Cc "touch" (spCi2 Cc Pc fTo) [] E (tVar 5) (tCons (tVar 4) tNil))) (tRet (tC (.int 0))) tNext) (tRet (tVar 2))
theorem rest_ok {Cc Pc c la : Addr} {E : XK} {D : Ends} {σ : L2.St} {H : Hp} {k : FB.Ci} {L : FB.Pl} {s : Int} (h5 : σ[5]? = some (some (.ref c))) (h4 : σ[4]? = some (some (.ref la))) (h2 : σ[2]? = some (some (.int s))) (hc : CiAt Cc H c k) (hl : PlAt Pc H la L)
    (q : RetV (.int (if k.touch L = true then 0 else s)) H D.rt) : t_rest Cc Pc E D σ H := by
  have hc' := hc
  obtain ⟨_, dx, hc1⟩ := hc'
  refine q_when (b := k.touch L) (et_val (ev_meth (ev_var h5) hc1 (by with_unfolding_all rfl) (ea_cons (ev_var h4) ea_nil) (spv_ci2 (f := fTo) hc hl))) (fun hb H1 e1 => ?_) (fun hb H1 e1 => ?_)
  · rw [if_pos hb] at q
    exact s_ret ev_c (fun H2 e2 => q H2 (e1.trans e2))
  · rw [if_neg (by rw [hb]; decide)] at q
    exact s_ret (ev_var h2) (fun H2 e2 => q H2 (e1.trans e2))
end FW
namespace FW
open PySem L2 Evl
def top (i : Nat) : Stmt := PySem.Challenge.pw_fourbars_s07_drive.main.body.getD i (.Pass ⟨0, 0, 0, 0⟩)
abbrev tx_Refused_new : Stmt := inClass (top 3) 0
abbrev tx_must : Stmt := top 4
abbrev tx_Bars_new : Stmt := inClass (top 6) 0
abbrev tx_Place_new : Stmt := inClass (top 9) 0
abbrev tx_Circles_new : Stmt := inClass (top 10) 0
abbrev tx_Place_weight : Stmt := inClass (top 9) 1
abbrev tx_Place_square : Stmt := inClass (top 9) 2
abbrev tx_Circles_square : Stmt := inClass (top 10) 1
abbrev tx_Circles_is_let : Stmt := inClass (top 10) 2
abbrev tx_Circles_closes : Stmt := inClass (top 10) 3
abbrev tx_Place_is_same : Stmt := inClass (top 9) 4
abbrev tx_Way_new : Stmt := inClass (top 11) 0
abbrev tx_way_of : Stmt := top 12
abbrev tx_Circles_is_open_ahead : Stmt := inClass (top 10) 5
abbrev tx_Place_is_before : Stmt := inClass (top 9) 5
abbrev tx_Way_has_within : Stmt := inClass (top 11) 1
abbrev tx_Way_has : Stmt := inClass (top 11) 2
abbrev tx_Circles_is_open_behind : Stmt := inClass (top 10) 6
abbrev tx_Circles_touch : Stmt := inClass (top 10) 4
abbrev tx_driven : Stmt := top 13
abbrev tx_drive : Stmt := top 15
section
variable {P : Program} {w : World} {K : PySem.W.Frag} {mg : Str → Option Value} {base : Heap} {B Cc Pc R Wy : Addr}
theorem sc_Refused_new : FnScope ["self", "code"] ["self", "code"] (defScope tx_Refused_new) := ⟨rfl, rfl, rfl, by decide +kernel, rfl, by decide +kernel, by decide +kernel⟩
theorem ok_Refused_new {f : Addr} {fd : FuncData} (F : Fun K "__init__" "Refused.__init__" tx_Refused_new f fd) (T : OexC K R) (hno : PySem.W.findIn K (.ref R) "code" = some none) : FnOk P w K mg base CX0 1 f fd ["self", "code"] (spRI R) := by
  refine F.ok sc_Refused_new (fun vs H Q E h => ?_) (fun cdv A outer s H vs Q E hr h => ?_)
  · obtain ⟨a, n, rfl, _⟩ := h
    rfl
  · obtain ⟨a, n, rfl, ha, k⟩ := h
    refine ⟨_, pss_one (ps_ost (pv 0) (pv 1)), ?_⟩
    exact ⟨_, rfl, _, rfl, a, R, rfl, T, hno, Or.inl ⟨ha, fun dx hd hne => k dx hd hne⟩⟩
theorem sc_must : FnScope ["is_so", "code"] ["is_so", "code"] (defScope tx_must) := ⟨rfl, rfl, rfl, by decide +kernel, rfl, by decide +kernel, by decide +kernel⟩
theorem ok_must {f fI : Addr} {fd fdI : FuncData} (F : Fun K "must" "must" tx_must f fd) (FI : Fun K "__init__" "Refused.__init__" tx_Refused_new fI fdI) (oex : OexC K R) (hno : PySem.W.findIn K (.ref R) "code" = some none)
    (iR : PySem.W.findIn K (.ref R) "__init__" = some (some (.ref fI))) (tR : PySem.W.typeIn K (.ref fI) = some (.type "function")) (bI : Binds K fdI ["self", "code"] []) (gR : mg "Refused" = some (.ref R)) : FnOk P w K mg base (L2.CX P w) 3 f fd ["is_so", "code"] (spMust R) := by
  have GI : FnOk P w K mg base CX0 1 fI fdI ["self", "code"] (spRI R) := ok_Refused_new FI oex hno
  refine F.okX sc_must (fun vs H Q E h => ?_) (fun cdv A outer s H vs Q E hr h => ?_)
  · obtain ⟨b, n, rfl, _⟩ := h
    rfl
  · obtain ⟨b, n, rfl, k1, k2⟩ := h
    refine ⟨_, (pss_one (ps_if (pt_not (pt_val (pv 0))) (pss_one (ps_raise rfl (takes_of rfl rfl rfl rfl) (pmk_oex oex iR tR GI hr bI .nil pass0 rfl gR (pa_cons (pv 1) pa_nil)))) pss_nil)), ?_⟩
    refine s_if (b := !b) (et_not (et_val (ev_var rfl))) (fun hb H1 e => ?_) (fun hb H1 e => ?_)
    · refine ⟨_, rfl, (by show 1 ≤ 1000; decide), fun a ha => ⟨a, n, rfl, upd_same, fun dx hdx hne => ⟨rfl, dx, [(("code" : Str), .int n)], upd_same, ?_, ?_, ?_⟩⟩⟩
      · rw [upd_ne hne]; exact upd_same
      · rw [upd_ne hne] at hdx; exact hdx
      · have hb' : b = false := by cases b <;> first | rfl | cases hb
        rw [upd_ne hne] at hdx
        refine k2 hb' dx _ (e.trans fun x o hx => ?_) upd_same
        have n1 : x ≠ dx := ne_of_none hx hdx
        have n2 : x ≠ a := ne_of_none hx ha
        rw [upd_ne n1, del_ne n2, upd_ne n2, upd_ne n1, upd_ne n2]
        exact hx
    · have hb' : b = true := by cases b <;> first | rfl | cases hb
      exact k1 hb' H1 e
theorem sc_Bars_new : FnScope ["self", "lengths", "one"] ["self", "lengths"] (defScope tx_Bars_new) := ⟨rfl, rfl, rfl, by decide +kernel, rfl, by decide +kernel, by decide +kernel⟩
theorem ok_Bars_new {f : Addr} {fd : FuncData} (F : Fun K "__init__" "Bars.__init__" tx_Bars_new f fd) (cmust : Cal P w K mg base 3 "must" (spMust R)) (zall : mg "all" = none) {tkgMOST_LENGTH : Tok} (gMOST_LENGTH : mg "MOST_LENGTH" = some (.int 999 tkgMOST_LENGTH)) (clBars : Cls K B) (nBars_lengths : NoAttr K B "lengths") :
    FnOk P w K mg base (L2.CX P w) 4 f fd ["self", "lengths"] (spBI R B) := by
  refine F.okX sc_Bars_new (fun vs H Q E h => ?_) (fun cdv A outer s H vs Q E hr h => ?_)
  · obtain ⟨p, dx, l, g, a, c, r, rfl, _⟩ := h
    rfl
  · obtain ⟨p, dx, l, g, a, c, r, rfl, hp, hl, hne, k1, k2⟩ := h
    refine ⟨_, (pss_cons (ps_expr (pe_cal cmust hr (by decide) (passE (takes_of rfl rfl rfl rfl)) (pa_cons (pe_callB (cr_all rfl) (by rfl) zall PyProof.Rows.boot_all (pa_cons (pe_lc (own := [("one", 2)]) (g := gName 2) (by rfl) sc_Bars_new.nd (pi_list (pv 1)) (blkOk_by (own := [("one", 2)]) (N := ["self", "lengths", "one"]) (sc := defScope tx_Bars_new) (by decide +kernel)) (fun _ _ _ _ _ => pg_name (i := 2) sc_Bars_new.nd rfl (Or.inl rfl)) (fun _ _ _ _ _ => pts_nil) (fun _ _ _ _ _ => (pe_and (pe_cmpR op_le pe_int (pv 2) (nomark _)) (pe_one (pe_cmpR op_le (pv 2) (pe_glob (v := .int 999) rfl gMOST_LENGTH ⟨_, rfl⟩) (nomark _)))))) pa_nil)) (pa_cons (pe_un un_neg pe_int) pa_nil))))
      (pss_one (ps_fld (pv 0) (pv 1) rfl))), ?_⟩
    refine q_must (b := FB.lensOk g a c r) (n := -1) (ea_cons (ev_is (ev_allL (bs := [(decide (1 ≤ g) && decide (g ≤ 999)), (decide (1 ≤ a) && decide (a ≤ 999)), (decide (1 ≤ c) && decide (c ≤ 999)), (decide (1 ≤ r) && decide (r ≤ 999))])
      (el_lcL (xs := LI [g, a, c, r]) (fun _ => true) (fun i => V.bl (decide (1 ≤ [g, a, c, r].getD i 0) && decide ([g, a, c, r].getD i 0 ≤ 999))) (ev_var rfl) (sq_of hl) (by show 4 ≤ 40000; decide) (fun _ => rfl) (fun _ _ _ _ _ => yes_T) (fun i x H1 e hi _ => ?_))) ?_) (ea_cons (ev_neg ev_c) ea_nil)) (fun hb H1 e => ?_) (fun hb H1 e => (k2 hb).go e)
    · obtain ⟨z, hz, rfl⟩ : ∃ z, [g, a, c, r][i]? = some z ∧ x = V.int z := by
        rw [LI, List.getElem?_map] at hi
        cases q : [g, a, c, r][i]? with
        | none => rw [q] at hi; cases hi
        | some z => rw [q] at hi; exact ⟨z, rfl, (Option.some.inj hi).symm⟩
      have e2 : [g, a, c, r].getD i 0 = z := by rw [List.getD_eq_getElem?_getD, hz]; rfl
      rw [e2]
      exact ev_andV (ev_op ev_c (ev_var rfl) rv_I0) fun _ => ev_op (ev_var rfl) ev_c rv_I0
    · simp [FB.lensOk]
    · refine s_fld (ev_var rfl) (ev_var rfl) (e _ _ hp) clBars nBars_lengths (by show 0 < 1000; decide) (fun H2 e2 hp2 => ?_)
      exact k1 hb _ (fun b o hb ho => by rw [upd_ne hb]; exact e2 _ _ (e _ _ ho)) upd_same
theorem sc_Place_new : FnScope ["self", "over", "under"] ["self", "over", "under"] (defScope tx_Place_new) := ⟨rfl, rfl, rfl, by decide +kernel, rfl, by decide +kernel, by decide +kernel⟩
theorem ok_Place_new {f : Addr} {fd : FuncData} (F : Fun K "__init__" "Place.__init__" tx_Place_new f fd) (cmust : Cal P w K mg base 3 "must" (spMust R)) (zabs : mg "abs" = none) {tkgMOST_PLACE : Tok} (gMOST_PLACE : mg "MOST_PLACE" = some (.int 99 tkgMOST_PLACE)) (clPlace : Cls K Pc) (nPlace_over : NoAttr K Pc "over") (nPlace_under : NoAttr K Pc "under") :
    FnOk P w K mg base (L2.CX P w) 4 f fd ["self", "over", "under"] (spPlN R Pc) := by
  refine F.okX sc_Place_new (fun vs H Q E h => ?_) (fun cdv A outer s H vs Q E hr h => ?_)
  · obtain ⟨p, dx, o, u, rfl, _⟩ := h
    rfl
  · obtain ⟨p, dx, o, u, rfl, hp, k1, k2⟩ := h
    refine ⟨_, (pss_cons (ps_expr (pe_cal cmust hr (by decide) (passE (takes_of rfl rfl rfl rfl)) (pa_cons (pe_and (pe_cmpR op_le (pe_callB call_abs (by rfl) zabs PyProof.Rows.boot_abs (pa_cons (pv 1) pa_nil)) (pe_glob (v := .int 99) rfl gMOST_PLACE ⟨_, rfl⟩) (nomark _)) (pe_and (pe_cmpR op_le (pe_callB call_abs (by rfl) zabs PyProof.Rows.boot_abs (pa_cons (pv 2) pa_nil)) (pe_glob (v := .int 99) rfl gMOST_PLACE ⟨_, rfl⟩) (nomark _)) (pe_one (pe_or (pe_cmpR op_ne (pv 1) pe_int (nomark _)) (pe_one (pe_cmpR op_ne (pv 2) pe_int (nomark _))))))) (pa_cons (pe_un un_neg pe_int) pa_nil))))
      (pss_cons (ps_fld (pv 0) (pv 1) rfl)
      (pss_cons (ps_fld (pv 0) (pv 2) rfl)
      (pss_one (ps_if (pt_cmpR op_lt (pv 2) pe_int (nomark _)) (pss_cons (ps_fld (pv 0) (pe_op op_sub pe_int (pv 1)) rfl)
      (pss_one (ps_fld (pv 0) (pe_op op_sub pe_int (pv 2)) rfl))) pss_nil))))), ?_⟩
    refine q_must (b := FB.isPl o u) (n := -1) (ea_cons (ev_is (ev_andV (ev_op (ev_abs (ev_var rfl)) ev_c rv_I0) fun _ => ev_andV (ev_op (ev_abs (ev_var rfl)) ev_c rv_I0) fun _ => ev_orV (ev_is (ev_op (ev_var rfl) ev_c (rv_ne rfl)) (show _ = V.bl (!decide (o = 0)) by simp)) fun _ => ev_is (ev_op (ev_var rfl) ev_c (rv_ne rfl)) (show _ = V.bl (!decide (u = 0)) by simp)) (by simp [FB.isPl, Bool.and_assoc])) (ea_cons (ev_neg ev_c) ea_nil)) (fun hb H1 e1 => ?_) (fun hb H1 e1 => (k2 hb).go e1)
    refine q_fld (ev_var rfl) (ev_var rfl) (e1 _ _ hp) clPlace nPlace_over (by show 0 < 1000; decide) (fun H2 e2 h2 => ?_)
    refine q_fld (ev_var rfl) (ev_var rfl) upd_same clPlace nPlace_under (by show 1 < 1000; decide) (fun H3 e3 h3 => ?_)
    rw [plF_new]
    have kk := k1 hb
    have e13 : ∀ b x, b ≠ p → H b = some x → upd H3 p (.ins Pc dx [(("over" : Str), .int o), (("under" : Str), .int u)]) b = some x := fun b x hne hx => by
      rw [upd_ne hne]
      refine e3 _ _ ?_
      rw [upd_ne hne]
      exact e2 _ _ (e1 _ _ hx)
    refine s_when (b := decide (u < 0)) (et_test (ev_op (ev_var rfl) ev_c rv_I0)) (fun hn H4 e4 => ?_) (fun hn H4 e4 => ?_)
    · refine q_fld (ev_op ev_c (ev_var rfl) rv_I0) (ev_var rfl) (e4 _ _ upd_same) clPlace nPlace_over (by show 2 < 1000; decide) (fun H5 e5 h5 => ?_)
      refine s_fld (ev_op ev_c (ev_var rfl) rv_I0) (ev_var rfl) upd_same clPlace nPlace_under (by show 2 < 1000; decide) (fun H6 e6 h6 => ?_)
      have em : FB.mkPl o u = ⟨0 - o, 0 - u⟩ := by unfold FB.mkPl; rw [if_pos (of_decide_eq_true hn)]
      rw [em] at kk
      refine kk _ (fun b x hne hx => ?_) ?_
      · rw [upd_ne hne]
        refine e6 _ _ ?_
        rw [upd_ne hne]
        exact e5 _ _ (e4 _ _ (e13 b x hne hx))
      · rw [plF_neg]
        exact upd_same
    · have em : FB.mkPl o u = ⟨o, u⟩ := by unfold FB.mkPl; rw [if_neg (of_decide_eq_false hn)]
      rw [em] at kk
      exact kk _ (fun b x hne hx => e4 _ _ (e13 b x hne hx)) (e4 _ _ upd_same)
theorem sc_Circles_new : FnScope ["self", "lengths", "coupler", "rocker"] ["self", "lengths"] (defScope tx_Circles_new) := ⟨rfl, rfl, rfl, by decide +kernel, rfl, by decide +kernel, by decide +kernel⟩
theorem ok_Circles_new {f : Addr} {fd : FuncData} (F : Fun K "__init__" "Circles.__init__" tx_Circles_new f fd) (clCircles : Cls K Cc) (nCircles_crank : NoAttr K Cc "crank") (nCircles_ground : NoAttr K Cc "ground") (nCircles_nearest : NoAttr K Cc "nearest") (zabs : mg "abs" = none) (nCircles_farthest : NoAttr K Cc "farthest") :
    FnOk P w K mg base CX0 1 f fd ["self", "lengths"] (spCiN Cc) := by
  refine F.ok sc_Circles_new (fun vs H Q E h => ?_) (fun cdv A outer s H vs Q E hr h => ?_)
  · obtain ⟨p, dx, l, g, a, c, r, rfl, _⟩ := h
    rfl
  · obtain ⟨p, dx, l, g, a, c, r, rfl, hp, hl, hne, k⟩ := h
    refine ⟨_, (pss_cons (ps_asg (pv 1) (pg_unl rfl (pgs_cons (pg_attr (pv 0)) (pgs_cons (pg_attr (pv 0)) (pgs_cons (pg_name (i := 2) sc_Circles_new.nd rfl (Or.inl rfl)) (pgs_cons (pg_name (i := 3) sc_Circles_new.nd rfl (Or.inl rfl)) pgs_nil))))))
      (pss_cons (ps_fld (pv 0) (pe_callB call_abs (by rfl) zabs PyProof.Rows.boot_abs (pa_cons (pe_op op_sub (pv 2) (pv 3)) pa_nil)) rfl)
      (pss_one (ps_fld (pv 0) (pe_op op_add (pv 2) (pv 3)) rfl)))), ?_⟩
    refine ⟨.ref l, rfl, l, _, rfl, sq_of hl, rfl, _, _, rfl, .ref p, rfl, p, Cc, dx, _, rfl, hp, clCircles, nCircles_ground, (by show 0 < 1000; decide), _, _, rfl, .ref p, rfl, p, Cc, dx, _, rfl, upd_same, clCircles, nCircles_crank, (by show 1 < 1000; decide), _, _, rfl, _, _, rfl, rfl, ?_⟩
    refine q_fld (ev_abs (ev_op (ev_var rfl) (ev_var rfl) rv_I0)) (ev_var rfl) upd_same clCircles nCircles_nearest (by show 2 < 1000; decide) (fun H1 e1 h1 => ?_)
    refine s_fld (ev_op (ev_var rfl) (ev_var rfl) rv_I0) (ev_var rfl) upd_same clCircles nCircles_farthest (by show 3 < 1000; decide) (fun H2 e2 h2 => ?_)
    refine k _ (fun b x hb hx => ?_) ?_
    · rw [upd_ne hb]
      refine e2 _ _ ?_
      rw [upd_ne hb]
      refine e1 _ _ ?_
      rw [upd_ne hb, upd_ne hb]
      exact hx
    · rw [ciF_new]
      exact upd_same
theorem sc_Place_weight : FnScope ["self"] ["self"] (defScope tx_Place_weight) := ⟨rfl, rfl, rfl, by decide +kernel, rfl, by decide +kernel, by decide +kernel⟩
theorem ok_Place_weight {f : Addr} {fd : FuncData} (F : Fun K "weight" "Place.weight" tx_Place_weight f fd) (clPlace : Cls K Pc) (nPlace_over : NoAttr K Pc "over") (nPlace_under : NoAttr K Pc "under") :
    FnOk P w K mg base CX0 1 f fd ["self"] (spPlW Pc) := by
  refine F.ok sc_Place_weight (fun vs H Q E h => ?_) (fun cdv A outer s H vs Q E hr h => ?_)
  · obtain ⟨p, P0, rfl, _⟩ := h
    rfl
  · obtain ⟨p, P0, rfl, ⟨bd, dx, hp⟩, k⟩ := h
    refine ⟨_, (pss_one (ps_ret (pe_op op_add (pe_op op_mul (pe_fld (pv 0) rfl) (pe_fld (pv 0) rfl)) (pe_op op_mul (pe_fld (pv 0) rfl) (pe_fld (pv 0) rfl))))), ?_⟩
    have b1 := bd.o1
    have b2 := bd.o2
    have b3 := bd.u1
    have b4 := bd.u2
    exact s_ret (ev_op (ev_op (ev_fld (ev_var rfl) hp clPlace nPlace_over rfl) (ev_fld (ev_var rfl) hp clPlace nPlace_over rfl) (rv_mul (by omega))) (ev_op (ev_fld (ev_var rfl) hp clPlace nPlace_under rfl) (ev_fld (ev_var rfl) hp clPlace nPlace_under rfl) (rv_mul (by omega))) rv_I0) k
theorem sc_Place_square : FnScope ["self", "ground", "crank", "both", "along"] ["self", "ground", "crank"] (defScope tx_Place_square) := ⟨rfl, rfl, rfl, by decide +kernel, rfl, by decide +kernel, by decide +kernel⟩
theorem ok_Place_square {f : Addr} {fd : FuncData} (F : Fun K "square" "Place.square" tx_Place_square f fd) (clPlace : Cls K Pc) (nPlace_under : NoAttr K Pc "under") (nPlace_over : NoAttr K Pc "over") (cPlace_weight : Met P w K mg base 1 Pc "weight" (spPlW Pc)) :
    FnOk P w K mg base CX0 2 f fd ["self", "ground", "crank"] (spPlS Pc) := by
  refine F.ok sc_Place_square (fun vs H Q E h => ?_) (fun cdv A outer s H vs Q E hr h => ?_)
  · obtain ⟨p, P0, g, a, rfl, _⟩ := h
    rfl
  · obtain ⟨p, P0, g, a, rfl, hP, hg, ha, k⟩ := h
    refine ⟨_, (pss_cons (ps_set (i := 3) sc_Place_square.nd rfl (Or.inl rfl) (pe_op op_add (pe_op op_mul (pv 1) (pv 1)) (pe_op op_mul (pv 2) (pv 2))))
      (pss_cons (ps_set (i := 4) sc_Place_square.nd rfl (Or.inl rfl) (pe_op op_sub (pe_op op_mul (pe_fld (pv 0) rfl) (pe_fld (pv 0) rfl)) (pe_op op_mul (pe_fld (pv 0) rfl) (pe_fld (pv 0) rfl))))
      (pss_one (ps_ret (pe_op op_sub (pe_op op_mul (pv 3) (pe_met0 (pv 0) clPlace cPlace_weight hr (by decide) passL)) (pe_op op_mul (pe_op op_mul (pe_op op_mul pe_int (pv 1)) (pv 2)) (pv 4))))))), ?_⟩
    have hP' := hP
    obtain ⟨bd, dx, hp⟩ := hP'
    have b1 := bd.o1
    have b2 := bd.o2
    have b3 := bd.u1
    have b4 := bd.u2
    have w := wt_bd bd
    have m1 := mul_bd (x := g) (y := g) (m := 999) (n := 999) (by omega) (by omega)
    have m2 := mul_bd (x := a) (y := a) (m := 999) (n := 999) (by omega) (by omega)
    have m3 := mul_bd (x := 2 * g) (y := a) (m := 1998) (n := 999) (by omega) (by omega)
    refine q_asg (ev_op (ev_op (ev_var rfl) (ev_var rfl) (rv_mul (by omega))) (ev_op (ev_var rfl) (ev_var rfl) (rv_mul (by omega))) rv_I0) (fun H1 e1 => ?_)
    have hp1 := e1 _ _ hp
    refine q_asg (ev_op (ev_op (ev_fld (ev_var rfl) hp1 clPlace nPlace_under rfl) (ev_fld (ev_var rfl) hp1 clPlace nPlace_under rfl) (rv_mul (by omega))) (ev_op (ev_fld (ev_var rfl) hp1 clPlace nPlace_over rfl) (ev_fld (ev_var rfl) hp1 clPlace nPlace_over rfl) (rv_mul (by omega))) rv_I0) (fun H2 e2 => ?_)
    have hP2 := (hP.mono e1).mono e2
    have hp2 := e2 _ _ hp1
    exact s_ret (ev_op (ev_op (ev_var rfl) (ev_meth (ev_var rfl) hp2 (by with_unfolding_all rfl) ea_nil (spv_wt hP2)) (rv_mul (by omega))) (ev_op (ev_op (ev_op ev_c (ev_var rfl) (rv_mul (by omega))) (ev_var rfl) (rv_mul (by omega))) (ev_var rfl) (rv_mul (by omega))) rv_I0) (fun H3 e3 => k H3 ((e1.trans e2).trans e3))
theorem sc_Circles_square : FnScope ["self", "place"] ["self", "place"] (defScope tx_Circles_square) := ⟨rfl, rfl, rfl, by decide +kernel, rfl, by decide +kernel, by decide +kernel⟩
theorem ok_Circles_square {f : Addr} {fd : FuncData} (F : Fun K "square" "Circles.square" tx_Circles_square f fd) (clPlace : Cls K Pc) (cPlace_square : Met P w K mg base 2 Pc "square" (spPlS Pc)) (clCircles : Cls K Cc) (nCircles_crank : NoAttr K Cc "crank") (nCircles_ground : NoAttr K Cc "ground") :
    FnOk P w K mg base CX0 3 f fd ["self", "place"] (spCi2 Cc Pc fSq) := by
  refine F.ok sc_Circles_square (fun vs H Q E h => ?_) (fun cdv A outer s H vs Q E hr h => ?_)
  · obtain ⟨p, q, k0, P0, rfl, _⟩ := h
    rfl
  · obtain ⟨p, q, k0, P0, rfl, ⟨bd, dx, hp⟩, hP, k⟩ := h
    refine ⟨_, (pss_one (ps_ret (pe_met (pv 1) clPlace cPlace_square hr (by decide) passL (pa_cons (pe_fld (pv 0) rfl) (pa_cons (pe_fld (pv 0) rfl) pa_nil))))), ?_⟩
    have hP' := hP
    obtain ⟨bd2, dx2, hq⟩ := hP'
    exact s_ret (ev_meth (ev_var rfl) hq (by with_unfolding_all rfl) (ea_cons (ev_fld (ev_var rfl) hp clCircles nCircles_ground rfl) (ea_cons (ev_fld (ev_var rfl) hp clCircles nCircles_crank rfl) ea_nil)) (spv_psq hP bd.g bd.a)) k
theorem sc_Circles_is_let : FnScope ["self", "place", "found", "weight"] ["self", "place"] (defScope tx_Circles_is_let) := ⟨rfl, rfl, rfl, by decide +kernel, rfl, by decide +kernel, by decide +kernel⟩
theorem ok_Circles_is_let {f : Addr} {fd : FuncData} (F : Fun K "is_let" "Circles.is_let" tx_Circles_is_let f fd) (clCircles : Cls K Cc) (cCircles_square : Met P w K mg base 3 Cc "square" (spCi2 Cc Pc fSq)) (clPlace : Cls K Pc) (cPlace_weight : Met P w K mg base 1 Pc "weight" (spPlW Pc)) (nCircles_farthest : NoAttr K Cc "farthest") (nCircles_nearest : NoAttr K Cc "nearest") :
    FnOk P w K mg base CX0 4 f fd ["self", "place"] (spCi2 Cc Pc fLet) := by
  refine F.ok sc_Circles_is_let (fun vs H Q E h => ?_) (fun cdv A outer s H vs Q E hr h => ?_)
  · obtain ⟨p, q, k0, P0, rfl, _⟩ := h
    rfl
  · obtain ⟨p, q, k0, P0, rfl, hC, hP, k⟩ := h
    refine ⟨_, (pss_cons (ps_set (i := 2) sc_Circles_is_let.nd rfl (Or.inl rfl) (pe_met (pv 0) clCircles cCircles_square hr (by decide) passL (pa_cons (pv 1) pa_nil)))
      (pss_cons (ps_set (i := 3) sc_Circles_is_let.nd rfl (Or.inl rfl) (pe_met0 (pv 1) clPlace cPlace_weight hr (by decide) passL))
      (pss_one (ps_ret (pe_and (pe_cmpR op_le (pe_op op_mul (pe_op op_mul (pe_fld (pv 0) rfl) (pe_fld (pv 0) rfl)) (pv 3)) (pv 2) (nomark _)) (pe_one (pe_cmpR op_le (pv 2) (pe_op op_mul (pe_op op_mul (pe_fld (pv 0) rfl) (pe_fld (pv 0) rfl)) (pv 3)) (nomark _)))))))), ?_⟩
    have hC' := hC
    have hP' := hP
    obtain ⟨bd, dx, hp⟩ := hC'
    obtain ⟨bd2, dx2, hq⟩ := hP'
    have n1 := bd.n
    have n2 := bd.f
    have m1 := mul_bd (x := k0.near) (y := k0.near) (m := 1998) (n := 1998) n1 n1
    have m2 := mul_bd (x := k0.far) (y := k0.far) (m := 1998) (n := 1998) n2 n2
    refine q_asg (ev_meth (ev_var rfl) hp (by with_unfolding_all rfl) (ea_cons (ev_var rfl) ea_nil) (spv_ci2 (f := fSq) hC hP)) (fun H1 e1 => ?_)
    refine q_asg (ev_meth (ev_var rfl) (e1 _ _ hq) (by with_unfolding_all rfl) ea_nil (spv_wt (hP.mono e1))) (fun H2 e2 => ?_)
    have hp2 := e2 _ _ (e1 _ _ hp)
    refine s_ret (v := .bl (k0.isLet P0)) (ev_is (ev_andV (ev_op (ev_op (ev_op (ev_fld (ev_var rfl) hp2 clCircles nCircles_nearest rfl) (ev_fld (ev_var rfl) hp2 clCircles nCircles_nearest rfl) (rv_mul (by omega))) (ev_var rfl) (rv_mul (by omega))) (ev_var rfl) rv_I0) fun _ => ev_op (ev_var rfl) (ev_op (ev_op (ev_fld (ev_var rfl) hp2 clCircles nCircles_farthest rfl) (ev_fld (ev_var rfl) hp2 clCircles nCircles_farthest rfl) (rv_mul (by omega))) (ev_var rfl) (rv_mul (by omega))) rv_I0) ?_) (fun H3 e3 => k H3 ((e1.trans e2).trans e3))
    rw [and_if]
    rfl
theorem sc_Circles_closes : FnScope ["self", "place"] ["self", "place"] (defScope tx_Circles_closes) := ⟨rfl, rfl, rfl, by decide +kernel, rfl, by decide +kernel, by decide +kernel⟩
theorem ok_Circles_closes {f : Addr} {fd : FuncData} (F : Fun K "closes" "Circles.closes" tx_Circles_closes f fd) (clCircles : Cls K Cc) (cCircles_is_let : Met P w K mg base 4 Cc "is_let" (spCi2 Cc Pc fLet)) (cCircles_square : Met P w K mg base 3 Cc "square" (spCi2 Cc Pc fSq)) :
    FnOk P w K mg base CX0 5 f fd ["self", "place"] (spCi2 Cc Pc fCl) := by
  refine F.ok sc_Circles_closes (fun vs H Q E h => ?_) (fun cdv A outer s H vs Q E hr h => ?_)
  · obtain ⟨p, q, k0, P0, rfl, _⟩ := h
    rfl
  · obtain ⟨p, q, k0, P0, rfl, hC, hP, k⟩ := h
    refine ⟨_, (pss_one (ps_ret (pe_and (pe_cmpR op_gt (pe_met (pv 0) clCircles cCircles_square hr (by decide) passL (pa_cons (pv 1) pa_nil)) pe_int (nomark _)) (pe_one (pe_met (pv 0) clCircles cCircles_is_let hr (by decide) passL (pa_cons (pv 1) pa_nil)))))), ?_⟩
    have hC' := hC
    obtain ⟨bd, dx, hp⟩ := hC'
    refine s_ret (v := .bl (k0.closes P0)) (ev_is (ev_andV (ev_op (ev_meth (ev_var rfl) hp (by with_unfolding_all rfl) (ea_cons (ev_var rfl) ea_nil) (spv_ci2 (f := fSq) hC hP)) ev_c rv_I0) fun _ => ev_meth (ev_var rfl) hp (by with_unfolding_all rfl) (ea_cons (ev_var rfl) ea_nil) (spv_ci2 (f := fLet) hC hP)) ?_) k
    rw [and_ifB]
    rfl
theorem sc_Place_is_same : FnScope ["self", "other"] ["self", "other"] (defScope tx_Place_is_same) := ⟨rfl, rfl, rfl, by decide +kernel, rfl, by decide +kernel, by decide +kernel⟩
theorem ok_Place_is_same {f : Addr} {fd : FuncData} (F : Fun K "is_same" "Place.is_same" tx_Place_is_same f fd) (clPlace : Cls K Pc) (nPlace_over : NoAttr K Pc "over") (nPlace_under : NoAttr K Pc "under") :
    FnOk P w K mg base CX0 1 f fd ["self", "other"] (spPl2 Pc FB.sameI) := by
  refine F.ok sc_Place_is_same (fun vs H Q E h => ?_) (fun cdv A outer s H vs Q E hr h => ?_)
  · obtain ⟨p, q, P0, P2, rfl, _⟩ := h
    rfl
  · obtain ⟨p, q, P0, P2, rfl, ⟨bd, dx, hp⟩, ⟨bd2, dx2, hq⟩, k⟩ := h
    refine ⟨_, (pss_one (ps_ret (pe_cmpR op_eq (pe_op op_mul (pe_fld (pv 0) rfl) (pe_fld (pv 1) rfl)) (pe_op op_mul (pe_fld (pv 1) rfl) (pe_fld (pv 0) rfl)) (nomark _)))), ?_⟩
    have b1 := bd.o1
    have b2 := bd.o2
    have b3 := bd2.o1
    have b4 := bd2.o2
    exact s_ret (ev_is (ev_op (ev_op (ev_fld (ev_var rfl) hp clPlace nPlace_over rfl) (ev_fld (ev_var rfl) hq clPlace nPlace_under rfl) (rv_mul (by omega))) (ev_op (ev_fld (ev_var rfl) hq clPlace nPlace_over rfl) (ev_fld (ev_var rfl) hp clPlace nPlace_under rfl) (rv_mul (by omega))) (rv_eq rfl)) (by simp [FB.sameI])) k
theorem sc_Way_new : FnScope ["self", "first", "last"] ["self", "first", "last"] (defScope tx_Way_new) := ⟨rfl, rfl, rfl, by decide +kernel, rfl, by decide +kernel, by decide +kernel⟩
theorem ok_Way_new {f : Addr} {fd : FuncData} (F : Fun K "__init__" "Way.__init__" tx_Way_new f fd) (clWay : Cls K Wy) (nWay_first : NoAttr K Wy "first") (nWay_last : NoAttr K Wy "last") :
    FnOk P w K mg base CX0 1 f fd ["self", "first", "last"] (spWyN Wy) := by
  refine F.ok sc_Way_new (fun vs H Q E h => ?_) (fun cdv A outer s H vs Q E hr h => ?_)
  · obtain ⟨p, dx, a, b, rfl, _⟩ := h
    rfl
  · obtain ⟨p, dx, a, b, rfl, hp, k⟩ := h
    refine ⟨_, (pss_cons (ps_fld (pv 0) (pv 1) rfl)
      (pss_one (ps_fld (pv 0) (pv 2) rfl))), ?_⟩
    refine q_fld (ev_var rfl) (ev_var rfl) hp clWay nWay_first (by show 0 < 1000; decide) (fun H1 e1 h1 => ?_)
    refine s_fld (ev_var rfl) (ev_var rfl) upd_same clWay nWay_last (by show 1 < 1000; decide) (fun H2 e2 h2 => ?_)
    refine k _ (fun x o hb ho => ?_) ?_
    · rw [upd_ne hb]
      refine e2 _ _ ?_
      rw [upd_ne hb]
      exact e1 _ _ ho
    · rw [wyF_new]
      exact upd_same
theorem sc_way_of : FnScope ["first", "last", "left"] ["first", "last", "left"] (defScope tx_way_of) := ⟨rfl, rfl, rfl, by decide +kernel, rfl, by decide +kernel, by decide +kernel⟩
theorem ok_way_of {f : Addr} {fd : FuncData} (F : Fun K "way_of" "way_of" tx_way_of f fd) (cWay_new : Mak P w K mg base 1 "Way" Wy (spWyN Wy)) :
    FnOk P w K mg base CX0 3 f fd ["first", "last", "left"] (spWO Wy) := by
  refine F.ok sc_way_of (fun vs H Q E h => ?_) (fun cdv A outer s H vs Q E hr h => ?_)
  · obtain ⟨f0, l0, left, rfl, _⟩ := h
    rfl
  · obtain ⟨f0, l0, left, rfl, k⟩ := h
    refine ⟨_, (pss_cons (ps_if (pt_cmpR op_eq (pv 2) pe_int (nomark _)) (pss_one (ps_ret (pe_mak cWay_new hr (by decide) passL (pa_cons (pv 0) (pa_cons (pv 1) pa_nil))))) pss_nil)
      (pss_one (ps_ret (pe_mak cWay_new hr (by decide) passL (pa_cons (pv 1) (pa_cons (pv 0) pa_nil)))))), ?_⟩
    refine q_when (b := decide (left = 1)) (et_is (et_test (ev_op (ev_var rfl) ev_c (rv_eq rfl))) (by simp)) (fun hb H1 e1 => ?_) (fun hb H1 e1 => ?_)
    · rw [if_pos (of_decide_eq_true hb), if_pos (of_decide_eq_true hb)] at k
      exact s_retO (eo_make (fs := wyF f0 l0) (ea_cons (ev_var rfl) (ea_cons (ev_var rfl) ea_nil)) (fun H2 q dq Q2 e2 hq k2 => ⟨q, dq, _, _, rfl, hq, k2⟩)) (fun q dq H2 hq e2 h2 => k q dq H2 (fresh_back e1 hq) (e1.trans e2) h2)
    · rw [if_neg (of_decide_eq_false hb), if_neg (of_decide_eq_false hb)] at k
      exact s_retO (eo_make (fs := wyF l0 f0) (ea_cons (ev_var rfl) (ea_cons (ev_var rfl) ea_nil)) (fun H2 q dq Q2 e2 hq k2 => ⟨q, dq, _, _, rfl, hq, k2⟩)) (fun q dq H2 hq e2 h2 => k q dq H2 (fresh_back e1 hq) (e1.trans e2) h2)
theorem sc_Circles_is_open_ahead : FnScope ["self"] ["self"] (defScope tx_Circles_is_open_ahead) := ⟨rfl, rfl, rfl, by decide +kernel, rfl, by decide +kernel, by decide +kernel⟩
theorem ok_Circles_is_open_ahead {f : Addr} {fd : FuncData} (F : Fun K "is_open_ahead" "Circles.is_open_ahead" tx_Circles_is_open_ahead f fd) (zabs : mg "abs" = none) (clCircles : Cls K Cc) (nCircles_ground : NoAttr K Cc "ground") (nCircles_crank : NoAttr K Cc "crank") (nCircles_nearest : NoAttr K Cc "nearest") :
    FnOk P w K mg base CX0 1 f fd ["self"] (spCi1 Cc FB.Ci.openAhead) := by
  refine F.ok sc_Circles_is_open_ahead (fun vs H Q E h => ?_) (fun cdv A outer s H vs Q E hr h => ?_)
  · obtain ⟨p, k0, rfl, _⟩ := h
    rfl
  · obtain ⟨p, k0, rfl, ⟨bd, dx, hp⟩, k⟩ := h
    refine ⟨_, (pss_one (ps_ret (pe_cmpR op_lt (pe_callB call_abs (by rfl) zabs PyProof.Rows.boot_abs (pa_cons (pe_op op_sub (pe_fld (pv 0) rfl) (pe_fld (pv 0) rfl)) pa_nil)) (pe_fld (pv 0) rfl) (nomark _)))), ?_⟩
    exact s_ret (ev_op (ev_abs (ev_op (ev_fld (ev_var rfl) hp clCircles nCircles_ground rfl) (ev_fld (ev_var rfl) hp clCircles nCircles_crank rfl) rv_I0)) (ev_fld (ev_var rfl) hp clCircles nCircles_nearest rfl) rv_I0) k
theorem sc_Place_is_before : FnScope ["self", "other"] ["self", "other"] (defScope tx_Place_is_before) := ⟨rfl, rfl, rfl, by decide +kernel, rfl, by decide +kernel, by decide +kernel⟩
theorem ok_Place_is_before {f : Addr} {fd : FuncData} (F : Fun K "is_before" "Place.is_before" tx_Place_is_before f fd) (clPlace : Cls K Pc) (nPlace_under : NoAttr K Pc "under") (nPlace_over : NoAttr K Pc "over") :
    FnOk P w K mg base CX0 1 f fd ["self", "other"] (spPl2 Pc FB.beforeI) := by
  refine F.ok sc_Place_is_before (fun vs H Q E h => ?_) (fun cdv A outer s H vs Q E hr h => ?_)
  · obtain ⟨p, q, P0, P2, rfl, _⟩ := h
    rfl
  · obtain ⟨p, q, P0, P2, rfl, ⟨bd, dx, hp⟩, ⟨bd2, dx2, hq⟩, k⟩ := h
    refine ⟨_, (pss_cons (ps_if (pt_cmpR op_eq (pe_fld (pv 0) rfl) pe_int (nomark _)) (pss_one (ps_ret pe_bl)) pss_nil)
      (pss_cons (ps_if (pt_cmpR op_eq (pe_fld (pv 1) rfl) pe_int (nomark _)) (pss_one (ps_ret pe_bl)) pss_nil)
      (pss_one (ps_ret (pe_cmpR op_lt (pe_op op_mul (pe_fld (pv 0) rfl) (pe_fld (pv 1) rfl)) (pe_op op_mul (pe_fld (pv 1) rfl) (pe_fld (pv 0) rfl)) (nomark _)))))), ?_⟩
    have b1 := bd.o1
    have b2 := bd.o2
    have b3 := bd2.o1
    have b4 := bd2.o2
    unfold FB.beforeI at k
    refine q_when (b := decide (P0.u = 0)) (et_is (et_test (ev_op (ev_fld (ev_var rfl) hp clPlace nPlace_under rfl) ev_c (rv_eq rfl))) (by simp)) (fun hb H1 e1 => ?_) (fun hb H1 e1 => ?_)
    · rw [if_pos (of_decide_eq_true hb)] at k
      exact s_ret ev_c (fun H2 e2 => k H2 (e1.trans e2))
    rw [if_neg (of_decide_eq_false hb)] at k
    replace hp := e1 _ _ hp
    replace hq := e1 _ _ hq
    refine q_when (b := decide (P2.u = 0)) (et_is (et_test (ev_op (ev_fld (ev_var rfl) hq clPlace nPlace_under rfl) ev_c (rv_eq rfl))) (by simp)) (fun hc H2 e2 => ?_) (fun hc H2 e2 => ?_)
    · rw [if_pos (of_decide_eq_true hc)] at k
      exact s_ret ev_c (fun H3 e3 => k H3 ((e1.trans e2).trans e3))
    rw [if_neg (of_decide_eq_false hc)] at k
    replace hp := e2 _ _ hp
    replace hq := e2 _ _ hq
    exact s_ret (ev_op (ev_op (ev_fld (ev_var rfl) hp clPlace nPlace_over rfl) (ev_fld (ev_var rfl) hq clPlace nPlace_under rfl) (rv_mul (by omega))) (ev_op (ev_fld (ev_var rfl) hq clPlace nPlace_over rfl) (ev_fld (ev_var rfl) hp clPlace nPlace_under rfl) (rv_mul (by omega))) rv_I0) (fun H3 e3 => k H3 ((e1.trans e2).trans e3))
theorem sc_Way_has_within : FnScope ["self", "place"] ["self", "place"] (defScope tx_Way_has_within) := ⟨rfl, rfl, rfl, by decide +kernel, rfl, by decide +kernel, by decide +kernel⟩
theorem ok_Way_has_within {f : Addr} {fd : FuncData} (F : Fun K "has_within" "Way.has_within" tx_Way_has_within f fd) (clPlace : Cls K Pc) (clWay : Cls K Wy) (nWay_first : NoAttr K Wy "first") (cPlace_is_before : Met P w K mg base 1 Pc "is_before" (spPl2 Pc FB.beforeI)) (nWay_last : NoAttr K Wy "last") :
    FnOk P w K mg base CX0 2 f fd ["self", "place"] (spWy Wy Pc FB.withinI) := by
  refine F.ok sc_Way_has_within (fun vs H Q E h => ?_) (fun cdv A outer s H vs Q E hr h => ?_)
  · obtain ⟨w0, dx, a, b, p, F0, L0, P0, rfl, _⟩ := h
    rfl
  · obtain ⟨w0, dx, a, b, p, F0, L0, P0, rfl, hw, hF, hL, hP, k⟩ := h
    refine ⟨_, (pss_cons (ps_if (pt_val (pe_met (pe_fld (pv 0) rfl) clPlace cPlace_is_before hr (by decide) passL (pa_cons (pe_fld (pv 0) rfl) pa_nil))) (pss_one (ps_ret (pe_and (pe_met (pe_fld (pv 0) rfl) clPlace cPlace_is_before hr (by decide) passL (pa_cons (pv 1) pa_nil)) (pe_one (pe_met (pv 1) clPlace cPlace_is_before hr (by decide) passL (pa_cons (pe_fld (pv 0) rfl) pa_nil)))))) pss_nil)
      (pss_one (ps_ret (pe_or (pe_met (pe_fld (pv 0) rfl) clPlace cPlace_is_before hr (by decide) passL (pa_cons (pv 1) pa_nil)) (pe_one (pe_met (pv 1) clPlace cPlace_is_before hr (by decide) passL (pa_cons (pe_fld (pv 0) rfl) pa_nil))))))), ?_⟩
    have hF' := hF
    have hP' := hP
    obtain ⟨_, dF, hF1⟩ := hF'
    obtain ⟨_, dP, hP1⟩ := hP'
    unfold FB.withinI at k
    refine q_when (b := FB.beforeI F0 L0) (et_val (ev_meth (ev_fld (ev_var rfl) hw clWay nWay_first rfl) hF1 (by with_unfolding_all rfl) (ea_cons (ev_fld (ev_var rfl) hw clWay nWay_last rfl) ea_nil) (spv_pl2 (f := FB.beforeI) hF hL))) (fun hb H1 e1 => ?_) (fun hb H1 e1 => ?_)
    · rw [if_pos hb] at k
      replace hw := e1 _ _ hw
      refine s_ret (ev_is (ev_andV (ev_meth (ev_fld (ev_var rfl) hw clWay nWay_first rfl) (e1 _ _ hF1) (by with_unfolding_all rfl) (ea_cons (ev_var rfl) ea_nil) (spv_pl2 (f := FB.beforeI) (hF.mono e1) (hP.mono e1))) fun _ => ev_meth (ev_var rfl) (e1 _ _ hP1) (by with_unfolding_all rfl) (ea_cons (ev_fld (ev_var rfl) hw clWay nWay_last rfl) ea_nil) (spv_pl2 (f := FB.beforeI) (hP.mono e1) (hL.mono e1))) (by rw [bb_and])) (fun H2 e2 => k H2 (e1.trans e2))
    · rw [if_neg (by rw [hb]; decide)] at k
      replace hw := e1 _ _ hw
      refine s_ret (ev_is (ev_orV (ev_meth (ev_fld (ev_var rfl) hw clWay nWay_first rfl) (e1 _ _ hF1) (by with_unfolding_all rfl) (ea_cons (ev_var rfl) ea_nil) (spv_pl2 (f := FB.beforeI) (hF.mono e1) (hP.mono e1))) fun _ => ev_meth (ev_var rfl) (e1 _ _ hP1) (by with_unfolding_all rfl) (ea_cons (ev_fld (ev_var rfl) hw clWay nWay_last rfl) ea_nil) (spv_pl2 (f := FB.beforeI) (hP.mono e1) (hL.mono e1))) (by rw [bb_or])) (fun H2 e2 => k H2 (e1.trans e2))
theorem sc_Way_has : FnScope ["self", "place"] ["self", "place"] (defScope tx_Way_has) := ⟨rfl, rfl, rfl, by decide +kernel, rfl, by decide +kernel, by decide +kernel⟩
theorem ok_Way_has {f : Addr} {fd : FuncData} (F : Fun K "has" "Way.has" tx_Way_has f fd) (clWay : Cls K Wy) (cWay_has_within : Met P w K mg base 2 Wy "has_within" (spWy Wy Pc FB.withinI)) (clPlace : Cls K Pc) (cPlace_is_same : Met P w K mg base 1 Pc "is_same" (spPl2 Pc FB.sameI)) (nWay_last : NoAttr K Wy "last") (nWay_first : NoAttr K Wy "first") :
    FnOk P w K mg base CX0 3 f fd ["self", "place"] (spWy Wy Pc FB.hasI) := by
  refine F.ok sc_Way_has (fun vs H Q E h => ?_) (fun cdv A outer s H vs Q E hr h => ?_)
  · obtain ⟨w0, dx, a, b, p, F0, L0, P0, rfl, _⟩ := h
    rfl
  · obtain ⟨w0, dx, a, b, p, F0, L0, P0, rfl, hw, hF, hL, hP, k⟩ := h
    refine ⟨_, (pss_one (ps_ret (pe_or (pe_met (pv 1) clPlace cPlace_is_same hr (by decide) passL (pa_cons (pe_fld (pv 0) rfl) pa_nil)) (pe_or (pe_met (pv 1) clPlace cPlace_is_same hr (by decide) passL (pa_cons (pe_fld (pv 0) rfl) pa_nil)) (pe_one (pe_met (pv 0) clWay cWay_has_within hr (by decide) passL (pa_cons (pv 1) pa_nil))))))), ?_⟩
    have hP' := hP
    obtain ⟨_, dP, hP1⟩ := hP'
    refine s_ret (ev_is (ev_orV (ev_meth (ev_var rfl) hP1 (by with_unfolding_all rfl) (ea_cons (ev_fld (ev_var rfl) hw clWay nWay_first rfl) ea_nil) (spv_pl2 (f := FB.sameI) hP hF)) fun _ => ev_orV (ev_meth (ev_var rfl) hP1 (by with_unfolding_all rfl) (ea_cons (ev_fld (ev_var rfl) hw clWay nWay_last rfl) ea_nil) (spv_pl2 (f := FB.sameI) hP hL)) fun _ => ev_meth (ev_var rfl) hw (by with_unfolding_all rfl) (ea_cons (ev_var rfl) ea_nil) (spv_wy (f := FB.withinI) hw hF hL hP)) ?_) k
    rw [bb_or, bb_or]
    rfl
theorem sc_Circles_is_open_behind : FnScope ["self"] ["self"] (defScope tx_Circles_is_open_behind) := ⟨rfl, rfl, rfl, by decide +kernel, rfl, by decide +kernel, by decide +kernel⟩
theorem ok_Circles_is_open_behind {f : Addr} {fd : FuncData} (F : Fun K "is_open_behind" "Circles.is_open_behind" tx_Circles_is_open_behind f fd) (clCircles : Cls K Cc) (nCircles_ground : NoAttr K Cc "ground") (nCircles_crank : NoAttr K Cc "crank") (nCircles_farthest : NoAttr K Cc "farthest") :
    FnOk P w K mg base CX0 1 f fd ["self"] (spCi1 Cc FB.Ci.openBehind) := by
  refine F.ok sc_Circles_is_open_behind (fun vs H Q E h => ?_) (fun cdv A outer s H vs Q E hr h => ?_)
  · obtain ⟨p, k0, rfl, _⟩ := h
    rfl
  · obtain ⟨p, k0, rfl, ⟨bd, dx, hp⟩, k⟩ := h
    refine ⟨_, (pss_one (ps_ret (pe_cmpR op_gt (pe_op op_add (pe_fld (pv 0) rfl) (pe_fld (pv 0) rfl)) (pe_fld (pv 0) rfl) (nomark _)))), ?_⟩
    exact s_ret (ev_op (ev_op (ev_fld (ev_var rfl) hp clCircles nCircles_ground rfl) (ev_fld (ev_var rfl) hp clCircles nCircles_crank rfl) rv_I0) (ev_fld (ev_var rfl) hp clCircles nCircles_farthest rfl) rv_I0) k
theorem sc_Circles_touch : FnScope ["self", "place", "found", "weight"] ["self", "place"] (defScope tx_Circles_touch) := ⟨rfl, rfl, rfl, by decide +kernel, rfl, by decide +kernel, by decide +kernel⟩
theorem ok_Circles_touch {f : Addr} {fd : FuncData} (F : Fun K "touch" "Circles.touch" tx_Circles_touch f fd) (clCircles : Cls K Cc) (cCircles_square : Met P w K mg base 3 Cc "square" (spCi2 Cc Pc fSq)) (clPlace : Cls K Pc) (cPlace_weight : Met P w K mg base 1 Pc "weight" (spPlW Pc)) (nCircles_farthest : NoAttr K Cc "farthest") (nCircles_nearest : NoAttr K Cc "nearest") :
    FnOk P w K mg base CX0 4 f fd ["self", "place"] (spCi2 Cc Pc fTo) := by
  refine F.ok sc_Circles_touch (fun vs H Q E h => ?_) (fun cdv A outer s H vs Q E hr h => ?_)
  · obtain ⟨p, q, k0, P0, rfl, _⟩ := h
    rfl
  · obtain ⟨p, q, k0, P0, rfl, hC, hP, k⟩ := h
    refine ⟨_, (pss_cons (ps_set (i := 2) sc_Circles_touch.nd rfl (Or.inl rfl) (pe_met (pv 0) clCircles cCircles_square hr (by decide) passL (pa_cons (pv 1) pa_nil)))
      (pss_cons (ps_set (i := 3) sc_Circles_touch.nd rfl (Or.inl rfl) (pe_met0 (pv 1) clPlace cPlace_weight hr (by decide) passL))
      (pss_one (ps_ret (pe_or (pe_cmpR op_eq (pv 2) (pe_op op_mul (pe_op op_mul (pe_fld (pv 0) rfl) (pe_fld (pv 0) rfl)) (pv 3)) (nomark _)) (pe_one (pe_cmpR op_eq (pv 2) (pe_op op_mul (pe_op op_mul (pe_fld (pv 0) rfl) (pe_fld (pv 0) rfl)) (pv 3)) (nomark _)))))))), ?_⟩
    have hC' := hC
    have hP' := hP
    obtain ⟨bd, dx, hp⟩ := hC'
    obtain ⟨bd2, dx2, hq⟩ := hP'
    have n1 := bd.n
    have n2 := bd.f
    have m1 := mul_bd (x := k0.near) (y := k0.near) (m := 1998) (n := 1998) n1 n1
    have m2 := mul_bd (x := k0.far) (y := k0.far) (m := 1998) (n := 1998) n2 n2
    refine q_asg (ev_meth (ev_var rfl) hp (by with_unfolding_all rfl) (ea_cons (ev_var rfl) ea_nil) (spv_ci2 (f := fSq) hC hP)) (fun H1 e1 => ?_)
    refine q_asg (ev_meth (ev_var rfl) (e1 _ _ hq) (by with_unfolding_all rfl) ea_nil (spv_wt (hP.mono e1))) (fun H2 e2 => ?_)
    have hp2 := e2 _ _ (e1 _ _ hp)
    refine s_ret (v := .bl (k0.touch P0)) (ev_is (ev_orV (ev_is (ev_op (ev_var rfl) (ev_op (ev_op (ev_fld (ev_var rfl) hp2 clCircles nCircles_nearest rfl) (ev_fld (ev_var rfl) hp2 clCircles nCircles_nearest rfl) (rv_mul (by omega))) (ev_var rfl) (rv_mul (by omega))) (rv_eq rfl)) (show _ = V.bl (decide (k0.sq P0 = k0.near * k0.near * P0.wt)) by simp)) fun _ => ev_is (ev_op (ev_var rfl) (ev_op (ev_op (ev_fld (ev_var rfl) hp2 clCircles nCircles_farthest rfl) (ev_fld (ev_var rfl) hp2 clCircles nCircles_farthest rfl) (rv_mul (by omega))) (ev_var rfl) (rv_mul (by omega))) (rv_eq rfl)) (show _ = V.bl (decide (k0.sq P0 = k0.far * k0.far * P0.wt)) by simp)) ?_) (fun H3 e3 => k H3 ((e1.trans e2).trans e3))
    rw [or_ifB]
    rfl
theorem sc_driven : FnScope ["lengths", "first", "side", "left", "last", "circles", "way", "ahead", "behind"] ["lengths", "first", "side", "left", "last"] (defScope tx_driven) := ⟨rfl, rfl, rfl, by decide +kernel, rfl, by decide +kernel, by decide +kernel⟩
theorem ok_driven {f : Addr} {fd : FuncData} (F : Fun K "driven" "driven" tx_driven f fd) (cCircles_new : Mak P w K mg base 1 "Circles" Cc (spCiN Cc)) (cmust : Cal P w K mg base 3 "must" (spMust R)) (clCircles : Cls K Cc) (cCircles_closes : Met P w K mg base 5 Cc "closes" (spCi2 Cc Pc fCl)) (clPlace : Cls K Pc) (cPlace_is_same : Met P w K mg base 1 Pc "is_same" (spPl2 Pc FB.sameI)) (cway_of : Cal P w K mg base 3 "way_of" (spWO Wy)) (cPlace_new : Mak P w K mg base 4 "Place" Pc (spPlN R Pc)) (cCircles_is_let : Met P w K mg base 4 Cc "is_let" (spCi2 Cc Pc fLet)) (cCircles_is_open_ahead : Met P w K mg base 1 Cc "is_open_ahead" (spCi1 Cc FB.Ci.openAhead)) (clWay : Cls K Wy) (cWay_has : Met P w K mg base 3 Wy "has" (spWy Wy Pc FB.hasI)) (cCircles_is_open_behind : Met P w K mg base 1 Cc "is_open_behind" (spCi1 Cc FB.Ci.openBehind)) (zabs : mg "abs" = none) (nCircles_ground : NoAttr K Cc "ground") (nCircles_crank : NoAttr K Cc "crank") (nCircles_nearest : NoAttr K Cc "nearest") (cWay_has_within : Met P w K mg base 2 Wy "has_within" (spWy Wy Pc FB.withinI)) (nCircles_farthest : NoAttr K Cc "farthest") (cCircles_square : Met P w K mg base 3 Cc "square" (spCi2 Cc Pc fSq)) (cCircles_touch : Met P w K mg base 4 Cc "touch" (spCi2 Cc Pc fTo)) :
    FnOk P w K mg base (L2.CX P w) 6 f fd ["lengths", "first", "side", "left", "last"] (spDr R Pc) := by
  refine F.okX sc_driven (fun vs H Q E h => ?_) (fun cdv A outer s H vs Q E hr h => ?_)
  · obtain ⟨l, f0, la, s0, left, g, a, c, r, F0, L0, rfl, _⟩ := h
    rfl
  · obtain ⟨l, f0, la, s0, left, g, a, c, r, F0, L0, rfl, hl, ok, hF, hL, hs, k1, k2⟩ := h
    refine ⟨_, (pss_cons (ps_set (i := 5) sc_driven.nd rfl (Or.inl rfl) (pe_mak cCircles_new hr (by decide) passL (pa_cons (pv 0) pa_nil)))
      (pss_cons (ps_expr (pe_cal cmust hr (by decide) (passE (takes_of rfl rfl rfl rfl)) (pa_cons (pe_met (pv 5) clCircles cCircles_closes hr (by decide) passL (pa_cons (pv 1) pa_nil)) (pa_cons (pe_un un_neg pe_int) pa_nil))))
      (pss_cons (ps_if (pt_not (pt_val (pe_met (pv 1) clPlace cPlace_is_same hr (by decide) passL (pa_cons (pv 4) pa_nil)))) (pss_cons (ps_set (i := 6) sc_driven.nd rfl (Or.inl rfl) (pe_cal cway_of hr (by decide) passL (pa_cons (pv 1) (pa_cons (pv 4) (pa_cons (pv 3) pa_nil)))))
      (pss_cons (ps_set (i := 7) sc_driven.nd rfl (Or.inl rfl) (pe_mak cPlace_new hr (by decide) (passE (takes_of rfl rfl rfl rfl)) (pa_cons pe_int (pa_cons pe_int pa_nil))))
      (pss_cons (ps_set (i := 8) sc_driven.nd rfl (Or.inl rfl) (pe_mak cPlace_new hr (by decide) (passE (takes_of rfl rfl rfl rfl)) (pa_cons pe_int (pa_cons pe_int pa_nil))))
      (pss_cons (ps_expr (pe_cal cmust hr (by decide) (passE (takes_of rfl rfl rfl rfl)) (pa_cons (pe_met (pv 5) clCircles cCircles_is_let hr (by decide) passL (pa_cons (pv 4) pa_nil)) (pa_cons (pe_un un_neg pe_int) pa_nil))))
      (pss_cons (ps_expr (pe_cal cmust hr (by decide) (passE (takes_of rfl rfl rfl rfl)) (pa_cons (pe_not (pe_and (pe_met (pv 6) clWay cWay_has hr (by decide) passL (pa_cons (pv 7) pa_nil)) (pe_one (pe_met0 (pv 5) clCircles cCircles_is_open_ahead hr (by decide) passL)))) (pa_cons (pe_un un_neg pe_int) pa_nil))))
      (pss_cons (ps_expr (pe_cal cmust hr (by decide) (passE (takes_of rfl rfl rfl rfl)) (pa_cons (pe_not (pe_and (pe_met (pv 6) clWay cWay_has hr (by decide) passL (pa_cons (pv 8) pa_nil)) (pe_one (pe_met0 (pv 5) clCircles cCircles_is_open_behind hr (by decide) passL)))) (pa_cons (pe_un un_neg pe_int) pa_nil))))
      (pss_cons (ps_expr (pe_cal cmust hr (by decide) (passE (takes_of rfl rfl rfl rfl)) (pa_cons (pe_or (pe_not (pe_met (pv 6) clWay cWay_has_within hr (by decide) passL (pa_cons (pv 7) pa_nil))) (pe_one (pe_cmpR op_ne (pe_callB call_abs (by rfl) zabs PyProof.Rows.boot_abs (pa_cons (pe_op op_sub (pe_fld (pv 5) rfl) (pe_fld (pv 5) rfl)) pa_nil)) (pe_fld (pv 5) rfl) (nomark _)))) (pa_cons (pe_un un_neg pe_int) pa_nil))))
      (pss_cons (ps_expr (pe_cal cmust hr (by decide) (passE (takes_of rfl rfl rfl rfl)) (pa_cons (pe_or (pe_not (pe_met (pv 6) clWay cWay_has_within hr (by decide) passL (pa_cons (pv 8) pa_nil))) (pe_one (pe_cmpR op_ne (pe_op op_add (pe_fld (pv 5) rfl) (pe_fld (pv 5) rfl)) (pe_fld (pv 5) rfl) (nomark _)))) (pa_cons (pe_un un_neg pe_int) pa_nil))))
      (pss_one (ps_expr (pe_cal cmust hr (by decide) (passE (takes_of rfl rfl rfl rfl)) (pa_cons (pe_cmpR op_gt (pe_met (pv 5) clCircles cCircles_square hr (by decide) passL (pa_cons (pv 4) pa_nil)) pe_int (nomark _)) (pa_cons (pe_un un_neg pe_int) pa_nil))))))))))))) pss_nil)
      (pss_cons (ps_if (pt_val (pe_met (pv 5) clCircles cCircles_touch hr (by decide) passL (pa_cons (pv 4) pa_nil))) (pss_one (ps_ret pe_int)) pss_nil)
      (pss_one (ps_ret (pv 2))))))), ?_⟩
    have bc := bdc_of ok
    refine q_asgO (eo_circles (g := g) (a := a) (c := c) (r := r) (ev_var rfl) hl) (fun ci dc H1 _ e1 hc => ?_)
    generalize FB.ciOf g a c r = kk at *
    have hC : CiAt Cc H1 ci kk := ⟨bc, dc, hc⟩
    unfold FB.drivenI at k1 k2
    dsimp only at k1 k2
    have hF1 := hF.mono e1
    have hL1 := hL.mono e1
    refine q_must (b := kk.closes F0) (n := -3) (ea_cons (ev_meth (ev_var rfl) hc (by with_unfolding_all rfl) (ea_cons (ev_var rfl) ea_nil) (spv_ci2 (f := fCl) hC hF1)) (ea_cons (ev_neg ev_c) ea_nil)) (fun h3 H2 e2 => ?_) (fun h3 H2 e2 => ?_)
    case refine_2 =>
      rw [if_pos h3] at k2
      exact (k2 (by decide)).go (e1.trans e2)
    rw [if_neg (by rw [h3]; decide)] at k1 k2
    have e12 := e1.trans e2
    have hC2 := hC.mono e2
    have hF2 := hF1.mono e2
    have hL2 := hL1.mono e2
    have hF2' := hF2
    obtain ⟨_, dF, pF2⟩ := hF2'
    refine q_when (b := !FB.sameI F0 L0) (et_not (et_val (ev_meth (ev_var rfl) pF2 (by with_unfolding_all rfl) (ea_cons (ev_var rfl) ea_nil) (spv_pl2 (f := FB.sameI) hF2 hL2)))) (fun hsm H3 e3 => ?_) (fun hsm H3 e3 => ?_)
    case refine_2 =>
      have hsm' : FB.sameI F0 L0 = true := by simpa using hsm
      rw [if_pos hsm'] at k1
      refine rest_ok (c := ci) (la := la) (k := kk) (L := L0) (s := s0) rfl rfl rfl (hC2.mono e3) (hL2.mono e3) (fun H4 e4 => ?_)
      refine k1 ?_ H4 ((e12.trans e3).trans e4)
      split <;> omega
    have hsm' : ¬ FB.sameI F0 L0 = true := by simpa using hsm
    rw [if_neg hsm'] at k1 k2
    have e13 := e12.trans e3
    have hC3 := hC2.mono e3
    have hF3 := hF2.mono e3
    have hL3 := hL2.mono e3
    refine q_asgO (eo_wayof (left := left) (ea_cons (ev_var rfl) (ea_cons (ev_var rfl) (ea_cons (ev_var rfl) ea_nil)))) (fun wy dw H4 _ e4 hw => ?_)
    refine q_place (o := 0) (u := 1) (ea_cons ev_c (ea_cons ev_c ea_nil)) (fun _ ah H5 e5 hA => ?_) (fun bad => absurd bad (by decide))
    refine q_place (o := 1) (u := 0) (ea_cons ev_c (ea_cons ev_c ea_nil)) (fun _ be H6 e6 hB => ?_) (fun bad => absurd bad (by decide))
    have eA : FB.mkPl 0 1 = FB.ahead := rfl
    have eB : FB.mkPl 1 0 = FB.behind := rfl
    rw [eA] at hA
    rw [eB] at hB
    have e46 : Ex H3 H6 := (e4.trans e5).trans e6
    have e16 := e13.trans e46
    have hA6 := hA.mono e6
    have hw6 := e6 _ _ (e5 _ _ hw)
    have hC6 := hC3.mono e46
    have hF6 := hF3.mono e46
    have hL6 := hL3.mono e46
    have hX : PlAt Pc H6 (if left = 1 then f0 else la) (if left = 1 then F0 else L0) := by split <;> assumption
    have hY : PlAt Pc H6 (if left = 1 then la else f0) (if left = 1 then L0 else F0) := by split <;> assumption
    generalize (if left = 1 then F0 else L0) = X0 at *
    generalize (if left = 1 then L0 else F0) = Y0 at *
    generalize (if left = 1 then f0 else la) = xa at *
    generalize (if left = 1 then la else f0) = ya at *
    have hC6' := hC6
    obtain ⟨_, dc6, hc6⟩ := hC6'
    refine q_must (b := kk.isLet L0) (n := -4) (ea_cons (ev_meth (ev_var rfl) hc6 (by with_unfolding_all rfl) (ea_cons (ev_var rfl) ea_nil) (spv_ci2 (f := fLet) hC6 hL6)) (ea_cons (ev_neg ev_c) ea_nil)) (fun h4 H7 e7 => ?_) (fun h4 H7 e7 => ?_)
    case refine_2 =>
      rw [if_pos h4] at k2
      exact (k2 (by decide)).go (e16.trans e7)
    rw [if_neg (by rw [h4]; decide)] at k1 k2
    refine q_must (b := !(FB.hasI X0 Y0 FB.ahead && kk.openAhead)) (n := -4) (ea_cons (ev_notV (ev_andV (ev_meth (ev_var rfl) (e7 _ _ hw6) (by with_unfolding_all rfl) (ea_cons (ev_var rfl) ea_nil) (spv_wy (f := FB.hasI) (e7 _ _ hw6) (hX.mono e7) (hY.mono e7) (hA6.mono e7))) fun _ => ev_meth (ev_var rfl) (e7 _ _ hc6) (by with_unfolding_all rfl) ea_nil (spv_ci1 (hC6.mono e7)))) (ea_cons (ev_neg ev_c) ea_nil)) (fun h5 H8 e8 => ?_) (fun h5 H8 e8 => ?_)
    case refine_2 =>
      have h5' : (FB.hasI X0 Y0 FB.ahead && kk.openAhead) = true := by simpa using h5
      rw [bb_and] at h5'
      rw [if_pos h5'] at k2
      exact (k2 (by decide)).go ((e16.trans e7).trans e8)
    have h5' : ¬ (if FB.hasI X0 Y0 FB.ahead = true then kk.openAhead else false) = true := by rw [← bb_and]; intro z; rw [z] at h5; exact absurd h5 (by decide)
    rw [if_neg h5'] at k1 k2
    have e68 := e7.trans e8
    refine q_must (b := !(FB.hasI X0 Y0 FB.behind && kk.openBehind)) (n := -4) (ea_cons (ev_notV (ev_andV (ev_meth (ev_var rfl) (e68 _ _ hw6) (by with_unfolding_all rfl) (ea_cons (ev_var rfl) ea_nil) (spv_wy (f := FB.hasI) (e68 _ _ hw6) (hX.mono e68) (hY.mono e68) (hB.mono e68))) fun _ => ev_meth (ev_var rfl) (e68 _ _ hc6) (by with_unfolding_all rfl) ea_nil (spv_ci1 (hC6.mono e68)))) (ea_cons (ev_neg ev_c) ea_nil)) (fun h6 H9 e9 => ?_) (fun h6 H9 e9 => ?_)
    case refine_2 =>
      have h6' : (FB.hasI X0 Y0 FB.behind && kk.openBehind) = true := by simpa using h6
      rw [bb_and] at h6'
      rw [if_pos h6'] at k2
      exact (k2 (by decide)).go ((e16.trans e68).trans e9)
    have h6' : ¬ (if FB.hasI X0 Y0 FB.behind = true then kk.openBehind else false) = true := by rw [← bb_and]; intro z; rw [z] at h6; exact absurd h6 (by decide)
    rw [if_neg h6'] at k1 k2
    have e69 := e68.trans e9
    have hc9 := e69 _ _ hc6
    refine q_must (b := !FB.withinI X0 Y0 FB.ahead || !decide (FB.ab (kk.g - kk.a) = kk.near)) (n := -5) (ea_cons (ev_orV (ev_notV (ev_meth (ev_var rfl) (e69 _ _ hw6) (by with_unfolding_all rfl) (ea_cons (ev_var rfl) ea_nil) (spv_wy (f := FB.withinI) (e69 _ _ hw6) (hX.mono e69) (hY.mono e69) (hA6.mono e69)))) fun _ => ev_is (ev_op (ev_abs (ev_op (ev_fld (ev_var rfl) hc9 clCircles nCircles_ground rfl) (ev_fld (ev_var rfl) hc9 clCircles nCircles_crank rfl) rv_I0)) (ev_fld (ev_var rfl) hc9 clCircles nCircles_nearest rfl) (rv_ne rfl)) (by simp)) (ea_cons (ev_neg ev_c) ea_nil)) (fun h7 H10 e10 => ?_) (fun h7 H10 e10 => ?_)
    case refine_2 =>
      have h7' : FB.withinI X0 Y0 FB.ahead = true ∧ FB.ab (kk.g - kk.a) = kk.near := by simpa using h7
      rw [if_pos h7'] at k2
      exact (k2 (by decide)).go ((e16.trans e69).trans e10)
    have h7' : ¬ (FB.withinI X0 Y0 FB.ahead = true ∧ FB.ab (kk.g - kk.a) = kk.near) := by
      rintro ⟨z1, z2⟩
      rw [z1, z2] at h7
      simp at h7
    rw [if_neg h7'] at k1 k2
    have e610 := e69.trans e10
    have hc10 := e610 _ _ hc6
    refine q_must (b := !FB.withinI X0 Y0 FB.behind || !decide (kk.g + kk.a = kk.far)) (n := -5) (ea_cons (ev_orV (ev_notV (ev_meth (ev_var rfl) (e610 _ _ hw6) (by with_unfolding_all rfl) (ea_cons (ev_var rfl) ea_nil) (spv_wy (f := FB.withinI) (e610 _ _ hw6) (hX.mono e610) (hY.mono e610) (hB.mono e610)))) fun _ => ev_is (ev_op (ev_op (ev_fld (ev_var rfl) hc10 clCircles nCircles_ground rfl) (ev_fld (ev_var rfl) hc10 clCircles nCircles_crank rfl) rv_I0) (ev_fld (ev_var rfl) hc10 clCircles nCircles_farthest rfl) (rv_ne rfl)) (by simp)) (ea_cons (ev_neg ev_c) ea_nil)) (fun h8 H11 e11 => ?_) (fun h8 H11 e11 => ?_)
    case refine_2 =>
      have h8' : FB.withinI X0 Y0 FB.behind = true ∧ kk.g + kk.a = kk.far := by simpa using h8
      rw [if_pos h8'] at k2
      exact (k2 (by decide)).go ((e16.trans e610).trans e11)
    have h8' : ¬ (FB.withinI X0 Y0 FB.behind = true ∧ kk.g + kk.a = kk.far) := by
      rintro ⟨z1, z2⟩
      rw [z1, z2] at h8
      simp at h8
    rw [if_neg h8'] at k1 k2
    have e611 := e610.trans e11
    refine s_must (b := decide (0 < kk.sq L0)) (n := -5) (ea_cons (ev_op (ev_meth (ev_var rfl) (e611 _ _ hc6) (by with_unfolding_all rfl) (ea_cons (ev_var rfl) ea_nil) (spv_ci2 (f := fSq) (hC6.mono e611) (hL6.mono e611))) ev_c rv_I0) (ea_cons (ev_neg ev_c) ea_nil)) (fun h9 H12 e12' => ?_) (fun h9 H12 e12' => ?_)
    case refine_2 =>
      have h9' : ¬ kk.sq L0 > 0 := of_decide_eq_false h9
      rw [if_pos h9'] at k2
      exact (k2 (by decide)).go ((e16.trans e611).trans e12')
    rw [if_neg (not_not_intro (of_decide_eq_true h9 : kk.sq L0 > 0))] at k1
    have e612 := e611.trans e12'
    refine rest_ok (c := ci) (la := la) (k := kk) (L := L0) (s := s0) rfl rfl rfl (hC6.mono e612) (hL6.mono e612) (fun H13 e13' => ?_)
    refine k1 ?_ H13 ((e16.trans e612).trans e13')
    split <;> omega
theorem sc_drive : FnScope ["g", "a", "c", "r", "p", "q", "s", "left", "p2", "q2", "bars", "first", "last", "refusal"] ["g", "a", "c", "r", "p", "q", "s", "left", "p2", "q2"] (defScope tx_drive) := ⟨rfl, rfl, rfl, by decide +kernel, rfl, by decide +kernel, by decide +kernel⟩
theorem ok_drive {f : Addr} {fd : FuncData} (F : Fun K "drive" "drive" tx_drive f fd) (gR : mg "Refused" = some (.ref R)) (xR : XfC K R) (hno : PySem.W.findIn K (.ref R) "code" = some none) (eR : PySem.W.exmOne K (.ref R) (.ref R) = some true) (cBars_new : Mak P w K mg base 4 "Bars" B (spBI R B)) (cPlace_new : Mak P w K mg base 4 "Place" Pc (spPlN R Pc)) (cmust : Cal P w K mg base 3 "must" (spMust R)) (cdriven : Cal P w K mg base 6 "driven" (spDr R Pc)) (clBars : Cls K B) (nBars_lengths : NoAttr K B "lengths") :
    FnOk P w K mg base CX0 7 f fd ["g", "a", "c", "r", "p", "q", "s", "left", "p2", "q2"] (spDrive) := by
  refine F.ok sc_drive (fun vs H Q E h => ?_) (fun cdv A outer s H vs Q E hr h => ?_)
  · obtain ⟨g, a, c, r, p, q, s0, left, p2, q2, rfl, _⟩ := h
    rfl
  · obtain ⟨g, a, c, r, p, q, s0, left, p2, q2, rfl, hs, k⟩ := h
    refine ⟨_, (pss_one (ps_try_as (i := 13) (ts := tsR R 13) (Wout := fun _ _ _ _ => False) rfl rfl sc_drive.nd rfl rfl ⟨rfl, by decide, Or.inl gR⟩ takes0
      (fun W pn xe tk _ => (pss_cons (ps_set (i := 10) sc_drive.nd rfl (Or.inl rfl) (pe_mak cBars_new hr (by decide) (passLen (n := 14) tk rfl) (pa_cons (pe_lst (pa_cons (pv 0) (pa_cons (pv 1) (pa_cons (pv 2) (pa_cons (pv 3) pa_nil))))) pa_nil)))
      (pss_cons (ps_set (i := 11) sc_drive.nd rfl (Or.inl rfl) (pe_mak cPlace_new hr (by decide) (passLen (n := 14) tk rfl) (pa_cons (pv 4) (pa_cons (pv 5) pa_nil))))
      (pss_cons (ps_set (i := 12) sc_drive.nd rfl (Or.inl rfl) (pe_mak cPlace_new hr (by decide) (passLen (n := 14) tk rfl) (pa_cons (pv 8) (pa_cons (pv 9) pa_nil))))
      (pss_cons (ps_expr (pe_cal cmust hr (by decide) (passLen (n := 14) tk rfl) (pa_cons (pe_and (pe_cmpR op_le (pv 6) pe_int (nomark _)) (pe_one (pe_cmpR op_le (pv 7) pe_int (nomark _)))) (pa_cons (pe_un un_neg pe_int) pa_nil))))
      (pss_one (ps_ret (pe_lst (pa_cons (pe_cal cdriven hr (by decide) (passLen (n := 14) tk rfl) (pa_cons (pe_fldK (K := K) rfl (pv 10) rfl) (pa_cons (pv 11) (pa_cons (pv 6) (pa_cons (pv 7) (pa_cons (pv 12) pa_nil)))))) pa_nil)))))))))
      (fun a0 oe cls d pn hz hf => (pss_one (ps_ret (pe_lst (pa_cons (pe_xf xR hno hz hf (pv 13)) pa_nil))))))), ?_⟩
    unfold FB.ansDrive at k
    refine q_bars (g := g) (a := a) (c := c) (r := r) (ev4 rfl rfl rfl rfl) (fun ok b H1 hp e1 hb => ?_) (fun bad => caught eR (by decide) (by rw [if_pos bad] at k; exact k))
    rw [if_neg (by rw [ok]; decide)] at k
    refine q_place (o := p) (u := q) (ea_cons (ev_var rfl) (ea_cons (ev_var rfl) ea_nil)) (fun okp pl H2 e2 hpl => ?_) (fun bad => caught eR (by decide) (by rw [if_pos bad] at k; exact k))
    rw [if_neg (by rw [okp]; decide)] at k
    refine q_place (o := p2) (u := q2) (ea_cons (ev_var rfl) (ea_cons (ev_var rfl) ea_nil)) (fun okq pl2 H3 e3 hpl2 => ?_) (fun bad => caught eR (by decide) (by rw [if_pos bad] at k; exact k))
    rw [if_neg (by rw [okq]; decide)] at k
    refine q_must (b := decide (s0 ≤ 1) && decide (left ≤ 1)) (n := -1) (ea_cons (ev_andV (ev_op (ev_var rfl) ev_c rv_I0) fun _ => ev_op (ev_var rfl) ev_c rv_I0) (ea_cons (ev_neg ev_c) ea_nil)) (fun hz H4 e4 => ?_) (fun hz H4 e4 => caught eR (by decide) (by
      have hz' : ¬ (s0 ≤ 1 ∧ left ≤ 1) := by rintro ⟨z1, z2⟩; rw [decide_eq_true z1, decide_eq_true z2] at hz; cases hz
      rw [if_pos hz'] at k
      exact k))
    have hz' : s0 ≤ 1 ∧ left ≤ 1 := by simpa using hz
    rw [if_neg (not_not_intro hz')] at k
    have hb4 := ((hb.mono e2).mono e3).mono e4
    obtain ⟨dx, l, b1, b2⟩ := hb4
    refine r_calR (vs := [.ref l, .ref pl, .int s0, .int left, .ref pl2]) (ea_cons (ev_fld (ev_var rfl) b1 clBars nBars_lengths rfl) (ea_cons (ev_var rfl) (ea_cons (ev_var rfl) (ea_cons (ev_var rfl) (ea_cons (ev_var rfl) ea_nil))))) (fun H5 e5 => ?_) (fun Q1 Q2 hQ H5 h5 => ?_)
    · refine ⟨l, pl, pl2, s0, left, g, a, c, r, FB.mkPl p q, FB.mkPl p2 q2, rfl, e5 _ _ b2, ok, ((hpl.mono e3).mono e4).mono e5, (hpl2.mono e4).mono e5, hs, fun _ H6 e6 p0 hp0 => k p0 _ upd_same, fun _ => caught eR (by decide) k⟩
    · obtain ⟨l', f', la', s', left', g', a', c', r', F', L', z1, z2, z3, z4, z5, z6, z7, z8⟩ := h5
      exact ⟨l', f', la', s', left', g', a', c', r', F', L', z1, z2, z3, z4, z5, z6, fun q7 H6 e6 => hQ _ _ (z7 q7 H6 e6), z8⟩
theorem all_mk {h : Heap} {fa f_Refused_new f_must f_Bars_new f_Place_new f_Circles_new f_Place_weight f_Place_square f_Circles_square f_Circles_is_let f_Circles_closes f_Place_is_same f_Way_new f_way_of f_Circles_is_open_ahead f_Place_is_before f_Way_has_within f_Way_has f_Circles_is_open_behind f_Circles_touch f_driven f_drive : Addr} (X : K.In h) (G : h.Ns mainGlobals mg) (hfa : mg "drive" = some (.ref fa))
    {nm qn : Str} {NN : Addr} {bs : List Value} {sn : List Str} {sub : List Value} {ab : Bool} {col : Option Bool} {dd : Option Addr} {m0 m1 m2 m3 m5 : Option Value} {tkgMOST_LENGTH tkgMOST_PLACE : Tok} {od_Refused_new an_Refused_new od_must an_must od_Bars_new an_Bars_new od_Place_new an_Place_new od_Circles_new an_Circles_new od_Place_weight an_Place_weight od_Place_square an_Place_square od_Circles_square an_Circles_square od_Circles_is_let an_Circles_is_let od_Circles_closes an_Circles_closes od_Place_is_same an_Place_is_same od_Way_new an_Way_new od_way_of an_way_of od_Circles_is_open_ahead an_Circles_is_open_ahead od_Place_is_before an_Place_is_before od_Way_has_within an_Way_has_within od_Way_has an_Way_has od_Circles_is_open_behind an_Circles_is_open_behind od_Circles_touch an_Circles_touch od_driven an_driven od_drive an_drive : Option Addr} {sl_Refused_new sl_must sl_Bars_new sl_Place_new sl_Circles_new sl_Place_weight sl_Place_square sl_Circles_square sl_Circles_is_let sl_Circles_closes sl_Place_is_same sl_Way_new sl_way_of sl_Circles_is_open_ahead sl_Place_is_before sl_Way_has_within sl_Way_has sl_Circles_is_open_behind sl_Circles_touch sl_driven sl_drive : Array (Option Value)} {oc_Refused_new kv_Refused_new dc_Refused_new pm_Refused_new cd_Refused_new ct_Refused_new oc_must kv_must dc_must pm_must cd_must ct_must oc_Bars_new kv_Bars_new dc_Bars_new pm_Bars_new cd_Bars_new ct_Bars_new oc_Place_new kv_Place_new dc_Place_new pm_Place_new cd_Place_new ct_Place_new oc_Circles_new kv_Circles_new dc_Circles_new pm_Circles_new cd_Circles_new ct_Circles_new oc_Place_weight kv_Place_weight dc_Place_weight pm_Place_weight cd_Place_weight ct_Place_weight oc_Place_square kv_Place_square dc_Place_square pm_Place_square cd_Place_square ct_Place_square oc_Circles_square kv_Circles_square dc_Circles_square pm_Circles_square cd_Circles_square ct_Circles_square oc_Circles_is_let kv_Circles_is_let dc_Circles_is_let pm_Circles_is_let cd_Circles_is_let ct_Circles_is_let oc_Circles_closes kv_Circles_closes dc_Circles_closes pm_Circles_closes cd_Circles_closes ct_Circles_closes oc_Place_is_same kv_Place_is_same dc_Place_is_same pm_Place_is_same cd_Place_is_same ct_Place_is_same oc_Way_new kv_Way_new dc_Way_new pm_Way_new cd_Way_new ct_Way_new oc_way_of kv_way_of dc_way_of pm_way_of cd_way_of ct_way_of oc_Circles_is_open_ahead kv_Circles_is_open_ahead dc_Circles_is_open_ahead pm_Circles_is_open_ahead cd_Circles_is_open_ahead ct_Circles_is_open_ahead oc_Place_is_before kv_Place_is_before dc_Place_is_before pm_Place_is_before cd_Place_is_before ct_Place_is_before oc_Way_has_within kv_Way_has_within dc_Way_has_within pm_Way_has_within cd_Way_has_within ct_Way_has_within oc_Way_has kv_Way_has dc_Way_has pm_Way_has cd_Way_has ct_Way_has oc_Circles_is_open_behind kv_Circles_is_open_behind dc_Circles_is_open_behind pm_Circles_is_open_behind cd_Circles_is_open_behind ct_Circles_is_open_behind oc_Circles_touch kv_Circles_touch dc_Circles_touch pm_Circles_touch cd_Circles_touch ct_Circles_touch oc_driven kv_driven dc_driven pm_driven cd_driven ct_driven oc_drive kv_drive dc_drive pm_drive cd_drive ct_drive : Value}
    (aR : PySem.W.nsIn K mainGlobals "Refused" = some (some (.ref R)))
    (xL : K.lookup R = some (excClassObj nm qn R NN bs [.type "ValueError", .type "Exception", .type "BaseException", .type "object"] true sn sub ab col dd m0 m1 m2 m3 m5 "ValueError.__new__"))
    (sa : PySem.W.findIn K (.ref R) "__setattr__" = some (some (.builtin "object.__setattr__")))
    (ga : PySem.W.findIn K (.ref R) "__getattribute__" = some (some (.builtin "BaseException.__getattribute__")))
    (gg : PySem.W.findIn K (.ref R) "__getattr__" = some none)
    (nb : PySem.W.findIn K (.ref R) "code" = some none)
    (kR : PySem.W.keepIn K (.ref R) = true)
    (bR : PySem.W.subIn K (.ref R) (.type "BaseException") = some true)
    (tyR : PySem.W.typeIn K (.ref R) = some (.type "type"))
    (hdR : PySem.W.hasDictIn K R = true)
    (isR : PySem.W.isClsIn K R = true)
    (suR : PySem.W.subIn K (.ref R) (.ref R) = some true)
    (aB : PySem.W.nsIn K mainGlobals "Bars" = some (some (.ref B)))
    (pgB : PySem.W.plainGet K B Str.empty = true)
    (hdB : PySem.W.hasDictIn K B = true)
    (poB : PySem.W.plainOver K B = true)
    (saB : PySem.W.findIn K (.ref B) "__setattr__" = some (some (.builtin "object.__setattr__")))
    (mkB : PySem.W.makesIn K B = true)
    (kcB : PySem.W.keepIn K (.ref B) = true)
    (aPc : PySem.W.nsIn K mainGlobals "Place" = some (some (.ref Pc)))
    (pgPc : PySem.W.plainGet K Pc Str.empty = true)
    (hdPc : PySem.W.hasDictIn K Pc = true)
    (poPc : PySem.W.plainOver K Pc = true)
    (saPc : PySem.W.findIn K (.ref Pc) "__setattr__" = some (some (.builtin "object.__setattr__")))
    (mkPc : PySem.W.makesIn K Pc = true)
    (kcPc : PySem.W.keepIn K (.ref Pc) = true)
    (aCc : PySem.W.nsIn K mainGlobals "Circles" = some (some (.ref Cc)))
    (pgCc : PySem.W.plainGet K Cc Str.empty = true)
    (hdCc : PySem.W.hasDictIn K Cc = true)
    (poCc : PySem.W.plainOver K Cc = true)
    (saCc : PySem.W.findIn K (.ref Cc) "__setattr__" = some (some (.builtin "object.__setattr__")))
    (mkCc : PySem.W.makesIn K Cc = true)
    (kcCc : PySem.W.keepIn K (.ref Cc) = true)
    (aWy : PySem.W.nsIn K mainGlobals "Way" = some (some (.ref Wy)))
    (pgWy : PySem.W.plainGet K Wy Str.empty = true)
    (hdWy : PySem.W.hasDictIn K Wy = true)
    (poWy : PySem.W.plainOver K Wy = true)
    (saWy : PySem.W.findIn K (.ref Wy) "__setattr__" = some (some (.builtin "object.__setattr__")))
    (mkWy : PySem.W.makesIn K Wy = true)
    (kcWy : PySem.W.keepIn K (.ref Wy) = true)
    (nRefused_code : PySem.W.findIn K (.ref R) "code" = some none)
    (nBars_lengths : PySem.W.findIn K (.ref B) "lengths" = some none)
    (nPlace_over : PySem.W.findIn K (.ref Pc) "over" = some none)
    (nPlace_under : PySem.W.findIn K (.ref Pc) "under" = some none)
    (nCircles_crank : PySem.W.findIn K (.ref Cc) "crank" = some none)
    (nCircles_ground : PySem.W.findIn K (.ref Cc) "ground" = some none)
    (nCircles_nearest : PySem.W.findIn K (.ref Cc) "nearest" = some none)
    (nCircles_farthest : PySem.W.findIn K (.ref Cc) "farthest" = some none)
    (nWay_first : PySem.W.findIn K (.ref Wy) "first" = some none)
    (nWay_last : PySem.W.findIn K (.ref Wy) "last" = some none)
    (a_Refused_new : PySem.W.findIn K (.ref R) "__init__" = some (some (.ref f_Refused_new)))
    (tRI : PySem.W.typeIn K (.ref f_Refused_new) = some (.type "function"))
    (l_Refused_new : K.lookup f_Refused_new = some ⟨oc_Refused_new, od_Refused_new, .func (PySem.W.fnOf "__init__" "Refused.__init__" (defArgs tx_Refused_new) (defBody tx_Refused_new) (defScope tx_Refused_new) .none kv_Refused_new dc_Refused_new pm_Refused_new an_Refused_new cd_Refused_new ct_Refused_new), sl_Refused_new⟩)
    (c_Refused_new : PySem.W.codeIn K cd_Refused_new "Refused.__init__" = true)
    (k_Refused_new : PySem.W.keepIn K (.ref f_Refused_new) = true)
    (a_must : PySem.W.nsIn K mainGlobals "must" = some (some (.ref f_must)))
    (l_must : K.lookup f_must = some ⟨oc_must, od_must, .func (PySem.W.fnOf "must" "must" (defArgs tx_must) (defBody tx_must) (defScope tx_must) .none kv_must dc_must pm_must an_must cd_must ct_must), sl_must⟩)
    (c_must : PySem.W.codeIn K cd_must "must" = true)
    (k_must : PySem.W.keepIn K (.ref f_must) = true)
    (a_Bars_new : PySem.W.findIn K (.ref B) "__init__" = some (some (.ref f_Bars_new)))
    (i_Bars_new : PySem.W.isFn K (.ref f_Bars_new) = true)
    (l_Bars_new : K.lookup f_Bars_new = some ⟨oc_Bars_new, od_Bars_new, .func (PySem.W.fnOf "__init__" "Bars.__init__" (defArgs tx_Bars_new) (defBody tx_Bars_new) (defScope tx_Bars_new) .none kv_Bars_new dc_Bars_new pm_Bars_new an_Bars_new cd_Bars_new ct_Bars_new), sl_Bars_new⟩)
    (c_Bars_new : PySem.W.codeIn K cd_Bars_new "Bars.__init__" = true)
    (k_Bars_new : PySem.W.keepIn K (.ref f_Bars_new) = true)
    (a_Place_new : PySem.W.findIn K (.ref Pc) "__init__" = some (some (.ref f_Place_new)))
    (i_Place_new : PySem.W.isFn K (.ref f_Place_new) = true)
    (l_Place_new : K.lookup f_Place_new = some ⟨oc_Place_new, od_Place_new, .func (PySem.W.fnOf "__init__" "Place.__init__" (defArgs tx_Place_new) (defBody tx_Place_new) (defScope tx_Place_new) .none kv_Place_new dc_Place_new pm_Place_new an_Place_new cd_Place_new ct_Place_new), sl_Place_new⟩)
    (c_Place_new : PySem.W.codeIn K cd_Place_new "Place.__init__" = true)
    (k_Place_new : PySem.W.keepIn K (.ref f_Place_new) = true)
    (a_Circles_new : PySem.W.findIn K (.ref Cc) "__init__" = some (some (.ref f_Circles_new)))
    (i_Circles_new : PySem.W.isFn K (.ref f_Circles_new) = true)
    (l_Circles_new : K.lookup f_Circles_new = some ⟨oc_Circles_new, od_Circles_new, .func (PySem.W.fnOf "__init__" "Circles.__init__" (defArgs tx_Circles_new) (defBody tx_Circles_new) (defScope tx_Circles_new) .none kv_Circles_new dc_Circles_new pm_Circles_new an_Circles_new cd_Circles_new ct_Circles_new), sl_Circles_new⟩)
    (c_Circles_new : PySem.W.codeIn K cd_Circles_new "Circles.__init__" = true)
    (k_Circles_new : PySem.W.keepIn K (.ref f_Circles_new) = true)
    (a_Place_weight : PySem.W.findIn K (.ref Pc) "weight" = some (some (.ref f_Place_weight)))
    (i_Place_weight : PySem.W.isFn K (.ref f_Place_weight) = true)
    (l_Place_weight : K.lookup f_Place_weight = some ⟨oc_Place_weight, od_Place_weight, .func (PySem.W.fnOf "weight" "Place.weight" (defArgs tx_Place_weight) (defBody tx_Place_weight) (defScope tx_Place_weight) .none kv_Place_weight dc_Place_weight pm_Place_weight an_Place_weight cd_Place_weight ct_Place_weight), sl_Place_weight⟩)
    (c_Place_weight : PySem.W.codeIn K cd_Place_weight "Place.weight" = true)
    (k_Place_weight : PySem.W.keepIn K (.ref f_Place_weight) = true)
    (a_Place_square : PySem.W.findIn K (.ref Pc) "square" = some (some (.ref f_Place_square)))
    (i_Place_square : PySem.W.isFn K (.ref f_Place_square) = true)
    (l_Place_square : K.lookup f_Place_square = some ⟨oc_Place_square, od_Place_square, .func (PySem.W.fnOf "square" "Place.square" (defArgs tx_Place_square) (defBody tx_Place_square) (defScope tx_Place_square) .none kv_Place_square dc_Place_square pm_Place_square an_Place_square cd_Place_square ct_Place_square), sl_Place_square⟩)
    (c_Place_square : PySem.W.codeIn K cd_Place_square "Place.square" = true)
    (k_Place_square : PySem.W.keepIn K (.ref f_Place_square) = true)
    (a_Circles_square : PySem.W.findIn K (.ref Cc) "square" = some (some (.ref f_Circles_square)))
    (i_Circles_square : PySem.W.isFn K (.ref f_Circles_square) = true)
    (l_Circles_square : K.lookup f_Circles_square = some ⟨oc_Circles_square, od_Circles_square, .func (PySem.W.fnOf "square" "Circles.square" (defArgs tx_Circles_square) (defBody tx_Circles_square) (defScope tx_Circles_square) .none kv_Circles_square dc_Circles_square pm_Circles_square an_Circles_square cd_Circles_square ct_Circles_square), sl_Circles_square⟩)
    (c_Circles_square : PySem.W.codeIn K cd_Circles_square "Circles.square" = true)
    (k_Circles_square : PySem.W.keepIn K (.ref f_Circles_square) = true)
    (a_Circles_is_let : PySem.W.findIn K (.ref Cc) "is_let" = some (some (.ref f_Circles_is_let)))
    (i_Circles_is_let : PySem.W.isFn K (.ref f_Circles_is_let) = true)
    (l_Circles_is_let : K.lookup f_Circles_is_let = some ⟨oc_Circles_is_let, od_Circles_is_let, .func (PySem.W.fnOf "is_let" "Circles.is_let" (defArgs tx_Circles_is_let) (defBody tx_Circles_is_let) (defScope tx_Circles_is_let) .none kv_Circles_is_let dc_Circles_is_let pm_Circles_is_let an_Circles_is_let cd_Circles_is_let ct_Circles_is_let), sl_Circles_is_let⟩)
    (c_Circles_is_let : PySem.W.codeIn K cd_Circles_is_let "Circles.is_let" = true)
    (k_Circles_is_let : PySem.W.keepIn K (.ref f_Circles_is_let) = true)
    (a_Circles_closes : PySem.W.findIn K (.ref Cc) "closes" = some (some (.ref f_Circles_closes)))
    (i_Circles_closes : PySem.W.isFn K (.ref f_Circles_closes) = true)
    (l_Circles_closes : K.lookup f_Circles_closes = some ⟨oc_Circles_closes, od_Circles_closes, .func (PySem.W.fnOf "closes" "Circles.closes" (defArgs tx_Circles_closes) (defBody tx_Circles_closes) (defScope tx_Circles_closes) .none kv_Circles_closes dc_Circles_closes pm_Circles_closes an_Circles_closes cd_Circles_closes ct_Circles_closes), sl_Circles_closes⟩)
    (c_Circles_closes : PySem.W.codeIn K cd_Circles_closes "Circles.closes" = true)
    (k_Circles_closes : PySem.W.keepIn K (.ref f_Circles_closes) = true)
    (a_Place_is_same : PySem.W.findIn K (.ref Pc) "is_same" = some (some (.ref f_Place_is_same)))
    (i_Place_is_same : PySem.W.isFn K (.ref f_Place_is_same) = true)
    (l_Place_is_same : K.lookup f_Place_is_same = some ⟨oc_Place_is_same, od_Place_is_same, .func (PySem.W.fnOf "is_same" "Place.is_same" (defArgs tx_Place_is_same) (defBody tx_Place_is_same) (defScope tx_Place_is_same) .none kv_Place_is_same dc_Place_is_same pm_Place_is_same an_Place_is_same cd_Place_is_same ct_Place_is_same), sl_Place_is_same⟩)
    (c_Place_is_same : PySem.W.codeIn K cd_Place_is_same "Place.is_same" = true)
    (k_Place_is_same : PySem.W.keepIn K (.ref f_Place_is_same) = true)
    (a_Way_new : PySem.W.findIn K (.ref Wy) "__init__" = some (some (.ref f_Way_new)))
    (i_Way_new : PySem.W.isFn K (.ref f_Way_new) = true)
    (l_Way_new : K.lookup f_Way_new = some ⟨oc_Way_new, od_Way_new, .func (PySem.W.fnOf "__init__" "Way.__init__" (defArgs tx_Way_new) (defBody tx_Way_new) (defScope tx_Way_new) .none kv_Way_new dc_Way_new pm_Way_new an_Way_new cd_Way_new ct_Way_new), sl_Way_new⟩)
    (c_Way_new : PySem.W.codeIn K cd_Way_new "Way.__init__" = true)
    (k_Way_new : PySem.W.keepIn K (.ref f_Way_new) = true)
    (a_way_of : PySem.W.nsIn K mainGlobals "way_of" = some (some (.ref f_way_of)))
    (l_way_of : K.lookup f_way_of = some ⟨oc_way_of, od_way_of, .func (PySem.W.fnOf "way_of" "way_of" (defArgs tx_way_of) (defBody tx_way_of) (defScope tx_way_of) .none kv_way_of dc_way_of pm_way_of an_way_of cd_way_of ct_way_of), sl_way_of⟩)
    (c_way_of : PySem.W.codeIn K cd_way_of "way_of" = true)
    (k_way_of : PySem.W.keepIn K (.ref f_way_of) = true)
    (a_Circles_is_open_ahead : PySem.W.findIn K (.ref Cc) "is_open_ahead" = some (some (.ref f_Circles_is_open_ahead)))
    (i_Circles_is_open_ahead : PySem.W.isFn K (.ref f_Circles_is_open_ahead) = true)
    (l_Circles_is_open_ahead : K.lookup f_Circles_is_open_ahead = some ⟨oc_Circles_is_open_ahead, od_Circles_is_open_ahead, .func (PySem.W.fnOf "is_open_ahead" "Circles.is_open_ahead" (defArgs tx_Circles_is_open_ahead) (defBody tx_Circles_is_open_ahead) (defScope tx_Circles_is_open_ahead) .none kv_Circles_is_open_ahead dc_Circles_is_open_ahead pm_Circles_is_open_ahead an_Circles_is_open_ahead cd_Circles_is_open_ahead ct_Circles_is_open_ahead), sl_Circles_is_open_ahead⟩)
    (c_Circles_is_open_ahead : PySem.W.codeIn K cd_Circles_is_open_ahead "Circles.is_open_ahead" = true)
    (k_Circles_is_open_ahead : PySem.W.keepIn K (.ref f_Circles_is_open_ahead) = true)
    (a_Place_is_before : PySem.W.findIn K (.ref Pc) "is_before" = some (some (.ref f_Place_is_before)))
    (i_Place_is_before : PySem.W.isFn K (.ref f_Place_is_before) = true)
    (l_Place_is_before : K.lookup f_Place_is_before = some ⟨oc_Place_is_before, od_Place_is_before, .func (PySem.W.fnOf "is_before" "Place.is_before" (defArgs tx_Place_is_before) (defBody tx_Place_is_before) (defScope tx_Place_is_before) .none kv_Place_is_before dc_Place_is_before pm_Place_is_before an_Place_is_before cd_Place_is_before ct_Place_is_before), sl_Place_is_before⟩)
    (c_Place_is_before : PySem.W.codeIn K cd_Place_is_before "Place.is_before" = true)
    (k_Place_is_before : PySem.W.keepIn K (.ref f_Place_is_before) = true)
    (a_Way_has_within : PySem.W.findIn K (.ref Wy) "has_within" = some (some (.ref f_Way_has_within)))
    (i_Way_has_within : PySem.W.isFn K (.ref f_Way_has_within) = true)
    (l_Way_has_within : K.lookup f_Way_has_within = some ⟨oc_Way_has_within, od_Way_has_within, .func (PySem.W.fnOf "has_within" "Way.has_within" (defArgs tx_Way_has_within) (defBody tx_Way_has_within) (defScope tx_Way_has_within) .none kv_Way_has_within dc_Way_has_within pm_Way_has_within an_Way_has_within cd_Way_has_within ct_Way_has_within), sl_Way_has_within⟩)
    (c_Way_has_within : PySem.W.codeIn K cd_Way_has_within "Way.has_within" = true)
    (k_Way_has_within : PySem.W.keepIn K (.ref f_Way_has_within) = true)
    (a_Way_has : PySem.W.findIn K (.ref Wy) "has" = some (some (.ref f_Way_has)))
    (i_Way_has : PySem.W.isFn K (.ref f_Way_has) = true)
    (l_Way_has : K.lookup f_Way_has = some ⟨oc_Way_has, od_Way_has, .func (PySem.W.fnOf "has" "Way.has" (defArgs tx_Way_has) (defBody tx_Way_has) (defScope tx_Way_has) .none kv_Way_has dc_Way_has pm_Way_has an_Way_has cd_Way_has ct_Way_has), sl_Way_has⟩)
    (c_Way_has : PySem.W.codeIn K cd_Way_has "Way.has" = true)
    (k_Way_has : PySem.W.keepIn K (.ref f_Way_has) = true)
    (a_Circles_is_open_behind : PySem.W.findIn K (.ref Cc) "is_open_behind" = some (some (.ref f_Circles_is_open_behind)))
    (i_Circles_is_open_behind : PySem.W.isFn K (.ref f_Circles_is_open_behind) = true)
    (l_Circles_is_open_behind : K.lookup f_Circles_is_open_behind = some ⟨oc_Circles_is_open_behind, od_Circles_is_open_behind, .func (PySem.W.fnOf "is_open_behind" "Circles.is_open_behind" (defArgs tx_Circles_is_open_behind) (defBody tx_Circles_is_open_behind) (defScope tx_Circles_is_open_behind) .none kv_Circles_is_open_behind dc_Circles_is_open_behind pm_Circles_is_open_behind an_Circles_is_open_behind cd_Circles_is_open_behind ct_Circles_is_open_behind), sl_Circles_is_open_behind⟩)
    (c_Circles_is_open_behind : PySem.W.codeIn K cd_Circles_is_open_behind "Circles.is_open_behind" = true)
    (k_Circles_is_open_behind : PySem.W.keepIn K (.ref f_Circles_is_open_behind) = true)
    (a_Circles_touch : PySem.W.findIn K (.ref Cc) "touch" = some (some (.ref f_Circles_touch)))
    (i_Circles_touch : PySem.W.isFn K (.ref f_Circles_touch) = true)
    (l_Circles_touch : K.lookup f_Circles_touch = some ⟨oc_Circles_touch, od_Circles_touch, .func (PySem.W.fnOf "touch" "Circles.touch" (defArgs tx_Circles_touch) (defBody tx_Circles_touch) (defScope tx_Circles_touch) .none kv_Circles_touch dc_Circles_touch pm_Circles_touch an_Circles_touch cd_Circles_touch ct_Circles_touch), sl_Circles_touch⟩)
    (c_Circles_touch : PySem.W.codeIn K cd_Circles_touch "Circles.touch" = true)
    (k_Circles_touch : PySem.W.keepIn K (.ref f_Circles_touch) = true)
    (a_driven : PySem.W.nsIn K mainGlobals "driven" = some (some (.ref f_driven)))
    (l_driven : K.lookup f_driven = some ⟨oc_driven, od_driven, .func (PySem.W.fnOf "driven" "driven" (defArgs tx_driven) (defBody tx_driven) (defScope tx_driven) .none kv_driven dc_driven pm_driven an_driven cd_driven ct_driven), sl_driven⟩)
    (c_driven : PySem.W.codeIn K cd_driven "driven" = true)
    (k_driven : PySem.W.keepIn K (.ref f_driven) = true)
    (a_drive : PySem.W.nsIn K mainGlobals "drive" = some (some (.ref f_drive)))
    (l_drive : K.lookup f_drive = some ⟨oc_drive, od_drive, .func (PySem.W.fnOf "drive" "drive" (defArgs tx_drive) (defBody tx_drive) (defScope tx_drive) .none kv_drive dc_drive pm_drive an_drive cd_drive ct_drive), sl_drive⟩)
    (c_drive : PySem.W.codeIn K cd_drive "drive" = true)
    (k_drive : PySem.W.keepIn K (.ref f_drive) = true)
    (zall : PySem.W.nsIn K mainGlobals "all" = some none)
    (gMOST_LENGTH : PySem.W.nsIn K mainGlobals "MOST_LENGTH" = some (some (.int 999 tkgMOST_LENGTH)))
    (zabs : PySem.W.nsIn K mainGlobals "abs" = some none)
    (gMOST_PLACE : PySem.W.nsIn K mainGlobals "MOST_PLACE" = some (some (.int 99 tkgMOST_PLACE))) :
    ∃ fd : FuncData, (∀ (s : Shared) (us : List Value), us.length = (["g", "a", "c", "r", "p", "q", "s", "left", "p2", "q2"] : List Str).length → BindsTo s fd ⟨us, []⟩ ((["g", "a", "c", "r", "p", "q", "s", "left", "p2", "q2"] : List Str).zip us)) ∧ ∀ base : Heap, K.In base → base.Ns mainGlobals mg → FnOk P w K mg base CX0 7 fa fd ["g", "a", "c", "r", "p", "q", "s", "left", "p2", "q2"] (spDrive) := by
  have e := hfa.symm.trans (PySem.W.mg_of X G a_drive)
  cases e
  have oex : OexC K R := ⟨⟨nm, qn, NN, bs, _, sn, sub, ab, col, dd, m0, m1, m2, m3, m5, xL, by decide +kernel⟩, sa, bR, tyR, kR⟩
  have gR := PySem.W.mg_of X G aR
  have xR : XfC K R := ⟨ga, gg, bR, hdR⟩
  have eR := exm_same bR isR tyR suR
  have F_Refused_new := fun_mk (st := tx_Refused_new) l_Refused_new c_Refused_new k_Refused_new
  have b_Refused_new := F_Refused_new.binds (ps := ["self", "code"]) fun _ _ _ _ _ _ us hl => match us, hl with | [_, _], _ => rfl
  have F_must := fun_mk (st := tx_must) l_must c_must k_must
  have b_must := F_must.binds (ps := ["is_so", "code"]) fun _ _ _ _ _ _ us hl => match us, hl with | [_, _], _ => rfl
  have F_Bars_new := fun_mk (st := tx_Bars_new) l_Bars_new c_Bars_new k_Bars_new
  have b_Bars_new := F_Bars_new.binds (ps := ["self", "lengths"]) fun _ _ _ _ _ _ us hl => match us, hl with | [_, _], _ => rfl
  have F_Place_new := fun_mk (st := tx_Place_new) l_Place_new c_Place_new k_Place_new
  have b_Place_new := F_Place_new.binds (ps := ["self", "over", "under"]) fun _ _ _ _ _ _ us hl => match us, hl with | [_, _, _], _ => rfl
  have F_Circles_new := fun_mk (st := tx_Circles_new) l_Circles_new c_Circles_new k_Circles_new
  have b_Circles_new := F_Circles_new.binds (ps := ["self", "lengths"]) fun _ _ _ _ _ _ us hl => match us, hl with | [_, _], _ => rfl
  have F_Place_weight := fun_mk (st := tx_Place_weight) l_Place_weight c_Place_weight k_Place_weight
  have b_Place_weight := F_Place_weight.binds (ps := ["self"]) fun _ _ _ _ _ _ us hl => match us, hl with | [_], _ => rfl
  have F_Place_square := fun_mk (st := tx_Place_square) l_Place_square c_Place_square k_Place_square
  have b_Place_square := F_Place_square.binds (ps := ["self", "ground", "crank"]) fun _ _ _ _ _ _ us hl => match us, hl with | [_, _, _], _ => rfl
  have F_Circles_square := fun_mk (st := tx_Circles_square) l_Circles_square c_Circles_square k_Circles_square
  have b_Circles_square := F_Circles_square.binds (ps := ["self", "place"]) fun _ _ _ _ _ _ us hl => match us, hl with | [_, _], _ => rfl
  have F_Circles_is_let := fun_mk (st := tx_Circles_is_let) l_Circles_is_let c_Circles_is_let k_Circles_is_let
  have b_Circles_is_let := F_Circles_is_let.binds (ps := ["self", "place"]) fun _ _ _ _ _ _ us hl => match us, hl with | [_, _], _ => rfl
  have F_Circles_closes := fun_mk (st := tx_Circles_closes) l_Circles_closes c_Circles_closes k_Circles_closes
  have b_Circles_closes := F_Circles_closes.binds (ps := ["self", "place"]) fun _ _ _ _ _ _ us hl => match us, hl with | [_, _], _ => rfl
  have F_Place_is_same := fun_mk (st := tx_Place_is_same) l_Place_is_same c_Place_is_same k_Place_is_same
  have b_Place_is_same := F_Place_is_same.binds (ps := ["self", "other"]) fun _ _ _ _ _ _ us hl => match us, hl with | [_, _], _ => rfl
  have F_Way_new := fun_mk (st := tx_Way_new) l_Way_new c_Way_new k_Way_new
  have b_Way_new := F_Way_new.binds (ps := ["self", "first", "last"]) fun _ _ _ _ _ _ us hl => match us, hl with | [_, _, _], _ => rfl
  have F_way_of := fun_mk (st := tx_way_of) l_way_of c_way_of k_way_of
  have b_way_of := F_way_of.binds (ps := ["first", "last", "left"]) fun _ _ _ _ _ _ us hl => match us, hl with | [_, _, _], _ => rfl
  have F_Circles_is_open_ahead := fun_mk (st := tx_Circles_is_open_ahead) l_Circles_is_open_ahead c_Circles_is_open_ahead k_Circles_is_open_ahead
  have b_Circles_is_open_ahead := F_Circles_is_open_ahead.binds (ps := ["self"]) fun _ _ _ _ _ _ us hl => match us, hl with | [_], _ => rfl
  have F_Place_is_before := fun_mk (st := tx_Place_is_before) l_Place_is_before c_Place_is_before k_Place_is_before
  have b_Place_is_before := F_Place_is_before.binds (ps := ["self", "other"]) fun _ _ _ _ _ _ us hl => match us, hl with | [_, _], _ => rfl
  have F_Way_has_within := fun_mk (st := tx_Way_has_within) l_Way_has_within c_Way_has_within k_Way_has_within
  have b_Way_has_within := F_Way_has_within.binds (ps := ["self", "place"]) fun _ _ _ _ _ _ us hl => match us, hl with | [_, _], _ => rfl
  have F_Way_has := fun_mk (st := tx_Way_has) l_Way_has c_Way_has k_Way_has
  have b_Way_has := F_Way_has.binds (ps := ["self", "place"]) fun _ _ _ _ _ _ us hl => match us, hl with | [_, _], _ => rfl
  have F_Circles_is_open_behind := fun_mk (st := tx_Circles_is_open_behind) l_Circles_is_open_behind c_Circles_is_open_behind k_Circles_is_open_behind
  have b_Circles_is_open_behind := F_Circles_is_open_behind.binds (ps := ["self"]) fun _ _ _ _ _ _ us hl => match us, hl with | [_], _ => rfl
  have F_Circles_touch := fun_mk (st := tx_Circles_touch) l_Circles_touch c_Circles_touch k_Circles_touch
  have b_Circles_touch := F_Circles_touch.binds (ps := ["self", "place"]) fun _ _ _ _ _ _ us hl => match us, hl with | [_, _], _ => rfl
  have F_driven := fun_mk (st := tx_driven) l_driven c_driven k_driven
  have b_driven := F_driven.binds (ps := ["lengths", "first", "side", "left", "last"]) fun _ _ _ _ _ _ us hl => match us, hl with | [_, _, _, _, _], _ => rfl
  have F_drive := fun_mk (st := tx_drive) l_drive c_drive k_drive
  have clBars : Cls K B := ⟨pgB, hdB, poB, saB⟩
  have clPlace : Cls K Pc := ⟨pgPc, hdPc, poPc, saPc⟩
  have clCircles : Cls K Cc := ⟨pgCc, hdCc, poCc, saCc⟩
  have clWay : Cls K Wy := ⟨pgWy, hdWy, poWy, saWy⟩
  have hzall := PySem.W.mg_none_of X G zall
  have hgMOST_LENGTH := PySem.W.mg_of X G gMOST_LENGTH
  have hzabs := PySem.W.mg_none_of X G zabs
  have hgMOST_PLACE := PySem.W.mg_of X G gMOST_PLACE
  refine ⟨PySem.W.fnOf "drive" "drive" (defArgs tx_drive) (defBody tx_drive) (defScope tx_drive) .none kv_drive dc_drive pm_drive an_drive cd_drive ct_drive, fun s us hu => match us, hu with | [_, _, _, _, _, _, _, _, _, _], _ => .of_eq rfl, fun base _ _ => ?_⟩
  have cmust : Cal P w K mg base 3 "must" (spMust R) := ⟨_, _, _, ok_must F_must F_Refused_new oex nb a_Refused_new tRI b_Refused_new gR, PySem.W.mg_of X G a_must, k_must, b_must⟩
  have cBars_new : Mak P w K mg base 4 "Bars" B (spBI R B) := ⟨_, _, _, ok_Bars_new F_Bars_new cmust hzall hgMOST_LENGTH clBars nBars_lengths, ⟨mkB, a_Bars_new, i_Bars_new, kcB⟩, PySem.W.mg_of X G aB, b_Bars_new⟩
  have cPlace_new : Mak P w K mg base 4 "Place" Pc (spPlN R Pc) := ⟨_, _, _, ok_Place_new F_Place_new cmust hzabs hgMOST_PLACE clPlace nPlace_over nPlace_under, ⟨mkPc, a_Place_new, i_Place_new, kcPc⟩, PySem.W.mg_of X G aPc, b_Place_new⟩
  have cCircles_new : Mak P w K mg base 1 "Circles" Cc (spCiN Cc) := ⟨_, _, _, fn_up (ok_Circles_new F_Circles_new clCircles nCircles_crank nCircles_ground nCircles_nearest hzabs nCircles_farthest), ⟨mkCc, a_Circles_new, i_Circles_new, kcCc⟩, PySem.W.mg_of X G aCc, b_Circles_new⟩
  have cPlace_weight : Met P w K mg base 1 Pc "weight" (spPlW Pc) := ⟨_, _, _, fn_up (ok_Place_weight F_Place_weight clPlace nPlace_over nPlace_under), ⟨a_Place_weight, i_Place_weight, k_Place_weight⟩, b_Place_weight⟩
  have cPlace_square : Met P w K mg base 2 Pc "square" (spPlS Pc) := ⟨_, _, _, fn_up (ok_Place_square F_Place_square clPlace nPlace_under nPlace_over cPlace_weight), ⟨a_Place_square, i_Place_square, k_Place_square⟩, b_Place_square⟩
  have cCircles_square : Met P w K mg base 3 Cc "square" (spCi2 Cc Pc fSq) := ⟨_, _, _, fn_up (ok_Circles_square F_Circles_square clPlace cPlace_square clCircles nCircles_crank nCircles_ground), ⟨a_Circles_square, i_Circles_square, k_Circles_square⟩, b_Circles_square⟩
  have cCircles_is_let : Met P w K mg base 4 Cc "is_let" (spCi2 Cc Pc fLet) := ⟨_, _, _, fn_up (ok_Circles_is_let F_Circles_is_let clCircles cCircles_square clPlace cPlace_weight nCircles_farthest nCircles_nearest), ⟨a_Circles_is_let, i_Circles_is_let, k_Circles_is_let⟩, b_Circles_is_let⟩
  have cCircles_closes : Met P w K mg base 5 Cc "closes" (spCi2 Cc Pc fCl) := ⟨_, _, _, fn_up (ok_Circles_closes F_Circles_closes clCircles cCircles_is_let cCircles_square), ⟨a_Circles_closes, i_Circles_closes, k_Circles_closes⟩, b_Circles_closes⟩
  have cPlace_is_same : Met P w K mg base 1 Pc "is_same" (spPl2 Pc FB.sameI) := ⟨_, _, _, fn_up (ok_Place_is_same F_Place_is_same clPlace nPlace_over nPlace_under), ⟨a_Place_is_same, i_Place_is_same, k_Place_is_same⟩, b_Place_is_same⟩
  have cWay_new : Mak P w K mg base 1 "Way" Wy (spWyN Wy) := ⟨_, _, _, fn_up (ok_Way_new F_Way_new clWay nWay_first nWay_last), ⟨mkWy, a_Way_new, i_Way_new, kcWy⟩, PySem.W.mg_of X G aWy, b_Way_new⟩
  have cway_of : Cal P w K mg base 3 "way_of" (spWO Wy) := ⟨_, _, _, fn_up (ok_way_of F_way_of cWay_new), PySem.W.mg_of X G a_way_of, k_way_of, b_way_of⟩
  have cCircles_is_open_ahead : Met P w K mg base 1 Cc "is_open_ahead" (spCi1 Cc FB.Ci.openAhead) := ⟨_, _, _, fn_up (ok_Circles_is_open_ahead F_Circles_is_open_ahead hzabs clCircles nCircles_ground nCircles_crank nCircles_nearest), ⟨a_Circles_is_open_ahead, i_Circles_is_open_ahead, k_Circles_is_open_ahead⟩, b_Circles_is_open_ahead⟩
  have cPlace_is_before : Met P w K mg base 1 Pc "is_before" (spPl2 Pc FB.beforeI) := ⟨_, _, _, fn_up (ok_Place_is_before F_Place_is_before clPlace nPlace_under nPlace_over), ⟨a_Place_is_before, i_Place_is_before, k_Place_is_before⟩, b_Place_is_before⟩
  have cWay_has_within : Met P w K mg base 2 Wy "has_within" (spWy Wy Pc FB.withinI) := ⟨_, _, _, fn_up (ok_Way_has_within F_Way_has_within clPlace clWay nWay_first cPlace_is_before nWay_last), ⟨a_Way_has_within, i_Way_has_within, k_Way_has_within⟩, b_Way_has_within⟩
  have cWay_has : Met P w K mg base 3 Wy "has" (spWy Wy Pc FB.hasI) := ⟨_, _, _, fn_up (ok_Way_has F_Way_has clWay cWay_has_within clPlace cPlace_is_same nWay_last nWay_first), ⟨a_Way_has, i_Way_has, k_Way_has⟩, b_Way_has⟩
  have cCircles_is_open_behind : Met P w K mg base 1 Cc "is_open_behind" (spCi1 Cc FB.Ci.openBehind) := ⟨_, _, _, fn_up (ok_Circles_is_open_behind F_Circles_is_open_behind clCircles nCircles_ground nCircles_crank nCircles_farthest), ⟨a_Circles_is_open_behind, i_Circles_is_open_behind, k_Circles_is_open_behind⟩, b_Circles_is_open_behind⟩
  have cCircles_touch : Met P w K mg base 4 Cc "touch" (spCi2 Cc Pc fTo) := ⟨_, _, _, fn_up (ok_Circles_touch F_Circles_touch clCircles cCircles_square clPlace cPlace_weight nCircles_farthest nCircles_nearest), ⟨a_Circles_touch, i_Circles_touch, k_Circles_touch⟩, b_Circles_touch⟩
  have cdriven : Cal P w K mg base 6 "driven" (spDr R Pc) := ⟨_, _, _, ok_driven F_driven cCircles_new cmust clCircles cCircles_closes clPlace cPlace_is_same cway_of cPlace_new cCircles_is_let cCircles_is_open_ahead clWay cWay_has cCircles_is_open_behind hzabs nCircles_ground nCircles_crank nCircles_nearest cWay_has_within nCircles_farthest cCircles_square cCircles_touch, PySem.W.mg_of X G a_driven, k_driven, b_driven⟩
  exact ok_drive F_drive gR xR nb eR cBars_new cPlace_new cmust cdriven clBars nBars_lengths
end
end FW
open PySem PySem.W PyProof.Rows
set_option maxRecDepth 100000 in
set_option maxHeartbeats 0 in
theorem PySem.Challenge.cw_fourbars_s07_drive_holds : PySem.Challenge.rw_fourbars_s07_drive.Holds := by
  w_on; k_headS; (case hw => exact ⟨[.int 0, .int 0, .int 0, .int 0, .int 0, .int 0, .int 0, .int 0, .int 0, .int 0], by decide +kernel, by decide +kernel⟩)
  k_fillS
  refine L2.walk_specK (r := PySem.Challenge.rw_fourbars_s07_drive) (k := 7) (CX := L2.CX0) (ps := ["g", "a", "c", "r", "p", "q", "s", "left", "p2", "q2"]) (sp := fun _ => FW.spDrive) (by decide +kernel) rfl rfl ⟨rfl, by decide, by decide⟩ (fun w h Y => PySem.W.kIn_of Y) ?F ?S (fun _ _ _ _ z => z)
  case F =>
    intro w mg fa h Y KX G hmg
    refine' FW.all_mk KX G hmg ?aR ?xL ?sa ?ga ?gg ?nb ?kR ?bR ?tyR ?hdR ?isR ?suR ?aB ?pgB ?hdB ?poB ?saB ?mkB ?kcB ?aPc ?pgPc ?hdPc ?poPc ?saPc ?mkPc ?kcPc ?aCc ?pgCc ?hdCc ?poCc ?saCc ?mkCc ?kcCc ?aWy ?pgWy ?hdWy ?poWy ?saWy ?mkWy ?kcWy ?nRefused_code ?nBars_lengths ?nPlace_over ?nPlace_under ?nCircles_crank ?nCircles_ground ?nCircles_nearest ?nCircles_farthest ?nWay_first ?nWay_last ?a_Refused_new ?tRI ?l_Refused_new ?c_Refused_new ?k_Refused_new ?a_must ?l_must ?c_must ?k_must ?a_Bars_new ?i_Bars_new ?l_Bars_new ?c_Bars_new ?k_Bars_new ?a_Place_new ?i_Place_new ?l_Place_new ?c_Place_new ?k_Place_new ?a_Circles_new ?i_Circles_new ?l_Circles_new ?c_Circles_new ?k_Circles_new ?a_Place_weight ?i_Place_weight ?l_Place_weight ?c_Place_weight ?k_Place_weight ?a_Place_square ?i_Place_square ?l_Place_square ?c_Place_square ?k_Place_square ?a_Circles_square ?i_Circles_square ?l_Circles_square ?c_Circles_square ?k_Circles_square ?a_Circles_is_let ?i_Circles_is_let ?l_Circles_is_let ?c_Circles_is_let ?k_Circles_is_let ?a_Circles_closes ?i_Circles_closes ?l_Circles_closes ?c_Circles_closes ?k_Circles_closes ?a_Place_is_same ?i_Place_is_same ?l_Place_is_same ?c_Place_is_same ?k_Place_is_same ?a_Way_new ?i_Way_new ?l_Way_new ?c_Way_new ?k_Way_new ?a_way_of ?l_way_of ?c_way_of ?k_way_of ?a_Circles_is_open_ahead ?i_Circles_is_open_ahead ?l_Circles_is_open_ahead ?c_Circles_is_open_ahead ?k_Circles_is_open_ahead ?a_Place_is_before ?i_Place_is_before ?l_Place_is_before ?c_Place_is_before ?k_Place_is_before ?a_Way_has_within ?i_Way_has_within ?l_Way_has_within ?c_Way_has_within ?k_Way_has_within ?a_Way_has ?i_Way_has ?l_Way_has ?c_Way_has ?k_Way_has ?a_Circles_is_open_behind ?i_Circles_is_open_behind ?l_Circles_is_open_behind ?c_Circles_is_open_behind ?k_Circles_is_open_behind ?a_Circles_touch ?i_Circles_touch ?l_Circles_touch ?c_Circles_touch ?k_Circles_touch ?a_driven ?l_driven ?c_driven ?k_driven ?a_drive ?l_drive ?c_drive ?k_drive ?zall ?gMOST_LENGTH ?zabs ?gMOST_PLACE
    (case aR => k_is)
    (case xL => k_is)
    (case sa => k_is)
    (case ga => k_is)
    (case gg => k_is)
    (case nb => k_is)
    (case kR => k_is)
    (case bR => k_is)
    (case tyR => k_is)
    (case hdR => k_is)
    (case isR => k_is)
    (case suR => first | rfl | k_is)
    (case aB => k_is)
    (case pgB => k_is)
    (case hdB => k_is)
    (case poB => k_is)
    (case saB => k_is)
    (case mkB => k_is)
    (case kcB => k_is)
    (case aPc => k_is)
    (case pgPc => k_is)
    (case hdPc => k_is)
    (case poPc => k_is)
    (case saPc => k_is)
    (case mkPc => k_is)
    (case kcPc => k_is)
    (case aCc => k_is)
    (case pgCc => k_is)
    (case hdCc => k_is)
    (case poCc => k_is)
    (case saCc => k_is)
    (case mkCc => k_is)
    (case kcCc => k_is)
    (case aWy => k_is)
    (case pgWy => k_is)
    (case hdWy => k_is)
    (case poWy => k_is)
    (case saWy => k_is)
    (case mkWy => k_is)
    (case kcWy => k_is)
    (case nRefused_code => k_is)
    (case nBars_lengths => k_is)
    (case nPlace_over => k_is)
    (case nPlace_under => k_is)
    (case nCircles_crank => k_is)
    (case nCircles_ground => k_is)
    (case nCircles_nearest => k_is)
    (case nCircles_farthest => k_is)
    (case nWay_first => k_is)
    (case nWay_last => k_is)
    (case a_Refused_new => k_is)
    (case tRI => k_is)
    (case l_Refused_new => k_is)
    (case c_Refused_new => k_is)
    (case k_Refused_new => k_is)
    (case a_must => k_is)
    (case l_must => k_is)
    (case c_must => k_is)
    (case k_must => k_is)
    (case a_Bars_new => k_is)
    (case i_Bars_new => k_is)
    (case l_Bars_new => k_is)
    (case c_Bars_new => k_is)
    (case k_Bars_new => k_is)
    (case a_Place_new => k_is)
    (case i_Place_new => k_is)
    (case l_Place_new => k_is)
    (case c_Place_new => k_is)
    (case k_Place_new => k_is)
    (case a_Circles_new => k_is)
    (case i_Circles_new => k_is)
    (case l_Circles_new => k_is)
    (case c_Circles_new => k_is)
    (case k_Circles_new => k_is)
    (case a_Place_weight => k_is)
    (case i_Place_weight => k_is)
    (case l_Place_weight => k_is)
    (case c_Place_weight => k_is)
    (case k_Place_weight => k_is)
    (case a_Place_square => k_is)
    (case i_Place_square => k_is)
    (case l_Place_square => k_is)
    (case c_Place_square => k_is)
    (case k_Place_square => k_is)
    (case a_Circles_square => k_is)
    (case i_Circles_square => k_is)
    (case l_Circles_square => k_is)
    (case c_Circles_square => k_is)
    (case k_Circles_square => k_is)
    (case a_Circles_is_let => k_is)
    (case i_Circles_is_let => k_is)
    (case l_Circles_is_let => k_is)
    (case c_Circles_is_let => k_is)
    (case k_Circles_is_let => k_is)
    (case a_Circles_closes => k_is)
    (case i_Circles_closes => k_is)
    (case l_Circles_closes => k_is)
    (case c_Circles_closes => k_is)
    (case k_Circles_closes => k_is)
    (case a_Place_is_same => k_is)
    (case i_Place_is_same => k_is)
    (case l_Place_is_same => k_is)
    (case c_Place_is_same => k_is)
    (case k_Place_is_same => k_is)
    (case a_Way_new => k_is)
    (case i_Way_new => k_is)
    (case l_Way_new => k_is)
    (case c_Way_new => k_is)
    (case k_Way_new => k_is)
    (case a_way_of => k_is)
    (case l_way_of => k_is)
    (case c_way_of => k_is)
    (case k_way_of => k_is)
    (case a_Circles_is_open_ahead => k_is)
    (case i_Circles_is_open_ahead => k_is)
    (case l_Circles_is_open_ahead => k_is)
    (case c_Circles_is_open_ahead => k_is)
    (case k_Circles_is_open_ahead => k_is)
    (case a_Place_is_before => k_is)
    (case i_Place_is_before => k_is)
    (case l_Place_is_before => k_is)
    (case c_Place_is_before => k_is)
    (case k_Place_is_before => k_is)
    (case a_Way_has_within => k_is)
    (case i_Way_has_within => k_is)
    (case l_Way_has_within => k_is)
    (case c_Way_has_within => k_is)
    (case k_Way_has_within => k_is)
    (case a_Way_has => k_is)
    (case i_Way_has => k_is)
    (case l_Way_has => k_is)
    (case c_Way_has => k_is)
    (case k_Way_has => k_is)
    (case a_Circles_is_open_behind => k_is)
    (case i_Circles_is_open_behind => k_is)
    (case l_Circles_is_open_behind => k_is)
    (case c_Circles_is_open_behind => k_is)
    (case k_Circles_is_open_behind => k_is)
    (case a_Circles_touch => k_is)
    (case i_Circles_touch => k_is)
    (case l_Circles_touch => k_is)
    (case c_Circles_touch => k_is)
    (case k_Circles_touch => k_is)
    (case a_driven => k_is)
    (case l_driven => k_is)
    (case c_driven => k_is)
    (case k_driven => k_is)
    (case a_drive => k_is)
    (case l_drive => k_is)
    (case c_drive => k_is)
    (case k_drive => k_is)
    (case zall => k_is)
    (case gMOST_LENGTH => k_is)
    (case zabs => k_is)
    (case gMOST_PLACE => k_is)
  case S =>
    intro K H xs a hO hwi hask hx
    have e := L2.ints_dw [a.1, a.2.1, a.2.2.1, a.2.2.2.1, a.2.2.2.2.1, a.2.2.2.2.2.1, a.2.2.2.2.2.2.1, a.2.2.2.2.2.2.2.1, a.2.2.2.2.2.2.2.2.1, a.2.2.2.2.2.2.2.2.2.1] xs hx
    subst e
    obtain ⟨x0, x1, x2, x3, x4, x5, x6, x7, x8, x9, u⟩ := a
    have q : (Codec.inInt 0 9223372036854775807 x0 && (Codec.inInt 0 9223372036854775807 x1 && (Codec.inInt 0 9223372036854775807 x2 && (Codec.inInt 0 9223372036854775807 x3 && (Codec.inInt (-9223372036854775807) 9223372036854775807 x4 && (Codec.inInt (-9223372036854775807) 9223372036854775807 x5 && (Codec.inInt 0 9223372036854775807 x6 && (Codec.inInt 0 9223372036854775807 x7 && (Codec.inInt (-9223372036854775807) 9223372036854775807 x8 && (Codec.inInt (-9223372036854775807) 9223372036854775807 x9 && true)))))))))) = true := hwi
    rw [Bool.and_eq_true, Bool.and_eq_true, Bool.and_eq_true, Bool.and_eq_true, Bool.and_eq_true, Bool.and_eq_true, Bool.and_eq_true, Bool.and_eq_true, Bool.and_eq_true, Bool.and_eq_true, Codec.inInt_iff, Codec.inInt_iff, Codec.inInt_iff, Codec.inInt_iff, Codec.inInt_iff, Codec.inInt_iff, Codec.inInt_iff, Codec.inInt_iff, Codec.inInt_iff, Codec.inInt_iff] at q
    refine ⟨x0, x1, x2, x3, x4, x5, x6, x7, x8, x9, rfl, q.2.2.2.2.2.2.1.1, fun p H' hp => ?_⟩
    show L2.Dw K H' (.ref p) (WData.list ((PyWqapbt.drive x0 x1 x2 x3 x4 x5 x6 x7 x8 x9).map WData.int))
    rw [FB.spec_drive q.1.1 q.2.1.1 q.2.2.1.1 q.2.2.2.1.1 q.2.2.2.2.2.2.1.1 q.2.2.2.2.2.2.2.1.1]
    exact .lst (L2.SqL.of hp) (L2.dw_ints _)
#print axioms PySem.Challenge.cw_fourbars_s07_drive_holds
