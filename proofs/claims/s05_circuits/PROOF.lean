import PyProof.Rows.All
import Wide.All
import OpenK.AllK
import Wide.FinOn
import PyProof.EqAt
import PyProof.EqKinds
import PyProof.TupleCall
import Open.SpecLaws
import KE.OsGo
import HandS.ForSpec
import HandS.Comp
import HandS.ExcInit
import HandS.ExcField
import HandS.Evl
import HandS.NoneIn
import HandS.Wide
import PySem.Challenge.RW_fourbars_s05_circuits
set_option Elab.async false
set_option linter.all false
set_option maxRecDepth 100000
set_option maxHeartbeats 8000000
/-! Four bars: plain law, part 1: lengths, kind. -/
namespace FB
open LkFour LkDSpec

/-- all four lengths told as they may be -/
def lensOk (g a c r : Int) : Bool :=
  (decide (1 ≤ g) && decide (g ≤ 999)) && ((decide (1 ≤ a) && decide (a ≤ 999)) && ((decide (1 ≤ c) && decide (c ≤ 999)) && (decide (1 ≤ r) && decide (r ≤ 999))))

theorem lensOk_iff {g a c r : Int} : lensOk g a c r = true ↔ (1 ≤ g ∧ g ≤ 999) ∧ (1 ≤ a ∧ a ≤ 999) ∧ (1 ≤ c ∧ c ≤ 999) ∧ (1 ≤ r ∧ r ≤ 999) := by
  simp [lensOk]

/-- the kind, over rising lengths x0 ≤ x1 ≤ x2 ≤ x3 -/
def kindR (g a c x0 x1 x2 x3 : Int) : Int :=
  if x0 + (x1 + x2) ≤ x3 then (if x0 + (x1 + x2) < x3 then 0 else 1)
  else if x0 + x3 < x1 + x2 then (if g = x0 then 2 else if a = x0 then 3 else if c = x0 then 4 else 5)
  else if x1 + x2 < x0 + x3 then 7 else 6

/-- the kind, as the specification has it -/
def kindI (g a c r : Int) : Int := ((Neutral.four g a c r).kind : Nat)

theorem isLength_iff {n : Nat} : isLength n = true ↔ 1 ≤ n ∧ n ≤ 999 := by
  unfold isLength
  rw [Bool.and_eq_true, decide_eq_true_iff, decide_eq_true_iff]
  exact Iff.rfl

theorem four_lens (g a c r : Int) (hg : 0 ≤ g) (ha : 0 ≤ a) (hc : 0 ≤ c) (hr : 0 ≤ r) : lengths (Neutral.four g a c r) = lensOk g a c r := by
  rw [Bool.eq_iff_iff, lensOk_iff]
  unfold lengths
  rw [Bool.and_eq_true, Bool.and_eq_true, Bool.and_eq_true, isLength_iff, isLength_iff, isLength_iff, isLength_iff]
  show (1 ≤ g.toNat ∧ g.toNat ≤ 999) ∧ (1 ≤ a.toNat ∧ a.toNat ≤ 999) ∧ (1 ≤ c.toNat ∧ c.toNat ≤ 999) ∧ (1 ≤ r.toNat ∧ r.toNat ≤ 999) ↔ _
  omega

theorem perm_sum : ∀ {l m : List Int}, l.Perm m → l.sum = m.sum := by
  intro l m h
  induction h with
  | nil => rfl
  | cons x _ ih => simp [ih]
  | swap x y l => simp; omega
  | trans _ _ h1 h2 => exact h1.trans h2

theorem or_bounds {x0 x1 x2 x3 g : Int} (h01 : x0 ≤ x1) (h12 : x1 ≤ x2) (h23 : x2 ≤ x3) (h : g = x0 ∨ g = x1 ∨ g = x2 ∨ g = x3) : x0 ≤ g ∧ g ≤ x3 := by
  omega

theorem longest_of {g a c r x3 : Int} (m3 : x3 = g ∨ x3 = a ∨ x3 = c ∨ x3 = r) (h0 : 0 ≤ x3) (bg : g ≤ x3) (ba : a ≤ x3) (bc : c ≤ x3) (br : r ≤ x3) :
    ((Neutral.four g a c r).longest : Int) = x3 := by
  show ((max (max g.toNat a.toNat) (max c.toNat r.toNat) : Nat) : Int) = x3
  have e := Int.toNat_of_nonneg h0
  have e1 : g.toNat ≤ x3.toNat := by omega
  have e2 : a.toNat ≤ x3.toNat := by omega
  have e3 : c.toNat ≤ x3.toNat := by omega
  have e4 : r.toNat ≤ x3.toNat := by omega
  have e5 : max (max g.toNat a.toNat) (max c.toNat r.toNat) = x3.toNat := by
    refine Nat.le_antisymm (Nat.max_le.2 ⟨Nat.max_le.2 ⟨e1, e2⟩, Nat.max_le.2 ⟨e3, e4⟩⟩) ?_
    rcases m3 with h | h | h | h <;> subst h
    · exact Nat.le_trans (Nat.le_max_left _ _) (Nat.le_max_left _ _)
    · exact Nat.le_trans (Nat.le_max_right _ _) (Nat.le_max_left _ _)
    · exact Nat.le_trans (Nat.le_max_left _ _) (Nat.le_max_right _ _)
    · exact Nat.le_trans (Nat.le_max_right _ _) (Nat.le_max_right _ _)
  rw [e5, e]

theorem shortest_of {g a c r x0 : Int} (m0 : x0 = g ∨ x0 = a ∨ x0 = c ∨ x0 = r) (h0 : 0 ≤ x0) (bg : x0 ≤ g) (ba : x0 ≤ a) (bc : x0 ≤ c) (br : x0 ≤ r) :
    ((Neutral.four g a c r).shortest : Int) = x0 := by
  show ((min (min g.toNat a.toNat) (min c.toNat r.toNat) : Nat) : Int) = x0
  have e := Int.toNat_of_nonneg h0
  have e1 : x0.toNat ≤ g.toNat := by omega
  have e2 : x0.toNat ≤ a.toNat := by omega
  have e3 : x0.toNat ≤ c.toNat := by omega
  have e4 : x0.toNat ≤ r.toNat := by omega
  have e5 : min (min g.toNat a.toNat) (min c.toNat r.toNat) = x0.toNat := by
    refine Nat.le_antisymm ?_ (Nat.le_min.2 ⟨Nat.le_min.2 ⟨e1, e2⟩, Nat.le_min.2 ⟨e3, e4⟩⟩)
    rcases m0 with h | h | h | h <;> subst h
    · exact Nat.le_trans (Nat.min_le_left _ _) (Nat.min_le_left _ _)
    · exact Nat.le_trans (Nat.min_le_left _ _) (Nat.min_le_right _ _)
    · exact Nat.le_trans (Nat.min_le_right _ _) (Nat.min_le_left _ _)
    · exact Nat.le_trans (Nat.min_le_right _ _) (Nat.min_le_right _ _)
  rw [e5, e]

theorem kind_core {L S T G A C : Nat} {g a c x0 x1 x2 x3 : Int} (eL : (L : Int) = x3) (eS : (S : Int) = x0) (eT : (T : Int) = x0 + x1 + x2 + x3) (eg : (G : Int) = g) (ea : (A : Int) = a) (ec : (C : Int) = c)
    (h01 : x0 ≤ x1) (h12 : x1 ≤ x2) (h23 : x2 ≤ x3) :
    ((if S + (T - L - S) < L then 0 else if S + (T - L - S) = L then 1 else if S + L < T - L - S then (if G = S then 2 else if A = S then 3 else if C = S then 4 else 5) else if S + L = T - L - S then 6 else 7 : Nat) : Int) = kindR g a c x0 x1 x2 x3 := by
  have eM : T - L - S = (x1 + x2).toNat := by omega
  have e0 : 0 ≤ x1 + x2 := by omega
  have eM' : ((T - L - S : Nat) : Int) = x1 + x2 := by omega
  generalize T - L - S = M at *
  clear eM
  unfold kindR
  by_cases k1 : S + M < L
  · rw [if_pos k1, if_pos (show x0 + (x1 + x2) ≤ x3 by omega), if_pos (show x0 + (x1 + x2) < x3 by omega)]; rfl
  rw [if_neg k1]
  by_cases k2 : S + M = L
  · rw [if_pos k2, if_pos (show x0 + (x1 + x2) ≤ x3 by omega), if_neg (show ¬ x0 + (x1 + x2) < x3 by omega)]; rfl
  rw [if_neg k2, if_neg (show ¬ x0 + (x1 + x2) ≤ x3 by omega)]
  by_cases k3 : S + L < M
  · rw [if_pos k3, if_pos (show x0 + x3 < x1 + x2 by omega)]
    by_cases j1 : G = S
    · rw [if_pos j1, if_pos (show g = x0 by omega)]; rfl
    rw [if_neg j1, if_neg (show ¬ g = x0 by omega)]
    by_cases j2 : A = S
    · rw [if_pos j2, if_pos (show a = x0 by omega)]; rfl
    rw [if_neg j2, if_neg (show ¬ a = x0 by omega)]
    by_cases j3 : C = S
    · rw [if_pos j3, if_pos (show c = x0 by omega)]; rfl
    rw [if_neg j3, if_neg (show ¬ c = x0 by omega)]; rfl
  rw [if_neg k3, if_neg (show ¬ x0 + x3 < x1 + x2 by omega)]
  by_cases k4 : S + L = M
  · rw [if_pos k4, if_neg (show ¬ x1 + x2 < x0 + x3 by omega)]; rfl
  rw [if_neg k4, if_pos (show x1 + x2 < x0 + x3 by omega)]; rfl

theorem kind_rising {g a c r x0 x1 x2 x3 : Int} (hg : 0 ≤ g) (ha : 0 ≤ a) (hc : 0 ≤ c) (hr : 0 ≤ r)
    (hp : [x0, x1, x2, x3].Perm [g, a, c, r]) (h01 : x0 ≤ x1) (h12 : x1 ≤ x2) (h23 : x2 ≤ x3) :
    kindI g a c r = kindR g a c x0 x1 x2 x3 := by
  have hs := perm_sum hp
  simp only [List.sum_cons, List.sum_nil] at hs
  have m0 : x0 ∈ [g, a, c, r] := hp.mem_iff.1 (by simp)
  have m3 : x3 ∈ [g, a, c, r] := hp.mem_iff.1 (by simp)
  have ng : g ∈ [x0, x1, x2, x3] := hp.mem_iff.2 (by simp)
  have na : a ∈ [x0, x1, x2, x3] := hp.mem_iff.2 (by simp)
  have nc : c ∈ [x0, x1, x2, x3] := hp.mem_iff.2 (by simp)
  have nr : r ∈ [x0, x1, x2, x3] := hp.mem_iff.2 (by simp)
  simp only [List.mem_cons, List.not_mem_nil, or_false] at m0 m3 ng na nc nr
  have bg := or_bounds h01 h12 h23 ng
  have ba := or_bounds h01 h12 h23 na
  have bc := or_bounds h01 h12 h23 nc
  have br := or_bounds h01 h12 h23 nr
  clear ng na nc nr hp
  have p3 : 0 ≤ x3 := by omega
  have p0 : 0 ≤ x0 := by rcases m0 with h | h | h | h <;> (rw [h]; assumption)
  have eL := longest_of m3 p3 bg.2 ba.2 bc.2 br.2
  have eS := shortest_of m0 p0 bg.1 ba.1 bc.1 br.1
  have eT : ((Neutral.four g a c r).sum : Int) = x0 + x1 + x2 + x3 := by
    show ((g.toNat + a.toNat + c.toNat + r.toNat : Nat) : Int) = x0 + x1 + x2 + x3
    clear m0 m3
    omega
  exact kind_core eL eS eT (Int.toNat_of_nonneg hg) (Int.toNat_of_nonneg ha) (Int.toNat_of_nonneg hc) h01 h12 h23
end FB
/-! Four bars: plain law, part 2: pins, cosines, lines. -/
namespace FB
open LkFour LkDSpec

def ab (i : Int) : Int := if i < 0 then -i else i
/-- a fraction in lowest terms -/
def fr (o u : Int) : List Int := [o / ((Int.gcd o u : Nat) : Int), u / ((Int.gcd o u : Nat) : Int)]
def nth (g a c r k : Int) : Int := if k = 0 then g else if k = 1 then a else if k = 2 then c else r
def canBe (w z d : Int) : Bool := decide (ab (w - z) ≤ d) && decide (d ≤ w + z)
def cosI (u v d : Int) : List Int := fr (u * u + v * v - d * d) (2 * u * v)
def mn (i j : Int) : Int := if j < i then j else i
def mx (i j : Int) : Int := if j > i then j else i
/-- a pin's bars: u, v meet there; w goes on from u, z from v -/
structure P4 where
  u : Int
  v : Int
  w : Int
  z : Int
def pinI (g a c r n : Int) : P4 := ⟨nth g a c r ((n + 0) % 4), nth g a c r ((n + 1) % 4), nth g a c r ((n + 3) % 4), nth g a c r ((n + 2) % 4)⟩
def fullI (p : P4) : Bool := canBe p.w p.z (ab (p.u - p.v)) && canBe p.w p.z (p.u + p.v)
def rangeI (p : P4) : List Int := cosI p.u p.v (mn (p.u + p.v) (p.w + p.z)) ++ cosI p.u p.v (mx (ab (p.u - p.v)) (ab (p.w - p.z)))
def besideI (own far side other d : Int) : List Int :=
  if d = own + far ∨ far < own then fr (d * d + side * side - other * other) (2 * d * side) else fr (0 - (d * d + side * side - other * other)) (2 * d * side)
def lineI (g a c r n folded other : Int) : List Int :=
  let p := pinI g a c r n
  let d := if folded = 1 then ab (p.u - p.v) else p.u + p.v
  if canBe p.w p.z d = false then [0, 0]
  else if (n + 2) % 4 = other then [1, 2] ++ cosI (pinI g a c r other).u (pinI g a c r other).v d
  else if d ≤ 0 then [-5]
  else if (n + 1) % 4 = other then [1, 2] ++ besideI p.v p.u p.z p.w d
  else [1, 2] ++ besideI p.u p.v p.w p.z d

def ansKind (g a c r : Int) : List Int := if lensOk g a c r = false then [-1] else [kindI g a c r]
def ansFull (g a c r pin : Int) : List Int :=
  if lensOk g a c r = false then [-1] else if ¬ pin ≤ 3 then [-1] else if kindI g a c r = 0 then [-2] else [if fullI (pinI g a c r pin) = true then 1 else 0]
def ansRange (g a c r pin : Int) : List Int :=
  if lensOk g a c r = false then [-1] else if ¬ pin ≤ 3 then [-1] else if kindI g a c r = 0 then [-2] else [0, 4] ++ rangeI (pinI g a c r pin)
def ansLine (g a c r pin folded other : Int) : List Int :=
  if lensOk g a c r = false then [-1] else if ¬ (pin ≤ 3 ∧ other ≤ 3 ∧ other ≠ pin ∧ folded ≤ 1) then [-1] else if kindI g a c r = 0 then [-2] else lineI g a c r pin folded other
def ansCircuits (g a c r : Int) : List Int :=
  if lensOk g a c r = false then [-1] else if kindI g a c r = 0 then [0] else [1 + (if 2 ≤ kindI g a c r ∧ kindI g a c r ≤ 5 then 1 else 0)]

/-! ### the specification's own words opened -/
theorem whole4 {g a c r : Int} (hg : 0 ≤ g) (ha : 0 ≤ a) (hc : 0 ≤ c) (hr : 0 ≤ r) : Neutral.whole [g, a, c, r] = true := by
  simp [Neutral.whole, *]
theorem spec_kind {g a c r : Int} (hg : 0 ≤ g) (ha : 0 ≤ a) (hc : 0 ≤ c) (hr : 0 ≤ r) : PyWqapbt.kind g a c r = ansKind g a c r := by
  have e : PyWqapbt.kind g a c r = Neutral.shown (answer ⟨Neutral.four g a c r, .kind⟩) := by
    simp only [PyWqapbt.kind, Neutral.step, Neutral.callOf, if_pos (whole4 hg ha hc hr), LkDSpec.step]
  rw [e]
  unfold answer ansKind
  dsimp only
  rw [four_lens g a c r hg ha hc hr]
  by_cases k : lensOk g a c r = false
  · rw [if_pos k, if_pos (Or.inl k)]; rfl
  · rw [if_neg k, if_neg (by intro q; rcases q with q | q; exact k q; cases q)]; rfl
theorem spec_circuits {g a c r : Int} (hg : 0 ≤ g) (ha : 0 ≤ a) (hc : 0 ≤ c) (hr : 0 ≤ r) : PyWqapbt.circuits g a c r = ansCircuits g a c r := by
  have e : PyWqapbt.circuits g a c r = Neutral.shown (answer ⟨Neutral.four g a c r, .circuits⟩) := by
    simp only [PyWqapbt.circuits, Neutral.step, Neutral.callOf, if_pos (whole4 hg ha hc hr), LkDSpec.step]
  rw [e]
  unfold answer ansCircuits
  dsimp only
  rw [four_lens g a c r hg ha hc hr]
  by_cases k : lensOk g a c r = false
  · rw [if_pos k, if_pos (Or.inl k)]; rfl
  · rw [if_neg k, if_neg (by intro q; rcases q with q | q; exact k q; cases q)]
    show [(((Neutral.four g a c r).circuits : Nat) : Int)] = _
    unfold Four.circuits kindI
    generalize (Neutral.four g a c r).kind = K
    by_cases k0 : K = 0
    · rw [if_pos k0, if_pos (show (K : Int) = 0 by omega)]; rfl
    · rw [if_neg k0, if_neg (show ¬ (K : Int) = 0 by omega)]
      by_cases k1 : 2 ≤ K ∧ K ≤ 5
      · rw [if_pos k1, if_pos (show 2 ≤ (K : Int) ∧ (K : Int) ≤ 5 by omega)]; rfl
      · rw [if_neg k1, if_neg (show ¬ (2 ≤ (K : Int) ∧ (K : Int) ≤ 5) by omega)]; rfl

theorem two_div (a b : Int) (hb : 0 < b) : two ((a : Rat) / (b : Rat)) = fr a b := by
  rw [← Rat.divInt_eq_div]
  unfold two fr
  rw [Rat.num_divInt, Rat.den_divInt, if_neg (by omega), Int.sign_eq_one_of_pos hb, Int.one_mul, Int.gcd_comm]
  congr 1
  congr 1
  rw [Int.natCast_ediv]; congr 1; omega
theorem two_cosine {u v : Nat} {s : Int} (hu : 1 ≤ u) (hv : 1 ≤ v) : two (cosine u v s) = fr ((u : Int) * u + (v : Int) * v - s) (2 * (u : Int) * v) := by
  have p : 0 < 2 * (u : Int) * v := Int.mul_pos (by omega) (by omega)
  rw [← two_div _ _ p]
  unfold cosine
  congr 1
  congr 1
  · rw [Rat.intCast_sub]; rfl
theorem ab_le {x y : Int} : ab x ≤ y ↔ x ≤ y ∧ -x ≤ y := by
  unfold ab; split <;> omega
theorem ab_nonneg (x : Int) : 0 ≤ ab x := by
  unfold ab; split <;> omega
theorem ab_sq (x : Int) : ab x * ab x = x * x := by
  unfold ab; split
  · rw [Int.neg_mul_neg]
  · rfl
theorem gap_cast (x y : Nat) : ((gap x y : Nat) : Int) = ab ((x : Int) - y) := by
  unfold gap ab; split <;> omega
end FB
/-! Four bars: what the walks of all the defs share. -/
namespace FW
open PySem L2 Evl

/-! ### callees by name -/
section
variable (P : Program) (w : World) (K : PySem.W.Frag) (mg : Str → Option Value) (base : Heap)
def Cal (k : Nat) (x : Str) (sp : Sp) : Prop := ∃ f fd ps, FnOk P w K mg base (L2.CX P w) k f fd ps sp ∧ mg x = some (.ref f) ∧ PySem.W.keepIn K (.ref f) = true ∧ Binds K fd ps []
def Met (k : Nat) (C : Addr) (m : Str) (sp : Sp) : Prop := ∃ f fd ps, FnOk P w K mg base (L2.CX P w) k f fd ps sp ∧ Meth K C m f ∧ Binds K fd ps []
def Mak (k : Nat) (x : Str) (C : Addr) (sp : Sp) : Prop := ∃ f fd ps, FnOk P w K mg base (L2.CX P w) k f fd ps sp ∧ Mk K C f ∧ mg x = some (.ref C) ∧ Binds K fd ps []
end
section
variable {X : Cx} {k j : Nat} {x m : Str} {C : Addr} {sp : Sp} {E : XK} {p pos apos : Pos} {e o : Expr} {es : List Expr} {t : TA} {ta : TE}
theorem pe_cal (c : Cal X.prog X.w X.K X.mg X.base k x sp) (hr : Room j X.A) (hk : k ≤ j) (hx : Passes (L2.CX X.prog X.w) X E) (ha : PA X (e :: es) t) (hg : Gl X x := by rfl) (hdb : (x == ("__debug__" : Str)) = false := by decide)
    (he : starEach (e :: es) X.env = (false, eval e X.env) :: starEach es X.env := by rfl) (hpl : (backTo pos (starEach es X.env)).any (·.1) = false := by rfl) : PE X (.Call (.Name x p) (e :: es) [] pos) (tCall sp [] E t) := by
  obtain ⟨f, fd, ps, F, hm, hkp, hb⟩ := c
  exact pe_call F (hr.mono hk) hg hm hkp hb .nil hx ha hdb he hpl
theorem pe_mak (c : Mak X.prog X.w X.K X.mg X.base k x C sp) (hr : Room j X.A) (hk : k + 1 ≤ j) (hx : Passes (L2.CX X.prog X.w) X E) (ha : PA X (e :: es) t) (hg : Gl X x := by rfl) (hdb : (x == ("__debug__" : Str)) = false := by decide)
    (he : starEach (e :: es) X.env = (false, eval e X.env) :: starEach es X.env := by rfl) (hpl : (backTo pos (starEach es X.env)).any (·.1) = false := by rfl) : PE X (.Call (.Name x p) (e :: es) [] pos) (tMake C sp [] E t) := by
  obtain ⟨f, fd, ps, F, M, hm, hb⟩ := c
  exact pe_make M F (hr.mono hk) hg hm hb .nil hx ha hdb he hpl
theorem pe_met0 {pl : Sem Bool} (he : PE X o ta) (cl : Cls X.K C) (c : Met X.prog X.w X.K X.mg X.base k C m sp) (hr : Room j X.A) (hk : k ≤ j) (hx : Passes (L2.CX X.prog X.w) X E)
    (ht : eval (.Call (.Attribute o m apos) [] [] pos) X.env = (do let ov ← eval o X.env; standAt apos.atName; let (f, first) ← holding [ov] (getMethod ov m pl); callWith pos f first (backTo pos (starEach [] X.env)) (backToKw pos (keywordEach [] X.env))) := by rfl) :
    PE X (.Call (.Attribute o m apos) [] [] pos) (tMeth C m sp [] E ta tNil) := by
  obtain ⟨f, fd, ps, F, M, hb⟩ := c
  exact pe_meth0 he cl M F (hr.mono hk) hb .nil hx ht
theorem pe_met {pl : Sem Bool} (he : PE X o ta) (cl : Cls X.K C) (c : Met X.prog X.w X.K X.mg X.base k C m sp) (hr : Room j X.A) (hk : k ≤ j) (hx : Passes (L2.CX X.prog X.w) X E) (ha : PA X (e :: es) t)
    (ht : eval (.Call (.Attribute o m apos) (e :: es) [] pos) X.env = (do let ov ← eval o X.env; standAt apos.atName; let (f, first) ← holding [ov] (getMethod ov m pl); callWith pos f first (backTo pos (starEach (e :: es) X.env)) (backToKw pos (keywordEach [] X.env))) := by rfl)
    (he2 : starEach (e :: es) X.env = (false, eval e X.env) :: starEach es X.env := by rfl) (hpl : (backTo pos (starEach es X.env)).any (·.1) = false := by rfl) :
    PE X (.Call (.Attribute o m apos) (e :: es) [] pos) (tMeth C m sp [] E ta t) := by
  obtain ⟨f, fd, ps, F, M, hb⟩ := c
  exact pe_meth he cl M F (hr.mono hk) hb .nil hx ha he2 hpl ht
end
/-- a def that lets nothing out, where others may -/
theorem fn_up {P : Program} {w : World} {K : PySem.W.Frag} {mg : Str → Option Value} {base : Heap} {k : Nat} {f : Addr} {fd : FuncData} {ps : List Str} {sp : Sp} (F : FnOk P w K mg base CX0 k f fd ps sp) : FnOk P w K mg base (L2.CX P w) k f fd ps sp :=
  ⟨F.len, fun A outer s H args us vs Q E hr en bt vl h => codeAny_mono (F.run A outer s H args us vs Q E hr en bt vl h) fun r s' q => by
    cases r with
    | error e => exact False.elim q
    | ok fl => cases fl <;> exact q⟩
/-! ### what is let out -/
/-- a refusal with its number -/
def Out (R : Addr) (E : XK) (n : Int) (H : Hp) : Prop := ∀ d H2, Ex H H2 → H2 d = some (.xd [(("code" : Str), .int n)]) → E (.ref R) (some d) H2
theorem Out.go {R : Addr} {E : XK} {n : Int} {H H' : Hp} (h : Out R E n H) (e : Ex H H') : Out R E n H' := fun d H2 e2 hd => h d H2 (e.trans e2) hd
/-- the wish of a try's body where the slots may stand as they like -/
abbrev EW (W : WX) (n : Nat) : XK := fun cls d H => ∀ σ : St, σ.length = n → W cls d σ H
theorem passLen {X : Cx} {W : WX} {n : Nat} (tk : Takes X W) (hn : X.N.length = n) : Passes (L2.CX X.prog X.w) X (EW W n) := fun _ σ _ _ e s' I c =>
  tk e s' (XE.of_call I (fun cls d H' h => h σ (I.len.trans hn)) c)
theorem passE {X : Cx} {E : XK} (tk : Takes X (fun cls d _ H => E cls d H)) : Passes (L2.CX X.prog X.w) X E := passes_call tk fun _ _ _ _ h => h

/-! ### what evaluates to what, further -/
section
variable {K : PySem.W.Frag} {σ : L2.St} {H H' : Hp} {ta tb te : TE} {x y z v : V}
theorem ev_fld {a C dx : Addr} {fs : List (Str × V)} {f : Str} (h : Ev ta σ H (.ref a)) (ho : H a = some (.ins C dx fs)) (hc : Cls K C) (hn : NoAttr K C f) (hl : fs.lookup f = some v) : Ev (tFld K ta f) σ H v := fun H1 e Q q =>
  h H1 e _ fun H2 e2 => ⟨a, C, dx, fs, v, rfl, e2 _ _ (e _ _ ho), hc, hn, hl, q H2 e2⟩
theorem ev_abs {ta : TE} {i : Int} (h : Ev ta σ H (.int i)) : Ev (tCB (fun xs H Q => ∃ i, xs = [V.int i] ∧ Q (.int (if i < 0 then -i else i)) H) (tCons ta tNil)) σ H (.int (FB.ab i)) := fun H1 e Q q =>
  h H1 e _ fun H2 e2 => ⟨i, rfl, q H2 e2⟩
theorem ev_intB {b : Bool} (h : Ev ta σ H (.bl b)) : Ev (tCB (fun xs H Q => (∃ i, xs = [V.int i] ∧ Q (.int i) H) ∨ ∃ k, xs = [V.bl k] ∧ Q (.int (if k then 1 else 0)) H) (tCons ta tNil)) σ H (.int (if b = true then 1 else 0)) := fun H1 e Q q =>
  h H1 e _ fun H2 e2 => Or.inr ⟨b, rfl, q H2 e2⟩
theorem ev_min2 {i j : Int} (ha : Ev ta σ H (.int i)) (hb : Ev tb σ H (.int j)) : Ev (tCB (fun xs H Q => ∃ i j, xs = [V.int i, V.int j] ∧ Q (.int (if j < i then j else i)) H) (tCons ta (tCons tb tNil))) σ H (.int (FB.mn i j)) := fun H1 e Q q =>
  ha H1 e _ fun H2 e2 => hb H2 (e.trans e2) _ fun H3 e3 => ⟨i, j, rfl, q H3 (e2.trans e3)⟩
theorem ev_mx2 {i j : Int} (ha : Ev ta σ H (.int i)) (hb : Ev tb σ H (.int j)) : Ev (tCB (fun xs H Q => ∃ i j, xs = [V.int i, V.int j] ∧ Q (.int (if j > i then j else i)) H) (tCons ta (tCons tb tNil))) σ H (.int (FB.mx i j)) := fun H1 e Q q =>
  ha H1 e _ fun H2 e2 => hb H2 (e.trans e2) _ fun H3 e3 => ⟨i, j, rfl, q H3 (e2.trans e3)⟩
/-- o.m(..), what m promises a value -/
theorem ev_meth {a C dx : Addr} {fs : List (Str × V)} {m : Str} {sp : Sp} {E : XK} {tr : TA} {vs : List V} (h : Ev ta σ H (.ref a)) (ho : H a = some (.ins C dx fs)) (hl : fs.lookup m = none) (hr : EvA tr σ H vs) (hs : SpV sp (.ref a :: vs) H z) : Ev (tMeth C m sp [] E ta tr) σ H z := fun H1 e Q q =>
  h H1 e _ fun H2 e2 => ⟨a, dx, fs, rfl, e2 _ _ (e _ _ ho), hl, hr H2 (e.trans e2) _ fun H3 e3 => by
    have k := hs H3 ((e.trans e2).trans e3) Q (fun H4 e4 => q H4 ((e2.trans e3).trans e4)) E
    show sp (V.ref a :: (vs ++ [])) H3 Q E
    rw [List.append_nil]
    exact k⟩
theorem ev_cal {sp : Sp} {E : XK} {tr : TA} {vs : List V} (hr : EvA tr σ H vs) (hs : SpV sp vs H z) : Ev (tCall sp [] E tr) σ H z := ev_call hr (by rw [List.append_nil]; exact hs)
theorem el_cal {sp : Sp} {E : XK} {tr : TA} {vs xs : List V} (hr : EvA tr σ H vs) (hs : SpL sp vs H xs) : EvL (tCall sp [] E tr) σ H xs := el_call hr (by rw [List.append_nil]; exact hs)
theorem el_meth {a C dx : Addr} {fs : List (Str × V)} {m : Str} {sp : Sp} {E : XK} {tr : TA} {vs xs : List V} (h : Ev ta σ H (.ref a)) (ho : H a = some (.ins C dx fs)) (hl : fs.lookup m = none) (hr : EvA tr σ H vs) (hs : SpL sp (.ref a :: vs) H xs) : EvL (tMeth C m sp [] E ta tr) σ H xs := fun H1 e Q q =>
  h H1 e _ fun H2 e2 => ⟨a, dx, fs, rfl, e2 _ _ (e _ _ ho), hl, hr H2 (e.trans e2) _ fun H3 e3 => by
    have k := hs H3 ((e.trans e2).trans e3) Q (fun p H4 hp e4 h4 => q p H4 (fresh_back (e2.trans e3) hp) ((e2.trans e3).trans e4) h4) E
    show sp (V.ref a :: (vs ++ [])) H3 Q E
    rw [List.append_nil]
    exact k⟩
/-- a new object of the class at C with these fields -/
def EvO1 (te : TE) (σ : L2.St) (H : Hp) (C : Addr) (fs : List (Str × V)) : Prop := ∀ H1, Ex H H1 → ∀ Q : VK, (∀ p dx H2, H1 p = none → Ex H1 H2 → H2 p = some (.ins C dx fs) → Q (.ref p) H2) → te σ H1 Q
/-- what a promise makes: a new object -/
def SpO (sp : Sp) (vs : List V) (H : Hp) (C : Addr) (fs : List (Str × V)) : Prop := ∀ H1, Ex H H1 → ∀ Q : VK, (∀ p dx H2, H1 p = none → Ex H1 H2 → H2 p = some (.ins C dx fs) → Q (.ref p) H2) → ∀ E : XK, sp vs H1 Q E
/-- a maker's promise: the fields of the object at p -/
def Fills (C : Addr) (H : Hp) (p dx : Addr) (fs : List (Str × V)) (Q : VK) : Prop := ∀ H2, (∀ b o, b ≠ p → H b = some o → H2 b = some o) → H2 p = some (.ins C dx fs) → Q .non H2
theorem ex_made {H H2 : Hp} {p dx C : Addr} (hp : H p = none) (hd : H dx = none) (k : ∀ b o, b ≠ p → (upd (upd H dx (.own p)) p (.ins C dx [])) b = some o → H2 b = some o) : Ex H H2 := fun b o hb => by
  have n1 : b ≠ p := ne_of_none hb hp
  have n2 : b ≠ dx := ne_of_none hb hd
  exact k b o n1 (by rw [upd_ne n1, upd_ne n2]; exact hb)
theorem eo_make {C : Addr} {sp : Sp} {E : XK} {tr : TA} {vs : List V} {fs : List (Str × V)} (hr : EvA tr σ H vs)
    (hs : ∀ H1 p dx Q, Ex H H1 → H1 p = some (.ins C dx []) → Fills C H1 p dx fs Q → sp (.ref p :: vs) H1 Q E) : EvO1 (tMake C sp [] E tr) σ H C fs := fun H1 e Q q =>
  hr H1 e _ fun H2 e2 => by
    intro p dx hp hd hne
    have ee : Ex H (upd (upd H2 dx (.own p)) p (.ins C dx [])) := fun b o hb => by
      have hb2 := e2 b o (e b o hb)
      rw [upd_ne (ne_of_none hb2 hp), upd_ne (ne_of_none hb2 hd)]
      exact hb2
    have k := hs (upd (upd H2 dx (.own p)) p (.ins C dx [])) p dx (fun v H3 => v = .non ∧ Q (.ref p) H3) ee upd_same (fun H3 k3 h3 => ⟨rfl, q p dx H3 (fresh_back e2 hp) (e2.trans (ex_made hp hd k3)) h3⟩)
    show sp (V.ref p :: (vs ++ [])) _ _ _
    rw [List.append_nil]
    exact k
theorem s_asgO {i : Nat} {D : Ends} {C : Addr} {fs : List (Str × V)} (h : EvO1 te σ H C fs) (k : ∀ p dx H1, H p = none → Ex H H1 → H1 p = some (.ins C dx fs) → D.nx (σ.set i (some (.ref p))) H1) : tAsg te (gName i) D σ H := h H (Ex.refl H) _ fun p dx H1 hp e h1 => k p dx H1 hp e h1
theorem q_asgO {i : Nat} {D : Ends} {tz : TS} {C : Addr} {fs : List (Str × V)} (h : EvO1 te σ H C fs) (k : ∀ p dx H1, H p = none → Ex H H1 → H1 p = some (.ins C dx fs) → tz D (σ.set i (some (.ref p))) H1) : tSeq (tAsg te (gName i)) tz D σ H := s_asgO (D := { D with nx := tz D }) h k
theorem s_retO {D : Ends} {C : Addr} {fs : List (Str × V)} (h : EvO1 te σ H C fs) (k : ∀ p dx H1, H p = none → Ex H H1 → H1 p = some (.ins C dx fs) → D.rt (.ref p) H1) : tRet te D σ H := h H (Ex.refl H) _ fun p dx H1 hp e h1 => k p dx H1 hp e h1
/-- self.f = v -/
theorem s_fld {D : Ends} {a C dx : Addr} {fs : List (Str × V)} {f : Str} (hv : Ev tb σ H y) (ha : Ev ta σ H (.ref a)) (ho : H a = some (.ins C dx fs)) (hc : Cls K C) (hn : NoAttr K C f) (hl : fs.length < 1000)
    (k : ∀ H1, Ex H H1 → H1 a = some (.ins C dx fs) → D.nx σ (upd H1 a (.ins C dx (putF f y fs)))) : sFld K ta tb f D σ H := hv H (Ex.refl H) _ fun H1 e1 =>
  ha H1 e1 _ fun H2 e2 => ⟨a, C, dx, fs, rfl, e2 _ _ (e1 _ _ ho), hc, hn, hl, k H2 (e1.trans e2) (e2 _ _ (e1 _ _ ho))⟩
theorem q_fld {D : Ends} {tz : TS} {a C dx : Addr} {fs : List (Str × V)} {f : Str} (hv : Ev tb σ H y) (ha : Ev ta σ H (.ref a)) (ho : H a = some (.ins C dx fs)) (hc : Cls K C) (hn : NoAttr K C f) (hl : fs.length < 1000)
    (k : ∀ H1, Ex H H1 → H1 a = some (.ins C dx fs) → tz D σ (upd H1 a (.ins C dx (putF f y fs)))) : tSeq (sFld K ta tb f) tz D σ H := s_fld (D := { D with nx := tz D }) hv ha ho hc hn hl k
end
/-! ### must -/
def spMust (R : Addr) : Sp := fun vs H Q E => ∃ (b : Bool) (n : Int), vs = [.bl b, .int n] ∧ (b = true → RetV .non H Q) ∧ (b = false → Out R E n H)
theorem q_must {σ : L2.St} {H : Hp} {D : Ends} {tz : TS} {R : Addr} {E : XK} {b : Bool} {n : Int} {tr : TA} (h : EvA tr σ H [.bl b, .int n]) (h1 : b = true → ∀ H1, Ex H H1 → tz D σ H1) (h2 : b = false → ∀ H1, Ex H H1 → Out R E n H1) :
    tSeq (tDrop (tCall (spMust R) [] E tr)) tz D σ H := h H (Ex.refl H) _ fun H1 e1 => ⟨b, n, rfl, fun hb H2 e2 => h1 hb H2 (e1.trans e2), fun hb => h2 hb H1 e1⟩
theorem s_must {σ : L2.St} {H : Hp} {D : Ends} {R : Addr} {E : XK} {b : Bool} {n : Int} {tr : TA} (h : EvA tr σ H [.bl b, .int n]) (h1 : b = true → ∀ H1, Ex H H1 → D.nx σ H1) (h2 : b = false → ∀ H1, Ex H H1 → Out R E n H1) :
    tDrop (tCall (spMust R) [] E tr) D σ H := h H (Ex.refl H) _ fun H1 e1 => ⟨b, n, rfl, fun hb H2 e2 => h1 hb H2 (e1.trans e2), fun hb => h2 hb H1 e1⟩
def spRI (R : Addr) : Sp := fun vs H Q _ => ∃ (a : Addr) (n : Int), vs = [.ref a, .int n] ∧ H a = some (exo a R none) ∧ ∀ dx, H dx = none → dx ≠ a → Q .non (upd (upd H dx (exd dx [(("code" : Str), .int n)])) a (exo a R (some dx)))
end FW
/-! Four bars: promises and readings of the defs that most calls share. -/
namespace FW
open PySem L2 Evl
section
variable {K : PySem.W.Frag} {σ : L2.St} {H H' : Hp} {ta tb te : TE} {x y z v : V} {D : Ends} {tz : TS}
def LI (ns : List Int) : List V := ns.map V.int
theorem ev_allL {bs : List Bool} (h : EvL te σ H (bs.map V.bl)) : Ev (tCB (rAll K) (tCons te tNil)) σ H (.bl (bs.all id)) := fun H1 e Q q =>
  h H1 e _ fun p H2 _ e2 hp => ⟨p, bs, rfl, sq_of hp, q H2 e2⟩
theorem q_sorted {i : Nat} {a : Addr} {ns : List Int} (h : Ev te σ H (.ref a)) (hl : SqL K H a (ns.map V.int)) (hn : ns.length < 64)
    (k : ∀ (ns' : List Int) (p : Addr) (H1 : Hp), ns'.Perm ns → ns'.Pairwise (· ≤ ·) → Ex H H1 → H1 p = some (.lst (ns'.map V.int)) → tz D (σ.set i (some (.ref p))) H1) : tSeq (tAsg (tCB (rSorted K) (tCons te tNil)) (gName i)) tz D σ H :=
  h H (Ex.refl H) _ fun H1 e => ⟨a, ns, rfl, ex_l e hl, hn, fun ns' p hp hw hf => k ns' p _ hp hw (e.trans (Ex.new hf)) upd_same⟩
theorem flat_ints : ∀ ns : List Int, (ns.map V.int).all flatV = true
  | [] => rfl
  | _ :: r => flat_ints r
theorem ev_index {a : Addr} {ns : List Int} {n : Int} {j : Nat} (h : Ev te σ H (.ref a)) (hl : SqL K H a (ns.map V.int)) (hx : Ev ta σ H (.int n)) (hj : ns[j]? = some n) (hm : ∀ (m : Nat) (z : Int), m < j → ns[m]? = some z → z ≠ n) :
    Ev (tBM K "list" (rIndex K) te (tCons ta tNil)) σ H (.int (j : Nat)) := fun H1 e Q q =>
  h H1 e _ fun H2 e2 => ⟨Or.inl ⟨rfl, _, ex_l (e.trans e2) hl⟩, hx H2 (e.trans e2) _ fun H3 e3 => ⟨a, ns.map V.int, .int n, j, .int n, rfl, rfl, ex_l ((e.trans e2).trans e3) hl, rfl, flat_ints ns, by rw [List.getElem?_map, hj] <;> rfl, by
      show (n == n) = true
      exact beq_self_eq_true n, fun m z' hmj hz => by
      rw [List.getElem?_map] at hz
      cases hq : ns[m]? with
      | none => rw [hq] at hz; cases hz
      | some u =>
        rw [hq] at hz
        cases hz
        show (u == n) = false
        exact beq_eq_false_iff_ne.mpr (hm m u hmj hq), q H3 (e2.trans e3)⟩⟩
theorem ev_ixL {a : Addr} {xs : List V} {n : Int} {j : Nat} (h : Ev te σ H (.ref a)) (hl : SqL K H a xs) (hx : Ev ta σ H (.int n)) (hn : n = (j : Int)) (hj : xs[j]? = some v) : Ev (tOp (rIxL K) te ta) σ H v := by
  subst hn
  exact ev_op h hx (rv_ixL hl (atI_nat hj))
theorem ev_ixT {a : Addr} {xs : List V} {n : Int} {j : Nat} (h : Ev te σ H (.ref a)) (hl : SqT K H a xs) (hx : Ev ta σ H (.int n)) (hn : n = (j : Int)) (hj : xs[j]? = some v) : Ev (tOp (rIxT K) te ta) σ H v := by
  subst hn
  exact ev_op h hx (rv_ixT hl (atI_nat hj))
theorem ev_neg {i : Int} (h : Ev te σ H (.int i)) : Ev (tUn (rU fun i => .int (-i)) te) σ H (.int (-i)) := ev_un h ru_neg
theorem et_val {b : Bool} (h : Ev te σ H (.bl b)) : EvT (tB te) σ H b := et_B h
theorem yes_T : EvT tYes σ H true := fun H1 _ Q q => q H1 (Ex.refl H1)
end
/-! ### the bars -/
/-- at p: the four lengths -/
def BarsAt (C : Addr) (H : Hp) (p : Addr) (g a c r : Int) : Prop := ∃ dx l, H p = some (.ins C dx [(("lengths" : Str), .ref l)]) ∧ H l = some (.lst (LI [g, a, c, r]))
theorem BarsAt.mono {C : Addr} {H H' : Hp} {p : Addr} {g a c r : Int} (e : Ex H H') (h : BarsAt C H p g a c r) : BarsAt C H' p g a c r := by
  obtain ⟨dx, l, h1, h2⟩ := h
  exact ⟨dx, l, e _ _ h1, e _ _ h2⟩
def spBI (R C : Addr) : Sp := fun vs H Q E => ∃ (p dx l : Addr) (g a c r : Int), vs = [.ref p, .ref l] ∧ H p = some (.ins C dx []) ∧ H l = some (.lst (LI [g, a, c, r])) ∧ p ≠ l ∧
  (FB.lensOk g a c r = true → Fills C H p dx [(("lengths" : Str), .ref l)] Q) ∧ (FB.lensOk g a c r = false → Out R E (-1) H)
def spBK (C : Addr) : Sp := fun vs H Q _ => ∃ (p : Addr) (g a c r : Int), vs = [.ref p] ∧ BarsAt C H p g a c r ∧ FB.lensOk g a c r = true ∧ RetV (.int (FB.kindI g a c r)) H Q
theorem spv_bk {C p : Addr} {H : Hp} {g a c r : Int} (h : BarsAt C H p g a c r) (hl : FB.lensOk g a c r = true) : SpV (spBK C) [.ref p] H (.int (FB.kindI g a c r)) := fun H1 e Q q E => ⟨p, g, a, c, r, rfl, h.mono e, hl, q⟩
/-- Bars([g, a, c, r]) -/
theorem mk_bars {σ : L2.St} {H : Hp} {R C : Addr} {E : XK} {g a c r : Int} {ta : TA} {Q : VK} (h : EvA ta σ H [.int g, .int a, .int c, .int r])
    (h1 : FB.lensOk g a c r = true → ∀ p H1, H p = none → Ex H H1 → BarsAt C H1 p g a c r → Q (.ref p) H1) (h2 : FB.lensOk g a c r = false → Out R E (-1) H) :
    tMake C (spBI R C) [] E (tCons (tLst ta) tNil) σ H Q :=
  h H (Ex.refl H) _ fun H1 e1 => ⟨by show 4 ≤ sizeLine; decide, fun l hl => by
    intro p dx hp hd hne
    have hlp : p ≠ l := fun z => by rw [z, upd_same] at hp; cases hp
    have e2 : Ex H1 (upd H1 l (.lst (LI [g, a, c, r]))) := Ex.new hl
    have e3 : Ex (upd H1 l (.lst (LI [g, a, c, r]))) (upd (upd (upd H1 l (.lst (LI [g, a, c, r]))) dx (.own p)) p (.ins C dx [])) := fun b o hb => by
      rw [upd_ne (ne_of_none hb hp), upd_ne (ne_of_none hb hd)]
      exact hb
    refine ⟨p, dx, l, g, a, c, r, rfl, upd_same, e3 _ _ upd_same, hlp, fun ok => ?_, fun bad => (h2 bad).go ((e1.trans e2).trans e3)⟩
    intro H2 k2 hp2
    have ee : Ex H1 H2 := (e2.trans (ex_made hp hd k2))
    exact ⟨rfl, h1 ok p H2 (fresh_back (e1.trans e2) hp) (e1.trans ee) ⟨dx, l, hp2, k2 l _ (Ne.symm hlp) (e3 _ _ upd_same)⟩⟩⟩
theorem q_bars {σ : L2.St} {H : Hp} {D : Ends} {tz : TS} {R C : Addr} {E : XK} {g a c r : Int} {i : Nat} {ta : TA} (h : EvA ta σ H [.int g, .int a, .int c, .int r])
    (h1 : FB.lensOk g a c r = true → ∀ p H1, H p = none → Ex H H1 → BarsAt C H1 p g a c r → tz D (σ.set i (some (.ref p))) H1) (h2 : FB.lensOk g a c r = false → Out R E (-1) H) :
    tSeq (tAsg (tMake C (spBI R C) [] E (tCons (tLst ta) tNil)) (gName i)) tz D σ H := mk_bars (Q := fun x H1 => gName i x σ H1 (tz D)) h h1 h2
theorem ev4 {σ : L2.St} {H : Hp} {g a c r : V} {i j k l : Nat} (h1 : σ[i]? = some (some g)) (h2 : σ[j]? = some (some a)) (h3 : σ[k]? = some (some c)) (h4 : σ[l]? = some (some r)) : EvA (tCons (tVar i) (tCons (tVar j) (tCons (tVar k) (tCons (tVar l) tNil)))) σ H [g, a, c, r] :=
  ea_cons (ev_var h1) (ea_cons (ev_var h2) (ea_cons (ev_var h3) (ea_cons (ev_var h4) ea_nil)))
/-! ### the try of each call -/
def tsR (R : Addr) (i : Nat) : Addr → Value → Option Addr → TS := fun a cls d => tRet (tLst (tCons (tXf a cls d R "code" (tVar i)) tNil))
/-- what a call hands back: a list of whole numbers -/
def Gives (ns : List Int) (Q : VK) : Prop := ∀ (p : Addr) (H' : Hp), H' p = some (.lst (LI ns)) → Q (.ref p) H'
theorem caught {K : PySem.W.Frag} {R : Addr} {i n : Nat} {Wo : WX} {D : Ends} {z : Int} {H : Hp} (te : PySem.W.exmOne K (.ref R) (.ref R) = some true) (hi : i < n) (k : Gives [z] D.rt) : Out R (EW (wAs K (.ref R) i (tsR R i) Wo D) n) z H := fun d H2 _ hd σ hs =>
  ⟨true, te, fun _ a _ => ⟨.ref a, List.getElem?_set_self (by omega), rfl, rfl, d, _, .int z, rfl, hd, rfl, by show 1 ≤ sizeLine; decide, fun p hp => k p _ upd_same⟩, fun q => Bool.noConfusion q⟩
theorem s_gives {σ : L2.St} {H : Hp} {te : TE} {D : Ends} {ns : List Int} (h : EvL te σ H (LI ns)) (k : Gives ns D.rt) : tRet te D σ H := s_retL h fun p H1 _ _ h1 => k p H1 h1
theorem open_ret1 {te : TE} {D : Ends} {σ : L2.St} {H : Hp} (h : te σ H fun x H1 => [x].length ≤ sizeLine ∧ ∀ p, H1 p = none → D.rt (.ref p) (upd H1 p (.lst [x]))) : tRet (tLst (tCons te tNil)) D σ H := h
theorem open_meth0 {ta : TE} {C : Addr} {m : Str} {sp : Sp} {E : XK} {σ : L2.St} {H : Hp} {Q : VK} (h : ta σ H fun x H1 => ∃ a dx fs, x = .ref a ∧ H1 a = some (.ins C dx fs) ∧ fs.lookup m = none ∧ sp [x] H1 Q E) : tMeth C m sp [] E ta tNil σ H Q := h
/-- x = o.m(), o a call -/
theorem q_asgM {ta : TE} {C : Addr} {m : Str} {sp : Sp} {E : XK} {σ : L2.St} {H : Hp} {D : Ends} {tz : TS} {i : Nat} (h : ta σ H fun x H1 => ∃ a dx fs, x = .ref a ∧ H1 a = some (.ins C dx fs) ∧ fs.lookup m = none ∧ sp [x] H1 (fun v H2 => tz D (σ.set i (some v)) H2) E) : tSeq (tAsg (tMeth C m sp [] E ta tNil) (gName i)) tz D σ H := h
theorem perm4 {l : List Int} {g a c r : Int} (h : l.Perm [g, a, c, r]) : ∃ x0 x1 x2 x3, l = [x0, x1, x2, x3] := by
  have e := h.length_eq
  match l, e with
  | [x0, x1, x2, x3], _ => exact ⟨x0, x1, x2, x3, rfl⟩
/-! ### the calls' promises -/
def spKind : Sp := fun vs H Q _ => ∃ (g a c r : Int), vs = [.int g, .int a, .int c, .int r] ∧ Gives (FB.ansKind g a c r) Q
def spCircuits : Sp := fun vs H Q _ => ∃ (g a c r : Int), vs = [.int g, .int a, .int c, .int r] ∧ Gives (FB.ansCircuits g a c r) Q
/-- an error of the class at S is what the clause names -/
theorem exm_same {K : PySem.W.Frag} {S : Addr} (b : PySem.W.subIn K (.ref S) (.type "BaseException") = some true) (i : PySem.W.isClsIn K S = true) (t : PySem.W.typeIn K (.ref S) = some (.type "type")) (s : PySem.W.subIn K (.ref S) (.ref S) = some true) : PySem.W.exmOne K (.ref S) (.ref S) = some true := by
  unfold PySem.W.exmOne
  rw [b]
  have i' : (PySem.W.clsIn K S).isSome = true := i
  show PySem.W.kitCls K (.ref S) (.ref S) = some true
  unfold PySem.W.kitCls
  show (if ((PySem.W.clsIn K S).isSome && PySem.W.typeIn K (.ref S) == some (.type "type")) = true then PySem.W.subIn K (.ref S) (.ref S) else none) = some true
  rw [i', t, s]
  rfl
end FW
namespace FW
open PySem L2 Evl
def top (i : Nat) : Stmt := PySem.Challenge.pw_fourbars_s05_circuits.main.body.getD i (.Pass ⟨0, 0, 0, 0⟩)
abbrev tx_Refused_new : Stmt := inClass (top 5) 0
abbrev tx_must : Stmt := top 6
abbrev tx_Bars_new : Stmt := inClass (top 7) 0
abbrev tx_Bars_kind : Stmt := inClass (top 7) 1
abbrev tx_circuits : Stmt := top 9
section
variable {P : Program} {w : World} {K : PySem.W.Frag} {mg : Str → Option Value} {base : Heap} {B R : Addr}
theorem sc_Refused_new : FnScope ["self", "code"] ["self", "code"] (defScope tx_Refused_new) := ⟨rfl, rfl, rfl, by decide +kernel, rfl, by decide +kernel, by decide +kernel⟩
theorem ok_Refused_new {f : Addr} {fd : FuncData} (F : Fun K "__init__" "Refused.__init__" tx_Refused_new f fd) (T : OexC K R) (hno : PySem.W.findIn K (.ref R) "code" = some none) : FnOk P w K mg base CX0 1 f fd ["self", "code"] (spRI R) := by
  refine F.ok sc_Refused_new (fun vs H Q E h => ?_) (fun cdv A outer s H vs Q E hr h => ?_)
  · obtain ⟨a, n, rfl, _⟩ := h
    rfl
  · obtain ⟨a, n, rfl, ha, k⟩ := h
    refine ⟨_, pss_one (ps_ost (pv 0) (pv 1)), ?_⟩
    exact ⟨_, rfl, _, rfl, a, R, rfl, T, hno, Or.inl ⟨ha, fun dx hd hne => k dx hd hne⟩⟩
theorem sc_must : FnScope ["is_so", "code"] ["is_so", "code"] (defScope tx_must) := ⟨rfl, rfl, rfl, by decide +kernel, rfl, by decide +kernel, by decide +kernel⟩
theorem ok_must {f fI : Addr} {fd fdI : FuncData} (F : Fun K "must" "must" tx_must f fd) (FI : Fun K "__init__" "Refused.__init__" tx_Refused_new fI fdI) (oex : OexC K R) (hno : PySem.W.findIn K (.ref R) "code" = some none)
    (iR : PySem.W.findIn K (.ref R) "__init__" = some (some (.ref fI))) (tR : PySem.W.typeIn K (.ref fI) = some (.type "function")) (bI : Binds K fdI ["self", "code"] []) (gR : mg "Refused" = some (.ref R)) : FnOk P w K mg base (L2.CX P w) 3 f fd ["is_so", "code"] (spMust R) := by
  have GI : FnOk P w K mg base CX0 1 fI fdI ["self", "code"] (spRI R) := ok_Refused_new FI oex hno
  refine F.okX sc_must (fun vs H Q E h => ?_) (fun cdv A outer s H vs Q E hr h => ?_)
  · obtain ⟨b, n, rfl, _⟩ := h
    rfl
  · obtain ⟨b, n, rfl, k1, k2⟩ := h
    refine ⟨_, (pss_one (ps_if (pt_not (pt_val (pv 0))) (pss_one (ps_raise rfl (takes_of rfl rfl rfl rfl) (pmk_oex oex iR tR GI hr bI .nil pass0 rfl gR (pa_cons (pv 1) pa_nil)))) pss_nil)), ?_⟩
    refine s_if (b := !b) (et_not (et_val (ev_var rfl))) (fun hb H1 e => ?_) (fun hb H1 e => ?_)
    · refine ⟨_, rfl, (by show 1 ≤ 1000; decide), fun a ha => ⟨a, n, rfl, upd_same, fun dx hdx hne => ⟨rfl, dx, [(("code" : Str), .int n)], upd_same, ?_, ?_, ?_⟩⟩⟩
      · rw [upd_ne hne]; exact upd_same
      · rw [upd_ne hne] at hdx; exact hdx
      · have hb' : b = false := by cases b <;> first | rfl | cases hb
        rw [upd_ne hne] at hdx
        refine k2 hb' dx _ (e.trans fun x o hx => ?_) upd_same
        have n1 : x ≠ dx := ne_of_none hx hdx
        have n2 : x ≠ a := ne_of_none hx ha
        rw [upd_ne n1, del_ne n2, upd_ne n2, upd_ne n1, upd_ne n2]
        exact hx
    · have hb' : b = true := by cases b <;> first | rfl | cases hb
      exact k1 hb' H1 e
theorem sc_Bars_new : FnScope ["self", "lengths", "one"] ["self", "lengths"] (defScope tx_Bars_new) := ⟨rfl, rfl, rfl, by decide +kernel, rfl, by decide +kernel, by decide +kernel⟩
theorem ok_Bars_new {f : Addr} {fd : FuncData} (F : Fun K "__init__" "Bars.__init__" tx_Bars_new f fd) (cmust : Cal P w K mg base 3 "must" (spMust R)) (zall : mg "all" = none) {tkgMOST_LENGTH : Tok} (gMOST_LENGTH : mg "MOST_LENGTH" = some (.int 999 tkgMOST_LENGTH)) (clBars : Cls K B) (nBars_lengths : NoAttr K B "lengths") :
    FnOk P w K mg base (L2.CX P w) 4 f fd ["self", "lengths"] (spBI R B) := by
  refine F.okX sc_Bars_new (fun vs H Q E h => ?_) (fun cdv A outer s H vs Q E hr h => ?_)
  · obtain ⟨p, dx, l, g, a, c, r, rfl, _⟩ := h
    rfl
  · obtain ⟨p, dx, l, g, a, c, r, rfl, hp, hl, hne, k1, k2⟩ := h
    refine ⟨_, (pss_cons (ps_expr (pe_cal cmust hr (by decide) (passE (takes_of rfl rfl rfl rfl)) (pa_cons (pe_callB (cr_all rfl) (by rfl) zall PyProof.Rows.boot_all (pa_cons (pe_lc (own := [("one", 2)]) (g := gName 2) (by rfl) sc_Bars_new.nd (pi_list (pv 1)) (blkOk_by (own := [("one", 2)]) (N := ["self", "lengths", "one"]) (sc := defScope tx_Bars_new) (by decide +kernel)) (fun _ _ _ _ _ => pg_name (i := 2) sc_Bars_new.nd rfl (Or.inl rfl)) (fun _ _ _ _ _ => pts_nil) (fun _ _ _ _ _ => (pe_and (pe_cmpR op_le pe_int (pv 2) (nomark _)) (pe_one (pe_cmpR op_le (pv 2) (pe_glob (v := .int 999) rfl gMOST_LENGTH ⟨_, rfl⟩) (nomark _)))))) pa_nil)) (pa_cons (pe_un un_neg pe_int) pa_nil))))
      (pss_one (ps_fld (pv 0) (pv 1) rfl))), ?_⟩
    refine q_must (b := FB.lensOk g a c r) (n := -1) (ea_cons (ev_is (ev_allL (bs := [(decide (1 ≤ g) && decide (g ≤ 999)), (decide (1 ≤ a) && decide (a ≤ 999)), (decide (1 ≤ c) && decide (c ≤ 999)), (decide (1 ≤ r) && decide (r ≤ 999))])
      (el_lcL (xs := LI [g, a, c, r]) (fun _ => true) (fun i => V.bl (decide (1 ≤ [g, a, c, r].getD i 0) && decide ([g, a, c, r].getD i 0 ≤ 999))) (ev_var rfl) (sq_of hl) (by show 4 ≤ 40000; decide) (fun _ => rfl) (fun _ _ _ _ _ => yes_T) (fun i x H1 e hi _ => ?_))) ?_) (ea_cons (ev_neg ev_c) ea_nil)) (fun hb H1 e => ?_) (fun hb H1 e => (k2 hb).go e)
    · obtain ⟨z, hz, rfl⟩ : ∃ z, [g, a, c, r][i]? = some z ∧ x = V.int z := by
        rw [LI, List.getElem?_map] at hi
        cases q : [g, a, c, r][i]? with
        | none => rw [q] at hi; cases hi
        | some z => rw [q] at hi; exact ⟨z, rfl, (Option.some.inj hi).symm⟩
      have e2 : [g, a, c, r].getD i 0 = z := by rw [List.getD_eq_getElem?_getD, hz]; rfl
      rw [e2]
      exact ev_andV (ev_op ev_c (ev_var rfl) rv_I0) fun _ => ev_op (ev_var rfl) ev_c rv_I0
    · simp [FB.lensOk]
    · refine s_fld (ev_var rfl) (ev_var rfl) (e _ _ hp) clBars nBars_lengths (by show 0 < 1000; decide) (fun H2 e2 hp2 => ?_)
      exact k1 hb _ (fun b o hb ho => by rw [upd_ne hb]; exact e2 _ _ (e _ _ ho)) upd_same
theorem sc_Bars_kind : FnScope ["self", "rising", "least", "longest", "others"] ["self"] (defScope tx_Bars_kind) := ⟨rfl, rfl, rfl, by decide +kernel, rfl, by decide +kernel, by decide +kernel⟩
theorem ok_Bars_kind {f : Addr} {fd : FuncData} (F : Fun K "kind" "Bars.kind" tx_Bars_kind f fd) (zsorted : mg "sorted" = none) (clBars : Cls K B) (nBars_lengths : NoAttr K B "lengths") {tkgIN_LINE : Tok} (gIN_LINE : mg "IN_LINE" = some (.int 1 tkgIN_LINE)) (zint : mg "int" = none) {tkgEVEN : Tok} (gEVEN : mg "EVEN" = some (.int 6 tkgEVEN)) :
    FnOk P w K mg base CX0 1 f fd ["self"] (spBK B) := by
  refine F.ok sc_Bars_kind (fun vs H Q E h => ?_) (fun cdv A outer s H vs Q E hr h => ?_)
  · obtain ⟨p, g, a, c, r, rfl, _⟩ := h
    rfl
  · obtain ⟨p, g, a, c, r, rfl, ⟨dx, l, hp, hl⟩, hok, k⟩ := h
    refine ⟨_, (pss_cons (ps_set (i := 1) sc_Bars_kind.nd rfl (Or.inl rfl) (pe_callB cr_sorted (by rfl) zsorted PyProof.Rows.boot_sorted (pa_cons (pe_fld (pv 0) rfl) pa_nil)))
      (pss_cons (ps_set (i := 2) sc_Bars_kind.nd rfl (Or.inl rfl) (pe_ix ix_list (pv 1) pe_int (fun _ _ => rfl)))
      (pss_cons (ps_set (i := 3) sc_Bars_kind.nd rfl (Or.inl rfl) (pe_ix ix_list (pv 1) pe_int (fun _ _ => rfl)))
      (pss_cons (ps_set (i := 4) sc_Bars_kind.nd rfl (Or.inl rfl) (pe_op op_add (pe_ix ix_list (pv 1) pe_int (fun _ _ => rfl)) (pe_ix ix_list (pv 1) pe_int (fun _ _ => rfl))))
      (pss_cons (ps_if (pt_cmpR op_ge (pv 3) (pe_op op_add (pv 2) (pv 4)) (nomark _)) (pss_one (ps_ret (pe_op op_sub (pe_glob (v := .int 1) rfl gIN_LINE ⟨_, rfl⟩) (pe_callTy call_int1 (by rfl) zint PyProof.Rows.boot_int (pa_cons (pe_cmpR op_gt (pv 3) (pe_op op_add (pv 2) (pv 4)) (nomark _)) pa_nil))))) pss_nil)
      (pss_cons (ps_if (pt_cmpR op_lt (pe_op op_add (pv 2) (pv 3)) (pv 4) (nomark _)) (pss_one (ps_ret (pe_op op_add pe_int (pe_bm PySem.F.plainAttrs_list PySem.F.slot_list_index PySem.F.type_list_index mt_index (pe_fld (pv 0) rfl) (pa_cons (pv 2) pa_nil))))) pss_nil)
      (pss_one (ps_ret (pe_op op_add (pe_glob (v := .int 6) rfl gEVEN ⟨_, rfl⟩) (pe_callTy call_int1 (by rfl) zint PyProof.Rows.boot_int (pa_cons (pe_cmpR op_gt (pe_op op_add (pv 2) (pv 3)) (pv 4) (nomark _)) pa_nil))))))))))), ?_⟩
    refine q_sorted (ns := [g, a, c, r]) (ev_fld (ev_var rfl) hp clBars nBars_lengths rfl) (sq_of hl) (by show 4 < 64; decide) (fun ns' q H1 hpm hpw e1 hq => ?_)
    obtain ⟨x0, x1, x2, x3, rfl⟩ := perm4 hpm
    have h01 : x0 ≤ x1 := (List.pairwise_cons.1 hpw).1 x1 (by simp)
    have h12 : x1 ≤ x2 := (List.pairwise_cons.1 (List.pairwise_cons.1 hpw).2).1 x2 (by simp)
    have h23 : x2 ≤ x3 := (List.pairwise_cons.1 (List.pairwise_cons.1 (List.pairwise_cons.1 hpw).2).2).1 x3 (by simp)
    have lo := FB.lensOk_iff.1 hok
    have ek := FB.kind_rising (g := g) (a := a) (c := c) (r := r) (by omega) (by omega) (by omega) (by omega) hpm h01 h12 h23
    refine q_asg (ev_ixL (j := 0) (ev_var rfl) (sq_of hq) ev_c rfl rfl) (fun H2 e2 => ?_)
    refine q_asg (ev_ixL (j := 3) (ev_var rfl) (sq_of (e2 _ _ hq)) ev_c rfl rfl) (fun H3 e3 => ?_)
    refine q_asg (ev_op (ev_ixL (j := 1) (ev_var rfl) (sq_of (e3 _ _ (e2 _ _ hq))) ev_c rfl rfl) (ev_ixL (j := 2) (ev_var rfl) (sq_of (e3 _ _ (e2 _ _ hq))) ev_c rfl rfl) rv_I0) (fun H4 e4 => ?_)
    have e14 : Ex H H4 := ((e1.trans e2).trans e3).trans e4
    refine q_when (b := decide (x0 + (x1 + x2) ≤ x3)) (et_test (ev_op (ev_var rfl) (ev_op (ev_var rfl) (ev_var rfl) rv_I0) rv_I0)) (fun hb H5 e5 => ?_) (fun hb H5 e5 => ?_)
    · have hb' := of_decide_eq_true hb
      refine s_ret (v := .int (FB.kindI g a c r)) (ev_is (ev_op ev_c (ev_intB (ev_op (ev_var rfl) (ev_op (ev_var rfl) (ev_var rfl) rv_I0) rv_I0)) rv_I0) ?_) (fun H6 e6 => k H6 ((e14.trans e5).trans e6))
      rw [ek]
      unfold FB.kindR
      rw [if_pos hb']
      congr 1
      by_cases z : x0 + (x1 + x2) < x3
      · rw [if_pos z, if_pos (decide_eq_true z)]; rfl
      · rw [if_neg z, if_neg (fun q => z (of_decide_eq_true q))]; rfl
    have hb' := of_decide_eq_false hb
    refine q_when (b := decide (x0 + x3 < x1 + x2)) (et_test (ev_op (ev_op (ev_var rfl) (ev_var rfl) rv_I0) (ev_var rfl) rv_I0)) (fun hc H6 e6 => ?_) (fun hc H6 e6 => ?_)
    · have hc' := of_decide_eq_true hc
      have m0 : x0 ∈ [g, a, c, r] := hpm.mem_iff.1 (by simp)
      have fin : ∀ (j : Nat), [g, a, c, r][j]? = some x0 → (∀ (m : Nat) (z : Int), m < j → [g, a, c, r][m]? = some z → z ≠ x0) → (2 : Int) + (j : Nat) = FB.kindI g a c r → (tRet (tOp (rI0 fun i j => V.int (i + j)) (tC (.int 2)) (tBM K "list" (rIndex K) (tFld K (tVar 0) "lengths") (tCons (tVar 2) tNil)))) { nx := fun _ H' => Q .non H', rt := Q } [some (.ref p), some (.ref q), some (.int x0), some (.int x3), some (.int (x1 + x2))] H6 := by
        intro j hj hm he
        refine s_ret (v := .int (FB.kindI g a c r)) (ev_is (ev_op ev_c (ev_index (ns := [g, a, c, r]) (ev_fld (ev_var rfl) (e6 _ _ (e5 _ _ (e14 _ _ hp))) clBars nBars_lengths rfl) (sq_of (e6 _ _ (e5 _ _ (e14 _ _ hl)))) (ev_var rfl) hj hm) rv_I0) (by rw [he])) (fun H7 e7 => k H7 (((e14.trans e5).trans e6).trans e7))
      rw [ek] at fin
      unfold FB.kindR at fin
      rw [if_neg hb', if_pos hc'] at fin
      by_cases k0 : g = x0
      · exact fin 0 (by rw [k0]; rfl) (fun m z hm => absurd hm (Nat.not_lt_zero _)) (by rw [if_pos k0]; rfl)
      by_cases k1 : a = x0
      · exact fin 1 (by rw [k1]; rfl) (fun m z hm hz => by
          match m, hm with
          | 0, _ => cases hz; exact k0) (by rw [if_neg k0, if_pos k1]; rfl)
      by_cases k2 : c = x0
      · exact fin 2 (by rw [k2]; rfl) (fun m z hm hz => by
          match m, hm with
          | 0, _ => cases hz; exact k0
          | 1, _ => cases hz; exact k1) (by rw [if_neg k0, if_neg k1, if_pos k2]; rfl)
      have k3 : r = x0 := by
        simp only [List.mem_cons, List.not_mem_nil, or_false] at m0
        omega
      exact fin 3 (by rw [k3]; rfl) (fun m z hm hz => by
          match m, hm with
          | 0, _ => cases hz; exact k0
          | 1, _ => cases hz; exact k1
          | 2, _ => cases hz; exact k2) (by rw [if_neg k0, if_neg k1, if_neg k2]; rfl)
    have hc' := of_decide_eq_false hc
    refine s_ret (v := .int (FB.kindI g a c r)) (ev_is (ev_op ev_c (ev_intB (ev_op (ev_op (ev_var rfl) (ev_var rfl) rv_I0) (ev_var rfl) rv_I0)) rv_I0) ?_) (fun H7 e7 => k H7 (((e14.trans e5).trans e6).trans e7))
    rw [ek]
    unfold FB.kindR
    rw [if_neg hb', if_neg hc']
    congr 1
    by_cases z : x1 + x2 < x0 + x3
    · rw [if_pos z, if_pos (decide_eq_true z)]; rfl
    · rw [if_neg z, if_neg (fun q => z (of_decide_eq_true q))]; rfl
theorem sc_circuits : FnScope ["g", "a", "c", "r", "sort", "refusal"] ["g", "a", "c", "r"] (defScope tx_circuits) := ⟨rfl, rfl, rfl, by decide +kernel, rfl, by decide +kernel, by decide +kernel⟩
theorem ok_circuits {f : Addr} {fd : FuncData} (F : Fun K "circuits" "circuits" tx_circuits f fd) (gR : mg "Refused" = some (.ref R)) (xR : XfC K R) (hno : PySem.W.findIn K (.ref R) "code" = some none) (eR : PySem.W.exmOne K (.ref R) (.ref R) = some true) (clBars : Cls K B) (cBars_new : Mak P w K mg base 4 "Bars" B (spBI R B)) (cBars_kind : Met P w K mg base 1 B "kind" (spBK B)) (zint : mg "int" = none) :
    FnOk P w K mg base CX0 6 f fd ["g", "a", "c", "r"] (spCircuits) := by
  refine F.ok sc_circuits (fun vs H Q E h => ?_) (fun cdv A outer s H vs Q E hr h => ?_)
  · obtain ⟨g, a, c, r, rfl, _⟩ := h
    rfl
  · obtain ⟨g, a, c, r, rfl, k⟩ := h
    refine ⟨_, (pss_one (ps_try_as (i := 5) (ts := tsR R 5) (Wout := fun _ _ _ _ => False) rfl rfl sc_circuits.nd rfl rfl ⟨rfl, by decide, Or.inl gR⟩ takes0
      (fun W pn xe tk _ => (pss_cons (ps_set (i := 4) sc_circuits.nd rfl (Or.inl rfl) (pe_met0 (pe_mak cBars_new hr (by decide) (passLen (n := 6) tk rfl) (pa_cons (pe_lst (pa_cons (pv 0) (pa_cons (pv 1) (pa_cons (pv 2) (pa_cons (pv 3) pa_nil))))) pa_nil)) clBars cBars_kind hr (by decide) passL))
      (pss_cons (ps_if (pt_cmpR op_eq (pv 4) pe_int (nomark _)) (pss_one (ps_ret (pe_lst (pa_cons pe_int pa_nil)))) pss_nil)
      (pss_one (ps_ret (pe_lst (pa_cons (pe_op op_add pe_int (pe_callTy call_int1 (by rfl) zint PyProof.Rows.boot_int (pa_cons (pe_and (pe_cmpR op_le pe_int (pv 4) (nomark _)) (pe_one (pe_cmpR op_le (pv 4) pe_int (nomark _)))) pa_nil))) pa_nil)))))))
      (fun a0 oe cls d pn hz hf => (pss_one (ps_ret (pe_lst (pa_cons (pe_xf xR hno hz hf (pv 5)) pa_nil))))))), ?_⟩
    refine q_asgM (mk_bars (g := g) (a := a) (c := c) (r := r) (ev4 rfl rfl rfl rfl) (fun ok p H1 hp e1 hb => ?_) (fun bad => caught eR (by decide) ?_))
    · unfold FB.ansCircuits at k
      rw [if_neg (by rw [ok]; decide)] at k
      have hb' := hb
      obtain ⟨dx, l, hb1, hb2⟩ := hb'
      refine ⟨p, dx, _, rfl, hb1, rfl, p, g, a, c, r, rfl, hb, ok, fun H2 e2 => ?_⟩
      refine q_when (b := decide (FB.kindI g a c r = 0)) (et_test (ev_is (ev_op (ev_var rfl) ev_c (rv_eq rfl)) (by simp))) (fun hz H3 e3 => ?_) (fun hz H3 e3 => ?_)
      · rw [if_pos (of_decide_eq_true hz)] at k
        exact s_gives (el_lst (ea_cons ev_c ea_nil) (by show 1 ≤ 100000; decide)) k
      · rw [if_neg (of_decide_eq_false hz)] at k
        refine s_gives (el_lst (ea_cons (ev_is (ev_op ev_c (ev_intB (b := decide (2 ≤ FB.kindI g a c r) && decide (FB.kindI g a c r ≤ 5)) (ev_andV (ev_op ev_c (ev_var rfl) rv_I0) fun _ => ev_op (ev_var rfl) ev_c rv_I0)) rv_I0) ?_) ea_nil) (by show 1 ≤ 100000; decide)) k
        congr 2
        by_cases z : 2 ≤ FB.kindI g a c r ∧ FB.kindI g a c r ≤ 5
        · rw [if_pos z, if_pos (by simp [z.1, z.2])]
        · rw [if_neg z, if_neg (by simpa using z)]
    · unfold FB.ansCircuits at k
      rw [if_pos bad] at k
      exact k
theorem all_mk {h : Heap} {fa f_Refused_new f_must f_Bars_new f_Bars_kind f_circuits : Addr} (X : K.In h) (G : h.Ns mainGlobals mg) (hfa : mg "circuits" = some (.ref fa))
    {nm qn : Str} {NN : Addr} {bs : List Value} {sn : List Str} {sub : List Value} {ab : Bool} {col : Option Bool} {dd : Option Addr} {m0 m1 m2 m3 m5 : Option Value} {tkgMOST_LENGTH tkgIN_LINE tkgEVEN : Tok} {od_Refused_new an_Refused_new od_must an_must od_Bars_new an_Bars_new od_Bars_kind an_Bars_kind od_circuits an_circuits : Option Addr} {sl_Refused_new sl_must sl_Bars_new sl_Bars_kind sl_circuits : Array (Option Value)} {oc_Refused_new kv_Refused_new dc_Refused_new pm_Refused_new cd_Refused_new ct_Refused_new oc_must kv_must dc_must pm_must cd_must ct_must oc_Bars_new kv_Bars_new dc_Bars_new pm_Bars_new cd_Bars_new ct_Bars_new oc_Bars_kind kv_Bars_kind dc_Bars_kind pm_Bars_kind cd_Bars_kind ct_Bars_kind oc_circuits kv_circuits dc_circuits pm_circuits cd_circuits ct_circuits : Value}
    (aR : PySem.W.nsIn K mainGlobals "Refused" = some (some (.ref R)))
    (xL : K.lookup R = some (excClassObj nm qn R NN bs [.type "ValueError", .type "Exception", .type "BaseException", .type "object"] true sn sub ab col dd m0 m1 m2 m3 m5 "ValueError.__new__"))
    (sa : PySem.W.findIn K (.ref R) "__setattr__" = some (some (.builtin "object.__setattr__")))
    (ga : PySem.W.findIn K (.ref R) "__getattribute__" = some (some (.builtin "BaseException.__getattribute__")))
    (gg : PySem.W.findIn K (.ref R) "__getattr__" = some none)
    (nb : PySem.W.findIn K (.ref R) "code" = some none)
    (kR : PySem.W.keepIn K (.ref R) = true)
    (bR : PySem.W.subIn K (.ref R) (.type "BaseException") = some true)
    (tyR : PySem.W.typeIn K (.ref R) = some (.type "type"))
    (hdR : PySem.W.hasDictIn K R = true)
    (isR : PySem.W.isClsIn K R = true)
    (suR : PySem.W.subIn K (.ref R) (.ref R) = some true)
    (aB : PySem.W.nsIn K mainGlobals "Bars" = some (some (.ref B)))
    (pgB : PySem.W.plainGet K B Str.empty = true)
    (hdB : PySem.W.hasDictIn K B = true)
    (poB : PySem.W.plainOver K B = true)
    (saB : PySem.W.findIn K (.ref B) "__setattr__" = some (some (.builtin "object.__setattr__")))
    (mkB : PySem.W.makesIn K B = true)
    (kcB : PySem.W.keepIn K (.ref B) = true)
    (nRefused_code : PySem.W.findIn K (.ref R) "code" = some none)
    (nBars_lengths : PySem.W.findIn K (.ref B) "lengths" = some none)
    (a_Refused_new : PySem.W.findIn K (.ref R) "__init__" = some (some (.ref f_Refused_new)))
    (tRI : PySem.W.typeIn K (.ref f_Refused_new) = some (.type "function"))
    (l_Refused_new : K.lookup f_Refused_new = some ⟨oc_Refused_new, od_Refused_new, .func (PySem.W.fnOf "__init__" "Refused.__init__" (defArgs tx_Refused_new) (defBody tx_Refused_new) (defScope tx_Refused_new) .none kv_Refused_new dc_Refused_new pm_Refused_new an_Refused_new cd_Refused_new ct_Refused_new), sl_Refused_new⟩)
    (c_Refused_new : PySem.W.codeIn K cd_Refused_new "Refused.__init__" = true)
    (k_Refused_new : PySem.W.keepIn K (.ref f_Refused_new) = true)
    (a_must : PySem.W.nsIn K mainGlobals "must" = some (some (.ref f_must)))
    (l_must : K.lookup f_must = some ⟨oc_must, od_must, .func (PySem.W.fnOf "must" "must" (defArgs tx_must) (defBody tx_must) (defScope tx_must) .none kv_must dc_must pm_must an_must cd_must ct_must), sl_must⟩)
    (c_must : PySem.W.codeIn K cd_must "must" = true)
    (k_must : PySem.W.keepIn K (.ref f_must) = true)
    (a_Bars_new : PySem.W.findIn K (.ref B) "__init__" = some (some (.ref f_Bars_new)))
    (i_Bars_new : PySem.W.isFn K (.ref f_Bars_new) = true)
    (l_Bars_new : K.lookup f_Bars_new = some ⟨oc_Bars_new, od_Bars_new, .func (PySem.W.fnOf "__init__" "Bars.__init__" (defArgs tx_Bars_new) (defBody tx_Bars_new) (defScope tx_Bars_new) .none kv_Bars_new dc_Bars_new pm_Bars_new an_Bars_new cd_Bars_new ct_Bars_new), sl_Bars_new⟩)
    (c_Bars_new : PySem.W.codeIn K cd_Bars_new "Bars.__init__" = true)
    (k_Bars_new : PySem.W.keepIn K (.ref f_Bars_new) = true)
    (a_Bars_kind : PySem.W.findIn K (.ref B) "kind" = some (some (.ref f_Bars_kind)))
    (i_Bars_kind : PySem.W.isFn K (.ref f_Bars_kind) = true)
    (l_Bars_kind : K.lookup f_Bars_kind = some ⟨oc_Bars_kind, od_Bars_kind, .func (PySem.W.fnOf "kind" "Bars.kind" (defArgs tx_Bars_kind) (defBody tx_Bars_kind) (defScope tx_Bars_kind) .none kv_Bars_kind dc_Bars_kind pm_Bars_kind an_Bars_kind cd_Bars_kind ct_Bars_kind), sl_Bars_kind⟩)
    (c_Bars_kind : PySem.W.codeIn K cd_Bars_kind "Bars.kind" = true)
    (k_Bars_kind : PySem.W.keepIn K (.ref f_Bars_kind) = true)
    (a_circuits : PySem.W.nsIn K mainGlobals "circuits" = some (some (.ref f_circuits)))
    (l_circuits : K.lookup f_circuits = some ⟨oc_circuits, od_circuits, .func (PySem.W.fnOf "circuits" "circuits" (defArgs tx_circuits) (defBody tx_circuits) (defScope tx_circuits) .none kv_circuits dc_circuits pm_circuits an_circuits cd_circuits ct_circuits), sl_circuits⟩)
    (c_circuits : PySem.W.codeIn K cd_circuits "circuits" = true)
    (k_circuits : PySem.W.keepIn K (.ref f_circuits) = true)
    (zall : PySem.W.nsIn K mainGlobals "all" = some none)
    (gMOST_LENGTH : PySem.W.nsIn K mainGlobals "MOST_LENGTH" = some (some (.int 999 tkgMOST_LENGTH)))
    (zsorted : PySem.W.nsIn K mainGlobals "sorted" = some none)
    (gIN_LINE : PySem.W.nsIn K mainGlobals "IN_LINE" = some (some (.int 1 tkgIN_LINE)))
    (zint : PySem.W.nsIn K mainGlobals "int" = some none)
    (gEVEN : PySem.W.nsIn K mainGlobals "EVEN" = some (some (.int 6 tkgEVEN))) :
    ∃ fd : FuncData, (∀ (s : Shared) (us : List Value), us.length = (["g", "a", "c", "r"] : List Str).length → BindsTo s fd ⟨us, []⟩ ((["g", "a", "c", "r"] : List Str).zip us)) ∧ ∀ base : Heap, K.In base → base.Ns mainGlobals mg → FnOk P w K mg base CX0 6 fa fd ["g", "a", "c", "r"] (spCircuits) := by
  have e := hfa.symm.trans (PySem.W.mg_of X G a_circuits)
  cases e
  have oex : OexC K R := ⟨⟨nm, qn, NN, bs, _, sn, sub, ab, col, dd, m0, m1, m2, m3, m5, xL, by decide +kernel⟩, sa, bR, tyR, kR⟩
  have gR := PySem.W.mg_of X G aR
  have xR : XfC K R := ⟨ga, gg, bR, hdR⟩
  have eR := exm_same bR isR tyR suR
  have F_Refused_new := fun_mk (st := tx_Refused_new) l_Refused_new c_Refused_new k_Refused_new
  have b_Refused_new := F_Refused_new.binds (ps := ["self", "code"]) fun _ _ _ _ _ _ us hl => match us, hl with | [_, _], _ => rfl
  have F_must := fun_mk (st := tx_must) l_must c_must k_must
  have b_must := F_must.binds (ps := ["is_so", "code"]) fun _ _ _ _ _ _ us hl => match us, hl with | [_, _], _ => rfl
  have F_Bars_new := fun_mk (st := tx_Bars_new) l_Bars_new c_Bars_new k_Bars_new
  have b_Bars_new := F_Bars_new.binds (ps := ["self", "lengths"]) fun _ _ _ _ _ _ us hl => match us, hl with | [_, _], _ => rfl
  have F_Bars_kind := fun_mk (st := tx_Bars_kind) l_Bars_kind c_Bars_kind k_Bars_kind
  have b_Bars_kind := F_Bars_kind.binds (ps := ["self"]) fun _ _ _ _ _ _ us hl => match us, hl with | [_], _ => rfl
  have F_circuits := fun_mk (st := tx_circuits) l_circuits c_circuits k_circuits
  have clBars : Cls K B := ⟨pgB, hdB, poB, saB⟩
  have hzall := PySem.W.mg_none_of X G zall
  have hgMOST_LENGTH := PySem.W.mg_of X G gMOST_LENGTH
  have hzsorted := PySem.W.mg_none_of X G zsorted
  have hgIN_LINE := PySem.W.mg_of X G gIN_LINE
  have hzint := PySem.W.mg_none_of X G zint
  have hgEVEN := PySem.W.mg_of X G gEVEN
  refine ⟨PySem.W.fnOf "circuits" "circuits" (defArgs tx_circuits) (defBody tx_circuits) (defScope tx_circuits) .none kv_circuits dc_circuits pm_circuits an_circuits cd_circuits ct_circuits, fun s us hu => match us, hu with | [_, _, _, _], _ => .of_eq rfl, fun base _ _ => ?_⟩
  have cmust : Cal P w K mg base 3 "must" (spMust R) := ⟨_, _, _, ok_must F_must F_Refused_new oex nb a_Refused_new tRI b_Refused_new gR, PySem.W.mg_of X G a_must, k_must, b_must⟩
  have cBars_new : Mak P w K mg base 4 "Bars" B (spBI R B) := ⟨_, _, _, ok_Bars_new F_Bars_new cmust hzall hgMOST_LENGTH clBars nBars_lengths, ⟨mkB, a_Bars_new, i_Bars_new, kcB⟩, PySem.W.mg_of X G aB, b_Bars_new⟩
  have cBars_kind : Met P w K mg base 1 B "kind" (spBK B) := ⟨_, _, _, fn_up (ok_Bars_kind F_Bars_kind hzsorted clBars nBars_lengths hgIN_LINE hzint hgEVEN), ⟨a_Bars_kind, i_Bars_kind, k_Bars_kind⟩, b_Bars_kind⟩
  exact ok_circuits F_circuits gR xR nb eR clBars cBars_new cBars_kind hzint
end
end FW
open PySem PySem.W PyProof.Rows
set_option maxRecDepth 100000 in
set_option maxHeartbeats 0 in
theorem PySem.Challenge.cw_fourbars_s05_circuits_holds : PySem.Challenge.rw_fourbars_s05_circuits.Holds := by
  w_on; k_headS; (case hw => exact ⟨[.int 0, .int 0, .int 0, .int 0], by decide +kernel, by decide +kernel⟩)
  k_fillS
  refine L2.walk_specK (r := PySem.Challenge.rw_fourbars_s05_circuits) (k := 6) (CX := L2.CX0) (ps := ["g", "a", "c", "r"]) (sp := fun _ => FW.spCircuits) (by decide +kernel) rfl rfl ⟨rfl, by decide, by decide⟩ (fun w h Y => PySem.W.kIn_of Y) ?F ?S (fun _ _ _ _ z => z)
  case F =>
    intro w mg fa h Y KX G hmg
    refine' FW.all_mk KX G hmg ?aR ?xL ?sa ?ga ?gg ?nb ?kR ?bR ?tyR ?hdR ?isR ?suR ?aB ?pgB ?hdB ?poB ?saB ?mkB ?kcB ?nRefused_code ?nBars_lengths ?a_Refused_new ?tRI ?l_Refused_new ?c_Refused_new ?k_Refused_new ?a_must ?l_must ?c_must ?k_must ?a_Bars_new ?i_Bars_new ?l_Bars_new ?c_Bars_new ?k_Bars_new ?a_Bars_kind ?i_Bars_kind ?l_Bars_kind ?c_Bars_kind ?k_Bars_kind ?a_circuits ?l_circuits ?c_circuits ?k_circuits ?zall ?gMOST_LENGTH ?zsorted ?gIN_LINE ?zint ?gEVEN
    (case aR => k_is)
    (case xL => k_is)
    (case sa => k_is)
    (case ga => k_is)
    (case gg => k_is)
    (case nb => k_is)
    (case kR => k_is)
    (case bR => k_is)
    (case tyR => k_is)
    (case hdR => k_is)
    (case isR => k_is)
    (case suR => first | rfl | k_is)
    (case aB => k_is)
    (case pgB => k_is)
    (case hdB => k_is)
    (case poB => k_is)
    (case saB => k_is)
    (case mkB => k_is)
    (case kcB => k_is)
    (case nRefused_code => k_is)
    (case nBars_lengths => k_is)
    (case a_Refused_new => k_is)
    (case tRI => k_is)
    (case l_Refused_new => k_is)
    (case c_Refused_new => k_is)
    (case k_Refused_new => k_is)
    (case a_must => k_is)
    (case l_must => k_is)
    (case c_must => k_is)
    (case k_must => k_is)
    (case a_Bars_new => k_is)
    (case i_Bars_new => k_is)
    (case l_Bars_new => k_is)
    (case c_Bars_new => k_is)
    (case k_Bars_new => k_is)
    (case a_Bars_kind => k_is)
    (case i_Bars_kind => k_is)
    (case l_Bars_kind => k_is)
    (case c_Bars_kind => k_is)
    (case k_Bars_kind => k_is)
    (case a_circuits => k_is)
    (case l_circuits => k_is)
    (case c_circuits => k_is)
    (case k_circuits => k_is)
    (case zall => k_is)
    (case gMOST_LENGTH => k_is)
    (case zsorted => k_is)
    (case gIN_LINE => k_is)
    (case zint => k_is)
    (case gEVEN => k_is)
  case S =>
    intro K H xs a hO hwi hask hx
    have e := L2.ints_dw [a.1, a.2.1, a.2.2.1, a.2.2.2.1] xs hx
    subst e
    obtain ⟨x0, x1, x2, x3, u⟩ := a
    have q : (Codec.inInt 0 9223372036854775807 x0 && (Codec.inInt 0 9223372036854775807 x1 && (Codec.inInt 0 9223372036854775807 x2 && (Codec.inInt 0 9223372036854775807 x3 && true)))) = true := hwi
    rw [Bool.and_eq_true, Bool.and_eq_true, Bool.and_eq_true, Bool.and_eq_true, Codec.inInt_iff, Codec.inInt_iff, Codec.inInt_iff, Codec.inInt_iff] at q
    refine ⟨x0, x1, x2, x3, rfl, fun p H' hp => ?_⟩
    show L2.Dw K H' (.ref p) (WData.list ((PyWqapbt.circuits x0 x1 x2 x3).map WData.int))
    rw [FB.spec_circuits q.1.1 q.2.1.1 q.2.2.1.1 q.2.2.2.1.1]
    exact .lst (L2.SqL.of hp) (L2.dw_ints _)
#print axioms PySem.Challenge.cw_fourbars_s05_circuits_holds
