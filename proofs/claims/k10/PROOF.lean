import PyProof.Rows.All
import Wide.All
import OpenK.AllK
import Wide.FinOn
import HandS.ForMost
import HandS.Wide
import HandS.Style
import HandS.Walk
import HandS.Codes
import KE.GoesNew
import PySem.Challenge.RW_fourtouch_k10_whole_touching_in_the_plan
set_option Elab.async false
set_option linter.all false
set_option maxRecDepth 100000
set_option maxHeartbeats 8000000
/-! The plain law: circles as four integers, fours that touch, exchanges, what is asked of two circles. No program here. -/
namespace Ft
structure Ci where
  b : Int
  c : Int
  x : Int
  y : Int
  deriving DecidableEq

def nrm (k : Ci) : Int := k.x * k.x + k.y * k.y - k.b * k.c
def Valid (k : Ci) : Prop := nrm k = 1
def dbl (k l : Ci) : Int := 2 * (k.x * l.x + k.y * l.y) - (k.b * l.c + l.b * k.c)
def outw (k l : Ci) : Bool := decide (0 < k.b + l.b) || (decide (k.b + l.b = 0) && decide (0 < k.c + l.c))
def tch (k l : Ci) : Bool := decide (dbl k l = -2) && outw k l
def opp (k : Ci) : Ci := ⟨0 - k.b, 0 - k.c, 0 - k.x, 0 - k.y⟩
/-- what the law asks of two circles -/
def meets (k l : Ci) : Bool :=
  if k.b = 0 ∧ l.b = 0 then decide (k.x = 0 - l.x ∧ k.y = 0 - l.y) && decide (0 < k.c + l.c)
  else if k.b = 0 then decide (2 * (k.x * l.x + k.y * l.y) - k.c * l.b = -2)
  else if l.b = 0 then decide (2 * (l.x * k.x + l.y * k.y) - l.c * k.b = -2)
  else decide ((k.x * l.b - l.x * k.b) * (k.x * l.b - l.x * k.b) + (k.y * l.b - l.y * k.b) * (k.y * l.b - l.y * k.b) = (k.b + l.b) ^ 2) && decide (0 < k.b + l.b)

/-- they touch -/
def T (k l : Ci) : Prop := dbl k l = -2 ∧ outw k l = true
/-- two circles of the heap -/
structure Pr (k l : Ci) : Prop where
  le : dbl k l ≤ -2
  ow : dbl k l = -2 → outw k l = true

theorem dbl_comm (k l : Ci) : dbl k l = dbl l k := by unfold dbl; grind
theorem outw_comm (k l : Ci) : outw k l = outw l k := by
  unfold outw
  rw [Int.add_comm k.b l.b, Int.add_comm k.c l.c]
theorem outw_iff {k l : Ci} : outw k l = true ↔ 0 < k.b + l.b ∨ (k.b + l.b = 0 ∧ 0 < k.c + l.c) := by
  unfold outw; simp
theorem T.symm {k l : Ci} (h : T k l) : T l k := ⟨by rw [dbl_comm]; exact h.1, by rw [outw_comm]; exact h.2⟩
theorem T.pr {k l : Ci} (h : T k l) : Pr k l := ⟨by rw [h.1]; exact Int.le_refl _, fun _ => h.2⟩
theorem Pr.symm {k l : Ci} (h : Pr k l) : Pr l k := ⟨by rw [dbl_comm]; exact h.le, fun e => by rw [outw_comm]; exact h.ow (by rw [dbl_comm]; exact e)⟩
theorem tch_comm (k l : Ci) : tch k l = tch l k := by unfold tch; rw [dbl_comm, outw_comm]
theorem T.tch {k l : Ci} (h : T k l) : tch k l = true := by
  unfold Ft.tch
  rw [h.2]
  simp [h.1]

theorem sq_nonneg (a : Int) : 0 ≤ a * a := by
  rcases Int.le_total 0 a with h | h
  · exact Int.mul_nonneg h h
  · exact Int.mul_nonneg_of_nonpos_of_nonpos h h
theorem sq_zero {a b : Int} (h : a * a + b * b = 0) : a = 0 ∧ b = 0 := by
  have h1 := sq_nonneg a
  have h2 := sq_nonneg b
  have e1 : a * a = 0 := by omega
  have e2 : b * b = 0 := by omega
  exact ⟨by rcases Int.mul_eq_zero.mp e1 with h | h <;> exact h, by rcases Int.mul_eq_zero.mp e2 with h | h <;> exact h⟩

/-! ### the two tests agree -/
theorem lines_iff {x y x' y' : Int} (h : x * x + y * y = 1) (h' : x' * x' + y' * y' = 1) : (x = 0 - x' ∧ y = 0 - y') ↔ 2 * (x * x' + y * y') = -2 := by
  constructor
  · rintro ⟨e1, e2⟩
    subst e1 e2
    grind
  · intro e
    have z : (x + x') * (x + x') + (y + y') * (y + y') = 0 := by grind
    obtain ⟨z1, z2⟩ := sq_zero z
    omega
theorem across_eq {k l : Ci} (hk : Valid k) (hl : Valid l) :
    (k.x * l.b - l.x * k.b) * (k.x * l.b - l.x * k.b) + (k.y * l.b - l.y * k.b) * (k.y * l.b - l.y * k.b) - (k.b + l.b) ^ 2 = - (k.b * l.b) * (dbl k l + 2) := by
  unfold Valid nrm at hk hl
  unfold dbl
  grind
theorem across_iff {k l : Ci} (hk : Valid k) (hl : Valid l) (h1 : k.b ≠ 0) (h2 : l.b ≠ 0) :
    ((k.x * l.b - l.x * k.b) * (k.x * l.b - l.x * k.b) + (k.y * l.b - l.y * k.b) * (k.y * l.b - l.y * k.b) = (k.b + l.b) ^ 2) ↔ dbl k l = -2 := by
  have e := across_eq hk hl
  constructor
  · intro h
    rw [h, Int.sub_self] at e
    have z : (k.b * l.b) * (dbl k l + 2) = 0 := by grind
    rcases Int.mul_eq_zero.mp z with z | z
    · rcases Int.mul_eq_zero.mp z with z | z
      · exact absurd z h1
      · exact absurd z h2
    · omega
  · intro h
    rw [h] at e
    grind
theorem mid_eq {k l : Ci} (h : k.b = 0) : 2 * (k.x * l.x + k.y * l.y) - k.c * l.b = dbl k l := by
  unfold dbl
  rw [h]
  grind
theorem unit_of {k : Ci} (hk : Valid k) (h : k.b = 0) : k.x * k.x + k.y * k.y = 1 := by
  unfold Valid nrm at hk
  rw [h] at hk
  omega
/-- whatever the two point at, where their double tells that they point outward -/
theorem meets_tch {k l : Ci} (hk : Valid k) (hl : Valid l) (h : dbl k l = -2 → outw k l = true) : tch k l = meets k l := by
  have e0 : tch k l = decide (dbl k l = -2) := by
    unfold tch
    by_cases e : dbl k l = -2
    · rw [h e]; simp
    · simp [e]
  unfold meets
  by_cases h1 : k.b = 0
  · by_cases h2 : l.b = 0
    · rw [if_pos ⟨h1, h2⟩]
      have e1 : dbl k l = 2 * (k.x * l.x + k.y * l.y) := by unfold dbl; rw [h1, h2]; grind
      have e2 := lines_iff (unit_of hk h1) (unit_of hl h2)
      have e3 : outw k l = decide (0 < k.c + l.c) := by unfold outw; rw [h1, h2]; simp
      unfold tch
      rw [e1, e3]
      by_cases z : 2 * (k.x * l.x + k.y * l.y) = -2
      · rw [decide_eq_true z, decide_eq_true (e2.mpr z)]
      · rw [decide_eq_false z, decide_eq_false fun q => z (e2.mp q)]
    · rw [if_neg (fun q => h2 q.2), if_pos h1, e0, mid_eq h1]
  · by_cases h2 : l.b = 0
    · rw [if_neg (fun q => h1 q.1), if_neg h1, if_pos h2, e0, mid_eq h2, dbl_comm]
    · rw [if_neg (fun q => h1 q.1), if_neg h1, if_neg h2]
      have e2 := across_iff hk hl h1 h2
      by_cases z : dbl k l = -2
      · have z' := e2.mpr z
        have o := h z
        rcases outw_iff.mp o with q | ⟨q, q'⟩
        · rw [e0, decide_eq_true z, decide_eq_true z', decide_eq_true q]
          rfl
        · -- their sum is null, and its first part is 0
          exfalso
          have n : (k.x + l.x) * (k.x + l.x) + (k.y + l.y) * (k.y + l.y) = 0 := by
            unfold Valid nrm at hk hl
            unfold dbl at z
            have e : k.b = - l.b := by omega
            grind
          obtain ⟨n1, n2⟩ := sq_zero n
          have e3 : k.b = - l.b := by omega
          have e4 : k.x = - l.x := by omega
          have e5 : k.y = - l.y := by omega
          unfold Valid nrm at hk hl
          unfold dbl at z
          rw [e3, e4, e5] at z hk
          have e6 : l.b * (k.c + l.c) = 0 := by grind
          rcases Int.mul_eq_zero.mp e6 with e7 | e7
          · exact h2 e7
          · omega
      · rw [e0, decide_eq_false z, decide_eq_false fun q => z (e2.mp q)]
        rfl
theorem opp_valid {k : Ci} (h : Valid k) : Valid (opp k) := by
  unfold Valid nrm at *
  unfold opp
  grind
theorem dbl_opp (k l : Ci) : dbl k (opp l) = - dbl k l := by unfold dbl opp; grind

theorem L1 {k l : Ci} (hk : Valid k) (hl : Valid l) (h : Pr k l) : tch k l = meets k l := meets_tch hk hl h.ow
theorem L2 {k l : Ci} (hk : Valid k) (hl : Valid l) (h : Pr k l) : tch l k = meets k l := by rw [tch_comm]; exact L1 hk hl h
theorem L3 {k l : Ci} (hk : Valid k) (hl : Valid l) (h : Pr k l) : tch k (opp l) = meets k (opp l) :=
  meets_tch hk (opp_valid hl) fun e => by
    have := h.le
    rw [dbl_opp] at e
    omega
theorem L4 {k l : Ci} (hk : Valid k) (hl : Valid l) (h : Pr k l) : tch (opp l) k = meets k (opp l) := by rw [tch_comm]; exact L3 hk hl h

/-! ### the point -/
def val (k : Ci) (p q r s : Int) : Int := k.b * (p * p * s * s + r * r * q * q) - 2 * q * s * (k.x * p * s + k.y * r * q) + k.c * q * q * s * s
def sideV (k : Ci) (p q r s : Int) : Int := (if val k p q r s < 0 then 1 else 0) - (if 0 < val k p q r s then 1 else 0)
theorem val_at {k l : Ci} (hk : Valid k) (hl : Valid l) (h : dbl k l = -2) : val k (k.x + l.x) (k.b + l.b) (k.y + l.y) (k.b + l.b) = 0 := by
  have n : (k.x + l.x) * (k.x + l.x) + (k.y + l.y) * (k.y + l.y) = (k.b + l.b) * (k.c + l.c) := by
    unfold Valid nrm at hk hl
    unfold dbl at h
    grind
  have m : 2 * (k.x * (k.x + l.x) + k.y * (k.y + l.y)) - (k.b * (k.c + l.c) + (k.b + l.b) * k.c) = 0 := by
    unfold Valid nrm at hk hl
    unfold dbl at h
    grind
  unfold val
  generalize k.x + l.x = X at *
  generalize k.y + l.y = Y at *
  generalize k.b + l.b = B at *
  generalize k.c + l.c = C at *
  grind
theorem L5 {k l : Ci} (hk : Valid k) (hl : Valid l) (h : dbl k l = -2) :
    sideV k (k.x + l.x) (k.b + l.b) (k.y + l.y) (k.b + l.b) = 0 ∧ sideV l (k.x + l.x) (k.b + l.b) (k.y + l.y) (k.b + l.b) = 0 := by
  have e1 := val_at hk hl h
  have e2 := val_at hl hk (by rw [dbl_comm]; exact h)
  rw [Int.add_comm l.x, Int.add_comm l.b, Int.add_comm l.y] at e2
  unfold sideV
  rw [e1, e2]
  exact ⟨rfl, rfl⟩
theorem val_sum {k l : Ci} (hk : Valid k) (hl : Valid l) (h : dbl k l = -2) (hb : 0 < k.b + l.b) (p r : Int) {q : Int} :
    0 ≤ val k p q r q + val l p q r q := by
  have n : (k.x + l.x) * (k.x + l.x) + (k.y + l.y) * (k.y + l.y) = (k.b + l.b) * (k.c + l.c) := by
    unfold Valid nrm at hk hl
    unfold dbl at h
    grind
  have e : (k.b + l.b) * (val k p q r q + val l p q r q) = (q * ((k.b + l.b) * p - q * (k.x + l.x))) * (q * ((k.b + l.b) * p - q * (k.x + l.x))) + (q * ((k.b + l.b) * r - q * (k.y + l.y))) * (q * ((k.b + l.b) * r - q * (k.y + l.y))) := by
    unfold val
    grind
  have g := Int.add_nonneg (sq_nonneg (q * ((k.b + l.b) * p - q * (k.x + l.x)))) (sq_nonneg (q * ((k.b + l.b) * r - q * (k.y + l.y))))
  rw [← e] at g
  exact Int.nonneg_of_mul_nonneg_right g hb
theorem L6 {k l : Ci} (hk : Valid k) (hl : Valid l) (h : dbl k l = -2) (hb : 0 < k.b + l.b) (p r : Int) {q : Int} :
    ¬ (sideV k p q r q = 1 ∧ sideV l p q r q = 1) := by
  have g := val_sum hk hl h hb p r (q := q)
  unfold sideV
  rintro ⟨h1, h2⟩
  split at h1 <;> split at h2 <;> omega

/-! ### a null vector that looks outward -/
theorem outN {B C X Y B' C' X' Y' : Int} (n : X * X + Y * Y = B * C) (n' : X' * X' + Y' * Y' = B' * C') (o' : 0 < B' ∨ (B' = 0 ∧ 0 < C'))
    (h : 2 * (X * X' + Y * Y') - (B * C' + B' * C) < 0) : 0 < B ∨ (B = 0 ∧ 0 < C) := by
  rcases Int.lt_trichotomy B 0 with hB | hB | hB
  · exfalso
    have g := sq_nonneg X
    have g2 := sq_nonneg Y
    have g3 := sq_nonneg X'
    have g4 := sq_nonneg Y'
    have hC : C ≤ 0 := by
      rcases Int.lt_or_le 0 C with q | q
      · have := Int.mul_neg_of_neg_of_pos hB q
        omega
      · exact q
    rcases o' with p | ⟨p, p'⟩
    · -- times B B'
      have e : (-B) * B' * (2 * (X * X' + Y * Y') - (B * C' + B' * C)) = (B * X' - B' * X) * (B * X' - B' * X) + (B * Y' - B' * Y) * (B * Y' - B' * Y) := by
        have e1 : B * B * (B' * C') = B * B * (X' * X' + Y' * Y') := by rw [n']
        have e2 : B' * B' * (B * C) = B' * B' * (X * X + Y * Y) := by rw [n]
        grind
      have z := Int.add_nonneg (sq_nonneg (B * X' - B' * X)) (sq_nonneg (B * Y' - B' * Y))
      rw [← e] at z
      have m : 0 < (-B) * B' := Int.mul_pos (by omega) p
      have m2 := Int.mul_neg_of_pos_of_neg m h
      omega
    · subst p
      have z : X' * X' + Y' * Y' = 0 := by rw [n']; simp
      obtain ⟨z1, z2⟩ := sq_zero z
      subst z1 z2
      have m := Int.mul_neg_of_neg_of_pos hB p'
      simp at h
      omega
  · subst hB
    have z : X * X + Y * Y = 0 := by rw [n]; simp
    obtain ⟨z1, z2⟩ := sq_zero z
    subst z1 z2
    right
    refine ⟨rfl, ?_⟩
    have h' : 0 < B' * C := by
      simp at h
      omega
    rcases Int.lt_or_le 0 C with q | q
    · exact q
    · rcases o' with p | ⟨p, _⟩
      · have := Int.mul_nonpos_of_nonneg_of_nonpos (Int.le_of_lt p) q
        omega
      · rw [p] at h'
        omega
  · exact .inl hB

/-- twice the sum of the three others less the one -/
def xc (a b c d : Ci) : Ci :=
  ⟨2 * (a.b + b.b + c.b + d.b) - 3 * a.b, 2 * (a.c + b.c + c.c + d.c) - 3 * a.c, 2 * (a.x + b.x + c.x + d.x) - 3 * a.x, 2 * (a.y + b.y + c.y + d.y) - 3 * a.y⟩
theorem xc_nrm (a b c d : Ci) : nrm (xc a b c d) = nrm a + 4 * (nrm b + nrm c + nrm d) + 4 * (dbl b c + dbl b d + dbl c d) - 2 * (dbl a b + dbl a c + dbl a d) := by
  unfold nrm dbl xc
  grind
theorem xc_dbl (a b c d e : Ci) : dbl (xc a b c d) e = 2 * (dbl b e + dbl c e + dbl d e) - dbl a e := by
  unfold dbl xc
  grind
theorem dbl_self (k : Ci) : dbl k k = 2 * nrm k := by unfold dbl nrm; grind
structure Qd (a b c d : Ci) : Prop where
  va : Valid a
  vb : Valid b
  vc : Valid c
  vd : Valid d
  ab : T a b
  ac : T a c
  ad : T a d
  bc : T b c
  bd : T b d
  cd : T c d
theorem Qd.xv {a b c d : Ci} (q : Qd a b c d) : Valid (xc a b c d) := by
  unfold Valid
  rw [xc_nrm, q.va, q.vb, q.vc, q.vd, q.ab.1, q.ac.1, q.ad.1, q.bc.1, q.bd.1, q.cd.1]
  rfl
theorem null_sum {k l : Ci} (hk : Valid k) (hl : Valid l) (h : dbl k l = -2) : (k.x + l.x) * (k.x + l.x) + (k.y + l.y) * (k.y + l.y) = (k.b + l.b) * (k.c + l.c) := by
  unfold Valid nrm at hk hl
  unfold dbl at h
  grind
theorem sum_dbl (k l m n : Ci) : 2 * ((k.x + l.x) * (m.x + n.x) + (k.y + l.y) * (m.y + n.y)) - ((k.b + l.b) * (m.c + n.c) + (m.b + n.b) * (k.c + l.c)) = dbl k m + dbl k n + dbl l m + dbl l n := by
  unfold dbl
  grind
/-- the other circle touches the first of the three -/
theorem Qd.xt {a b c d : Ci} (q : Qd a b c d) : T (xc a b c d) b := by
  have e : ∀ {k}, Valid k → dbl k k = 2 := fun {k} h => by rw [dbl_self, h]; rfl
  have db : dbl (xc a b c d) b = -2 := by rw [xc_dbl, e q.vb, dbl_comm c b, dbl_comm d b, q.bc.1, q.bd.1, q.ab.1]; rfl
  have dc : dbl (xc a b c d) c = -2 := by rw [xc_dbl, e q.vc, q.bc.1, dbl_comm d c, q.cd.1, q.ac.1]; rfl
  have dd : dbl (xc a b c d) d = -2 := by rw [xc_dbl, e q.vd, q.bd.1, q.cd.1, q.ad.1]; rfl
  refine ⟨db, outw_iff.mpr (outN (null_sum q.xv q.vb db) (null_sum q.vc q.vd q.cd.1) (outw_iff.mp q.cd.2) ?_)⟩
  rw [sum_dbl, dc, dd, q.bc.1, q.bd.1]
  decide
theorem xc_swap (a b c d : Ci) : xc a c b d = xc a b c d := by
  unfold xc
  congr 1 <;> omega
theorem xc_swap2 (a b c d : Ci) : xc a d c b = xc a b c d := by
  unfold xc
  congr 1 <;> omega
theorem Qd.p1 {a b c d : Ci} (q : Qd a b c d) : Qd a c b d := ⟨q.va, q.vc, q.vb, q.vd, q.ac, q.ab, q.ad, q.bc.symm, q.cd, q.bd⟩
theorem Qd.p2 {a b c d : Ci} (q : Qd a b c d) : Qd a d c b := ⟨q.va, q.vd, q.vc, q.vb, q.ad, q.ac, q.ab, q.cd.symm, q.bd.symm, q.bc.symm⟩
theorem Qd.p0 {a b c d : Ci} (q : Qd a b c d) : Qd b a c d := ⟨q.vb, q.va, q.vc, q.vd, q.ab.symm, q.bc, q.bd, q.ac, q.ad, q.cd⟩
theorem Qd.xt2 {a b c d : Ci} (q : Qd a b c d) : T (xc a b c d) c := by rw [← xc_swap]; exact q.p1.xt
theorem Qd.xt3 {a b c d : Ci} (q : Qd a b c d) : T (xc a b c d) d := by rw [← xc_swap2]; exact q.p2.xt
/-- exchanged at the first -/
theorem Qd.ex {a b c d : Ci} (q : Qd a b c d) : Qd (xc a b c d) b c d := ⟨q.xv, q.vb, q.vc, q.vd, q.xt, q.xt2, q.xt3, q.bc, q.bd, q.cd⟩
/-- the other circle and the one -/
theorem Qd.far {a b c d : Ci} (q : Qd a b c d) : dbl (xc a b c d) a = -14 := by
  rw [xc_dbl, dbl_self, q.va, dbl_comm b a, dbl_comm c a, dbl_comm d a, q.ab.1, q.ac.1, q.ad.1]; rfl
theorem Qd.far2 {a b c d : Ci} (q : Qd a b c d) : dbl (xc a b c d) (xc b a c d) = -34 := by
  have e : ∀ {k}, Valid k → dbl k k = 2 := fun {k} h => by rw [dbl_self, h]; rfl
  rw [xc_dbl, dbl_comm b, dbl_comm c, dbl_comm d, dbl_comm a, q.p0.far, q.p0.xt.1, q.p0.xt2.1, q.p0.xt3.1]
  rfl

/-! ### sizes -/
structure Sm (M : Int) (k : Ci) : Prop where
  b0 : -M ≤ k.b
  b1 : k.b ≤ M
  c0 : -M ≤ k.c
  c1 : k.c ≤ M
  x0 : -M ≤ k.x
  x1 : k.x ≤ M
  y0 : -M ≤ k.y
  y1 : k.y ≤ M
theorem Sm.mono {M N : Int} {k : Ci} (h : Sm M k) (e : M ≤ N) : Sm N k := by
  obtain ⟨h1, h2, h3, h4, h5, h6, h7, h8⟩ := h
  constructor <;> omega
theorem Sm.opp {M : Int} {k : Ci} (h : Sm M k) : Sm M (opp k) := by
  obtain ⟨h1, h2, h3, h4, h5, h6, h7, h8⟩ := h
  unfold Ft.opp
  constructor <;> dsimp only <;> omega
theorem xc_sm {M : Int} {a b c d : Ci} (ha : Sm M a) (hb : Sm M b) (hc : Sm M c) (hd : Sm M d) : Sm (7 * M) (xc a b c d) := by
  obtain ⟨a1, a2, a3, a4, a5, a6, a7, a8⟩ := ha
  obtain ⟨b1, b2, b3, b4, b5, b6, b7, b8⟩ := hb
  obtain ⟨c1, c2, c3, c4, c5, c6, c7, c8⟩ := hc
  obtain ⟨d1, d2, d3, d4, d5, d6, d7, d8⟩ := hd
  unfold xc
  constructor <;> dsimp only <;> omega
theorem mulb {x s A B : Int} (h1 : -A ≤ x) (h2 : x ≤ A) (h3 : -B ≤ s) (h4 : s ≤ B) : -(A * B) ≤ x * s ∧ x * s ≤ A * B := by
  have e : (x * s).natAbs ≤ A.natAbs * B.natAbs := by
    rw [Int.natAbs_mul]
    exact Nat.mul_le_mul (by omega) (by omega)
  have e2 : (A * B).natAbs = A.natAbs * B.natAbs := Int.natAbs_mul A B
  have e3 : 0 ≤ A * B := Int.mul_nonneg (by omega) (by omega)
  omega

/-! ### laying -/
def mv (k : Ci) (s t : Int) : Ci := ⟨k.b, k.c + 2 * (k.x * s + k.y * t) + k.b * (s * s + t * t), k.x + k.b * s, k.y + k.b * t⟩
def rot : Nat → Ci → Ci
  | 0, k => k
  | n + 1, k => ⟨(rot n k).b, (rot n k).c, 0 - (rot n k).y, (rot n k).x⟩
def mir (f : Bool) (k : Ci) : Ci := if f then ⟨k.b, k.c, 0 - k.x, k.y⟩ else k
def lay (m : Nat) (f : Bool) (s t : Int) (k : Ci) : Ci := mv (mir f (rot m k)) s t
theorem rot_b (m : Nat) (k : Ci) : (rot m k).b = k.b := by
  induction m with
  | zero => rfl
  | succ m ih => exact ih
theorem rot_c (m : Nat) (k : Ci) : (rot m k).c = k.c := by
  induction m with
  | zero => rfl
  | succ m ih => exact ih
theorem rot_nrm (m : Nat) (k : Ci) : nrm (rot m k) = nrm k := by
  induction m with
  | zero => rfl
  | succ m ih =>
    rw [← ih]
    unfold nrm
    dsimp only [rot]
    grind
theorem rot_dbl (m : Nat) (k l : Ci) : dbl (rot m k) (rot m l) = dbl k l := by
  induction m with
  | zero => rfl
  | succ m ih =>
    rw [← ih]
    unfold dbl
    dsimp only [rot]
    grind
theorem rot_outw (m : Nat) (k l : Ci) : outw (rot m k) (rot m l) = outw k l := by
  unfold outw
  rw [rot_b, rot_b, rot_c, rot_c]
theorem rot_sm {M : Int} (m : Nat) {k : Ci} (h : Sm M k) : Sm M (rot m k) := by
  induction m with
  | zero => exact h
  | succ m ih =>
    obtain ⟨h1, h2, h3, h4, h5, h6, h7, h8⟩ := ih
    constructor <;> dsimp only [rot] <;> omega
theorem mir_nrm (f : Bool) (k : Ci) : nrm (mir f k) = nrm k := by
  cases f
  · rfl
  · unfold nrm mir
    simp only [if_true]
    grind
theorem mir_dbl (f : Bool) (k l : Ci) : dbl (mir f k) (mir f l) = dbl k l := by
  cases f
  · rfl
  · unfold dbl mir
    simp only [if_true]
    grind
theorem mir_outw (f : Bool) (k l : Ci) : outw (mir f k) (mir f l) = outw k l := by cases f <;> rfl
theorem mir_sm {M : Int} (f : Bool) {k : Ci} (h : Sm M k) : Sm M (mir f k) := by
  cases f
  · exact h
  · obtain ⟨h1, h2, h3, h4, h5, h6, h7, h8⟩ := h
    unfold mir
    simp only [if_true]
    constructor <;> dsimp only <;> omega
theorem mv_nrm (k : Ci) (s t : Int) : nrm (mv k s t) = nrm k := by unfold nrm mv; grind
theorem mv_dbl (k l : Ci) (s t : Int) : dbl (mv k s t) (mv l s t) = dbl k l := by unfold dbl mv; grind
theorem mv_outw {k l : Ci} (hk : Valid k) (hl : Valid l) (h : T k l) (s t : Int) : outw (mv k s t) (mv l s t) = true := by
  have n := null_sum hk hl h.1
  rw [outw_iff]
  rcases outw_iff.mp h.2 with q | ⟨q, q'⟩
  · exact .inl q
  · right
    rw [q] at n
    obtain ⟨n1, n2⟩ := sq_zero (by simpa using n)
    refine ⟨q, ?_⟩
    have e : (mv k s t).c + (mv l s t).c = k.c + l.c := by
      have e1 : k.b = - l.b := by omega
      have e2 : k.x = - l.x := by omega
      have e3 : k.y = - l.y := by omega
      unfold mv
      rw [e1, e2, e3]
      grind
    rw [e]
    exact q'
theorem lay_valid {m : Nat} {f : Bool} {s t : Int} {k : Ci} (h : Valid k) : Valid (lay m f s t k) := by
  unfold Valid lay
  rw [mv_nrm, mir_nrm, rot_nrm]
  exact h
theorem lay_T {m : Nat} {f : Bool} {s t : Int} {k l : Ci} (hk : Valid k) (hl : Valid l) (h : T k l) : T (lay m f s t k) (lay m f s t l) := by
  have e : T (mir f (rot m k)) (mir f (rot m l)) := ⟨by rw [mir_dbl, rot_dbl]; exact h.1, by rw [mir_outw, rot_outw]; exact h.2⟩
  have v : ∀ {k}, Valid k → Valid (mir f (rot m k)) := fun {k} h => by unfold Valid; rw [mir_nrm, rot_nrm]; exact h
  exact ⟨by unfold lay; rw [mv_dbl]; exact e.1, mv_outw (v hk) (v hl) e s t⟩
theorem mv_sm {k : Ci} {s t : Int} (h : Sm 1641 k) (s0 : -1009 ≤ s) (s1 : s ≤ 1009) (t0 : -1009 ≤ t) (t1 : t ≤ 1009) : Sm 4294967296 (mv k s t) := by
  have e1 := mulb h.x0 h.x1 s0 s1
  have e2 := mulb h.y0 h.y1 t0 t1
  have e3 := mulb s0 s1 s0 s1
  have e4 := mulb t0 t1 t0 t1
  have e5 : -(1641 * 2036162) ≤ k.b * (s * s + t * t) ∧ k.b * (s * s + t * t) ≤ 1641 * 2036162 := mulb h.b0 h.b1 (by omega) (by omega)
  have e6 := mulb h.b0 h.b1 s0 s1
  have e7 := mulb h.b0 h.b1 t0 t1
  obtain ⟨h1, h2, h3, h4, h5, h6, h7, h8⟩ := h
  unfold mv
  constructor <;> dsimp only <;> omega
theorem lay_sm {m : Nat} {f : Bool} {k : Ci} {s t : Int} (h : Sm 1641 k) (s0 : -1009 ≤ s) (s1 : s ≤ 1009) (t0 : -1009 ≤ t) (t1 : t ≤ 1009) : Sm 4294967296 (lay m f s t k) :=
  mv_sm (mir_sm f (rot_sm m h)) s0 s1 t0 t1

/-! ### the given fours -/
def fam (n : Int) : List Ci := [⟨0 - n, 0, 1, 0⟩, ⟨n + 1, 0, 0 - 1, 0⟩, ⟨n * (n + 1), 4, 0 - 2 * n - 1, 0⟩, ⟨n * (n + 1) + 1, 4, 0 - 2 * n - 1, 2⟩]

def g4 : List Ci := [⟨-3, 0, 1, 0⟩, ⟨5, 0, -1, 0⟩, ⟨8, 2, -4, 1⟩, ⟨8, 2, -4, -1⟩]
def g5 : List Ci := [⟨0, 2, 0, 1⟩, ⟨0, 2, 0, -1⟩, ⟨1, -1, 0, 0⟩, ⟨1, 3, 2, 0⟩]
def g6 : List Ci := [⟨0, 1, 0, 1⟩, ⟨0, 1, 0, -1⟩, ⟨2, 0, 1, 0⟩, ⟨2, 4, 3, 0⟩]
instance (k : Ci) : Decidable (Valid k) := inferInstanceAs (Decidable (nrm k = 1))
instance (k l : Ci) : Decidable (T k l) := inferInstanceAs (Decidable (dbl k l = -2 ∧ outw k l = true))
/-- a four, its integers at most M in size -/
def G4 (M : Int) (cs : List Ci) : Prop := ∃ a b c d, cs = [a, b, c, d] ∧ Qd a b c d ∧ Sm M a ∧ Sm M b ∧ Sm M c ∧ Sm M d
theorem G4.len {M : Int} {cs : List Ci} (h : G4 M cs) : cs.length = 4 := by
  obtain ⟨a, b, c, d, rfl, _⟩ := h
  rfl
theorem g4_ok : G4 1641 g4 := ⟨_, _, _, _, rfl, ⟨by decide, by decide, by decide, by decide, by decide, by decide, by decide, by decide, by decide, by decide⟩, by constructor <;> decide, by constructor <;> decide, by constructor <;> decide, by constructor <;> decide⟩
theorem g5_ok : G4 1641 g5 := ⟨_, _, _, _, rfl, ⟨by decide, by decide, by decide, by decide, by decide, by decide, by decide, by decide, by decide, by decide⟩, by constructor <;> decide, by constructor <;> decide, by constructor <;> decide, by constructor <;> decide⟩
theorem g6_ok : G4 1641 g6 := ⟨_, _, _, _, rfl, ⟨by decide, by decide, by decide, by decide, by decide, by decide, by decide, by decide, by decide, by decide⟩, by constructor <;> decide, by constructor <;> decide, by constructor <;> decide, by constructor <;> decide⟩
theorem fam_ok {n : Int} (h0 : 0 ≤ n) (h1 : n ≤ 40) : G4 1641 (fam n) := by
  have m0 : 0 ≤ n * (n + 1) := Int.mul_nonneg h0 (by omega)
  have m1 : n * (n + 1) ≤ 40 * 41 := Int.mul_le_mul h1 (by omega) (by omega) (by omega)
  have e1 : n * (n + 1) = n * n + n := by grind
  have e2 := sq_nonneg n
  refine ⟨_, _, _, _, rfl, ⟨?_, ?_, ?_, ?_, ⟨?_, ?_⟩, ⟨?_, ?_⟩, ⟨?_, ?_⟩, ⟨?_, ?_⟩, ⟨?_, ?_⟩, ⟨?_, ?_⟩⟩, ?_, ?_, ?_, ?_⟩
  · unfold Valid nrm; grind
  · unfold Valid nrm; grind
  · unfold Valid nrm; grind
  · unfold Valid nrm; grind
  · unfold dbl; grind
  · rw [outw_iff]; dsimp only; omega
  · unfold dbl; grind
  · rw [outw_iff]
    dsimp only
    rcases Int.lt_or_le 0 n with q | q
    · left
      have := Int.mul_pos q q
      omega
    · have : n = 0 := by omega
      subst this
      decide
  · unfold dbl; grind
  · rw [outw_iff]; dsimp only; omega
  · unfold dbl; grind
  · rw [outw_iff]; dsimp only; omega
  · unfold dbl; grind
  · rw [outw_iff]; dsimp only; omega
  · unfold dbl; grind
  · rw [outw_iff]; dsimp only; omega
  all_goals constructor <;> dsimp only <;> omega
theorem G4.lay {cs : List Ci} (h : G4 1641 cs) (m : Nat) (f : Bool) {s t : Int} (s0 : -1009 ≤ s) (s1 : s ≤ 1009) (t0 : -1009 ≤ t) (t1 : t ≤ 1009) : G4 4294967296 (cs.map (lay m f s t)) := by
  obtain ⟨a, b, c, d, rfl, q, ha, hb, hc, hd⟩ := h
  exact ⟨_, _, _, _, rfl, ⟨lay_valid q.va, lay_valid q.vb, lay_valid q.vc, lay_valid q.vd, lay_T q.va q.vb q.ab, lay_T q.va q.vc q.ac, lay_T q.va q.vd q.ad, lay_T q.vb q.vc q.bc, lay_T q.vb q.vd q.bd, lay_T q.vc q.vd q.cd⟩,
    lay_sm ha s0 s1 t0 t1, lay_sm hb s0 s1 t0 t1, lay_sm hc s0 s1 t0 t1, lay_sm hd s0 s1 t0 t1⟩
/-- twice the sum less three times the one -/
def oth (cs : List Ci) (k : Ci) : Ci := ⟨2 * (cs.map (·.b)).sum - 3 * k.b, 2 * (cs.map (·.c)).sum - 3 * k.c, 2 * (cs.map (·.x)).sum - 3 * k.x, 2 * (cs.map (·.y)).sum - 3 * k.y⟩
theorem oth_a (a b c d : Ci) : oth [a, b, c, d] a = xc a b c d := by
  unfold oth xc
  simp only [List.map, List.sum_cons, List.sum_nil]
  congr 1 <;> omega
theorem oth_b (a b c d : Ci) : oth [a, b, c, d] b = xc b a c d := by
  unfold oth xc
  simp only [List.map, List.sum_cons, List.sum_nil]
  congr 1 <;> omega
theorem oth_c (a b c d : Ci) : oth [a, b, c, d] c = xc c b a d := by
  unfold oth xc
  simp only [List.map, List.sum_cons, List.sum_nil]
  congr 1 <;> omega
theorem oth_d (a b c d : Ci) : oth [a, b, c, d] d = xc d b c a := by
  unfold oth xc
  simp only [List.map, List.sum_cons, List.sum_nil]
  congr 1 <;> omega
theorem Qd.pc {a b c d : Ci} (q : Qd a b c d) : Qd c b a d := q.p1.p0.p1
theorem Qd.pd {a b c d : Ci} (q : Qd a b c d) : Qd d b c a := q.p2.p0.p2
theorem G4.ex {M : Int} {cs : List Ci} (h : G4 M cs) (h0 : 0 ≤ M) {i : Nat} {k : Ci} (hk : cs[i]? = some k) : G4 (7 * M) (cs.set i (oth cs k)) := by
  obtain ⟨a, b, c, d, rfl, q, ha, hb, hc, hd⟩ := h
  have e : ∀ {k : Ci}, Sm M k → Sm (7 * M) k := fun {k} h => h.mono (by omega)
  match i, hk with
  | 0, hk =>
    obtain rfl : a = k := Option.some.inj hk
    rw [oth_a]
    exact ⟨_, _, _, _, rfl, q.ex, xc_sm ha hb hc hd, e hb, e hc, e hd⟩
  | 1, hk =>
    obtain rfl : b = k := Option.some.inj hk
    rw [oth_b]
    exact ⟨_, _, _, _, rfl, q.p0.ex.p0, e ha, xc_sm hb ha hc hd, e hc, e hd⟩
  | 2, hk =>
    obtain rfl : c = k := Option.some.inj hk
    rw [oth_c]
    exact ⟨_, _, _, _, rfl, q.pc.ex.pc, e ha, e hb, xc_sm hc hb ha hd, e hd⟩
  | 3, hk =>
    obtain rfl : d = k := Option.some.inj hk
    rw [oth_d]
    exact ⟨_, _, _, _, rfl, q.pd.ex.pd, e ha, e hb, e hc, xc_sm hd hb hc ha⟩
  | i + 4, hk => simp at hk
theorem Qd.turn {a b c d : Ci} (q : Qd a b c d) : Qd b c d a := ⟨q.vb, q.vc, q.vd, q.va, q.bc, q.bd, q.ab.symm, q.cd, q.ac.symm, q.ad.symm⟩
theorem G4.turn {M : Int} {cs : List Ci} (h : G4 M cs) {n : Nat} (hn : n < 4) : G4 M (cs.drop n ++ cs.take n) := by
  obtain ⟨a, b, c, d, rfl, q, ha, hb, hc, hd⟩ := h
  match n, hn with
  | 0, _ => exact ⟨_, _, _, _, rfl, q, ha, hb, hc, hd⟩
  | 1, _ => exact ⟨_, _, _, _, rfl, q.turn, hb, hc, hd, ha⟩
  | 2, _ => exact ⟨_, _, _, _, rfl, q.turn.turn, hc, hd, ha, hb⟩
  | 3, _ => exact ⟨_, _, _, _, rfl, q.turn.turn.turn, hd, ha, hb, hc⟩
theorem G4.rev {M : Int} {cs : List Ci} (h : G4 M cs) : G4 M cs.reverse := by
  obtain ⟨a, b, c, d, rfl, q, ha, hb, hc, hd⟩ := h
  exact ⟨d, c, b, a, rfl, ⟨q.vd, q.vc, q.vb, q.va, q.cd.symm, q.bd.symm, q.ad.symm, q.bc.symm, q.ac.symm, q.ab.symm⟩, hd, hc, hb, ha⟩
theorem G4.mono {M N : Int} {cs : List Ci} (h : G4 M cs) (e : M ≤ N) : G4 N cs := by
  obtain ⟨a, b, c, d, rfl, q, ha, hb, hc, hd⟩ := h
  exact ⟨a, b, c, d, rfl, q, ha.mono e, hb.mono e, hc.mono e, hd.mono e⟩
/-- each of a four is a circle of its size -/
theorem G4.at_ {M : Int} {cs : List Ci} (h : G4 M cs) {k : Ci} (hk : k ∈ cs) : Valid k ∧ Sm M k := by
  obtain ⟨a, b, c, d, rfl, q, ha, hb, hc, hd⟩ := h
  simp only [List.mem_cons, List.not_mem_nil, or_false] at hk
  rcases hk with rfl | rfl | rfl | rfl
  · exact ⟨q.va, ha⟩
  · exact ⟨q.vb, hb⟩
  · exact ⟨q.vc, hc⟩
  · exact ⟨q.vd, hd⟩
/-- each two touch -/
theorem G4.two {M : Int} {cs : List Ci} (h : G4 M cs) {i j : Nat} {k l : Ci} (hi : cs[i]? = some k) (hj : cs[j]? = some l) (hij : j < i) : T k l := by
  obtain ⟨a, b, c, d, rfl, q, _⟩ := h
  match i, j, hi, hj, hij with
  | 1, 0, hi, hj, _ => cases hi; cases hj; exact q.ab.symm
  | 2, 0, hi, hj, _ => cases hi; cases hj; exact q.ac.symm
  | 3, 0, hi, hj, _ => cases hi; cases hj; exact q.ad.symm
  | 2, 1, hi, hj, _ => cases hi; cases hj; exact q.bc.symm
  | 3, 1, hi, hj, _ => cases hi; cases hj; exact q.bd.symm
  | 3, 2, hi, hj, _ => cases hi; cases hj; exact q.cd.symm
  | i + 4, _, hi, _, _ => simp at hi
/-- the four and the other ones -/
def fnd (cs : List Ci) : List Ci := cs ++ cs.map (oth cs)
theorem pr_of {k l : Ci} (h : dbl k l ≤ -3) : Pr k l := ⟨by omega, fun e => by omega⟩
theorem G4.fnd {M : Int} {cs : List Ci} (h : G4 M cs) (h0 : 0 ≤ M) : (fnd cs).length = 8 ∧ (∀ k ∈ fnd cs, Valid k ∧ Sm (7 * M) k) ∧ (fnd cs).Pairwise Pr := by
  obtain ⟨a, b, c, d, rfl, q, ha, hb, hc, hd⟩ := h
  have e : Ft.fnd [a, b, c, d] = [a, b, c, d, xc a b c d, xc b a c d, xc c b a d, xc d b c a] := by
    unfold Ft.fnd
    simp only [List.map, oth_a, oth_b, oth_c, oth_d]
    rfl
  have sm : ∀ {k : Ci}, Sm M k → Sm (7 * M) k := fun {k} h => h.mono (by omega)
  rw [e]
  refine ⟨rfl, fun k hk => ?_, ?_⟩
  · simp only [List.mem_cons, List.not_mem_nil, or_false] at hk
    rcases hk with rfl | rfl | rfl | rfl | rfl | rfl | rfl | rfl
    · exact ⟨q.va, sm ha⟩
    · exact ⟨q.vb, sm hb⟩
    · exact ⟨q.vc, sm hc⟩
    · exact ⟨q.vd, sm hd⟩
    · exact ⟨q.xv, xc_sm ha hb hc hd⟩
    · exact ⟨q.p0.xv, xc_sm hb ha hc hd⟩
    · exact ⟨q.pc.xv, xc_sm hc hb ha hd⟩
    · exact ⟨q.pd.xv, xc_sm hd hb hc ha⟩
  · have s1 : xc b c a d = xc b a c d := xc_swap b a c d
    have s2 : xc c a b d = xc c b a d := xc_swap c b a d
    have s3 : xc a c b d = xc a b c d := xc_swap a b c d
    have w : ∀ {k l}, dbl k l = -14 → Pr k l := fun {k l} e => pr_of (by omega)
    have w2 : ∀ {k l}, dbl k l = -34 → Pr k l := fun {k l} e => pr_of (by omega)
    have f : ∀ {k l}, T k l → Pr l k := fun {k l} t => t.symm.pr
    have fw : ∀ {k l}, dbl k l = -14 → Pr l k := fun {k l} e => w (by rw [dbl_comm]; exact e)
    have oab := w2 q.far2
    have oac : Pr (xc a b c d) (xc c b a d) := w2 (by rw [← s3, ← s2]; exact q.p1.far2)
    have oad : Pr (xc a b c d) (xc d b c a) := w2 (by
      have z := q.p2.far2
      rw [xc_swap2] at z
      rw [z.symm]
      congr 1
      unfold xc
      congr 1 <;> omega)
    have obc : Pr (xc b a c d) (xc c b a d) := w2 (by rw [← s1]; exact q.p0.p1.far2)
    have obd : Pr (xc b a c d) (xc d b c a) := w2 (by
      have z := q.p0.p2.far2
      rw [xc_swap2] at z
      exact z)
    have ocd : Pr (xc c b a d) (xc d b c a) := w2 (by
      have z := q.pc.p2.far2
      rw [xc_swap2] at z
      rw [z.symm]
      congr 1
      unfold xc
      congr 1 <;> omega)
    simp only [List.pairwise_cons, List.mem_cons, List.not_mem_nil, or_false, forall_eq_or_imp, forall_eq, List.Pairwise.nil, and_true, false_imp_iff, implies_true]
    exact ⟨⟨q.ab.pr, q.ac.pr, q.ad.pr, fw q.far, f q.p0.xt, f q.pc.xt2, f q.pd.xt3⟩, ⟨q.bc.pr, q.bd.pr, f q.xt, fw q.p0.far, f q.pc.xt, f q.pd.xt⟩, ⟨q.cd.pr, f q.xt2, f q.p0.xt2, fw q.pc.far, f q.pd.xt2⟩,
      ⟨f q.xt3, f q.p0.xt3, f q.pc.xt3, fw q.pd.far⟩, ⟨oab, oac, oad⟩, ⟨obc, obd⟩, ocd⟩
end Ft

/-! Rules that the layer lacks: a bool less a bool; enumerate of a tuple; zip of a list and a tuple. -/
namespace FtR
open PySem PySem.Spec PyProof.Rows L2
section
variable {X : Cx}
theorem op_subB : OpR X (binaryOp .Sub) (fun x y H Q => ∃ i j, x = .bl i ∧ y = .bl j ∧ Q (.int (b2i i - b2i j)) H) := by
  intro pins s σ H x y v u Q I rx ry h
  obtain ⟨i, j, rfl, rfl, q⟩ := h
  cases rx
  cases ry
  exact sub_bool ⟨V.int (b2i i - b2i j), H, I.tok _, ⟨_, rfl⟩, q⟩
end

/-! ### an iterator that hands out new tuples -/
section
variable {X : Cx} {pins : List (Addr × Obj)} {σ : L2.St} {H : Hp} {s : Shared} {E : Value → Shared → Prop} {it : Addr} {fp wr : List Addr} {n i : Nat} {Pt : Nat → Array Value → Prop} {St : Nat → Heap → Prop} {Mid : Nat → Addr → Heap → Prop}
theorem pair_item (I : Inv X pins σ H s) (W : WalksT X.prog X.w X.A it fp wr n Pt St Mid) (hi : i < n) (st : St i s.heap) (hf : ∀ b ∈ wr, FpOk X pins H b) {xs : List V} (hP : ∀ vals, Pt i vals → Vals xs vals.toList) (hl : xs.length ≤ sizeLine) {elts : List Expr} {kk : Nat} {tpos : Pos} :
    wpAny (model X.prog X.w) X.A (pyNext (.ref it)) (fun r s1 => ∃ u, r = some u ∧ wpAny (model X.prog X.w) X.A (letOwnedTupleGo (.Tuple elts kk tpos) (.ref it) u)
      (fun _ s2 => ∃ T, u = .ref T ∧ s.heap.objs.size ≤ T ∧ H T = none ∧ Inv X pins σ (upd H T (.tup xs)) s2 ∧ St (i + 1) s2.heap) E s1) E s := by
  refine W.item i s _ _ hi st fun T vals h' tk hp hnew hT hm hk => ⟨.ref T, rfl, ?_⟩
  refine W.go elts kk tpos i T { s with heap := h', toks := tk } _ _ hm fun h'' hst hk' => ?_
  obtain ⟨o, ho, hc, m, hd⟩ := hT
  have new : ObjOk X.prog X.w (upd H T (.tup xs)) h'' T (.tup xs) :=
    ⟨hl, vals.toList, hP vals hp, ⟨o, hk' T o (W.apart i T h' hm) ho, hc, m, by rw [Array.toArray_toList]; exact hd⟩⟩
  exact ⟨T, rfl, hnew, I.hok.fresh hnew, I.turnedNew (t' := tk) (ch := wr) (fun b ob hb e => hk' b ob hb (hk b ob hb e)) hf hnew new, hst⟩
theorem pair_done (I : Inv X pins σ H s) (W : WalksT X.prog X.w X.A it fp wr n Pt St Mid) (st : St n s.heap) (hf : ∀ b ∈ wr, FpOk X pins H b) :
    wpAny (model X.prog X.w) X.A (pyNext (.ref it)) (fun r s1 => r = none ∧ Inv X pins σ H s1) E s :=
  W.done s _ _ st fun h' tk hk => ⟨rfl, I.turnedL (t' := tk) (ch := wr) (fun b ob hb e => hk b ob hb e) hf⟩
end

/-! ### enumerate(v), by how iter(v) begins -/
theorem meets_enum1 {v : Value} {o : Obj} {Hc : Heap → Prop} (B : Begins v o Hc) :
    Meets (Builtin.«enumerate.__new__» ⟨[.type "enumerate", v], []⟩) (fun _ R s => Hc s.heap ∧
      R (.ok (.ret (.ref (s.heap.push o).objs.size))) { s with heap := (s.heap.push o).push { cls := .type "enumerate", data := .fields #[.none, .bool false, .ref s.heap.objs.size, rawInt 0, .none, .none] } }) :=
  .of_wp fun prog w A R s h => by
    obtain ⟨hp, g, d, tk, os⟩ := s
    obtain ⟨h1, h⟩ := h
    have hsub := sub_enumerate
    have begin1 : ∀ {A' : Around} {E : Value → Shared → Prop} {Q : Value → Shared → Prop}, Q (.ref hp.objs.size) ⟨hp.push o, g, d, tk, os⟩ → wpAny (model prog w) A' (pyIter v) Q E ⟨hp, g, d, tk, os⟩ :=
      fun q => B.iter prog w _ _ ⟨hp, g, d, tk, os⟩ _ h1 q
    wp_walk using begin1
    refine wpAny_stack_any fun st => wpAny_pure ?_
    split
    · rename_i c _ _ _ _ _
      cases (c == Value.type "enumerate") <;> (wp_walk using begin1; exact ⟨_, rfl, h⟩)
    · wp_walk using begin1
      exact ⟨_, rfl, h⟩
theorem call_enum1 {prog : Program} {w : World} {A : Around} {E : Value → Shared → Prop} {s : Shared} {v : Value} {o : Obj} {Hc : Heap → Prop} {Q : Value → Shared → Prop} (B : Begins v o Hc) (h1 : Hc s.heap)
    (h : ∀ h', IsEnum h' (s.heap.objs.size + 1) s.heap.objs.size 0 .none → h'.get? s.heap.objs.size = some o → (∀ b u, s.heap.get? b = some u → h'.get? b = some u) → Q (.ref (s.heap.objs.size + 1)) { s with heap := h' }) :
    wpAny (model prog w) A (call (.type "enumerate") [v]) Q E s := by
  refine callType_new F.called_enumerate (by decide) (F.typeCall_enumerate_1 _) (F.newCall_enumerate_1 _) (fun obj => F.args_object_init_2 obj _) F.entry_enumerate_new (meets_enum1 B) ⟨h1, ?_⟩
  have z : (s.heap.push o).objs.size = s.heap.objs.size + 1 := Heap.size_push ..
  have e := Heap.get?_push_size (s.heap.push o) (o := { cls := .type "enumerate", data := .fields #[.none, .bool false, .ref s.heap.objs.size, rawInt 0, .none, .none] }) rfl
  rw [z] at e
  show _ ∧ _
  rw [z]
  exact ⟨⟨_, e, rfl⟩, h _ e (Heap.get?_push_of_some _ (Heap.get?_push_size _ B.free)) fun b u x => Heap.get?_push_of_some _ (Heap.get?_push_of_some _ x)⟩

/-- the tuple at a, each item in a new pair with its place -/
def ItE (K : PySem.W.Frag) (a : Addr) : It where
  go := fun i H => ∃ (xs : List V) (x : V), SqT K H a xs ∧ xs[i]? = some x
  yld := fun i H v H' => ∃ T x, v = .ref T ∧ H T = none ∧ H' = upd H T (.tup [.int (i : Nat), x]) ∧ ∀ xs, SqT K H a xs → xs[i]? = some x
  stop := fun i H => ∃ xs : List V, SqT K H a xs ∧ xs.length = i
theorem tup_ne_enum {h : Heap} {e it a : Addr} {c : Int} {old : Value} {items : Array Value} (he : IsEnum h e it c old) (ht : h.IsTuple a items) : e ≠ a := by
  rintro rfl
  obtain ⟨o, ho, hc, _⟩ := ht
  have he' : h.get? e = some _ := he
  rw [he'] at ho
  cases ho
  exact absurd hc (by show ¬ (Value.type "enumerate" = Value.type "tuple"); decide +kernel)
theorem tup_ne_iter {h : Heap} {it a : Addr} {i : Nat} {items : Array Value} (hi : h.IsTupleIter it a i) (ht : h.IsTuple a items) : a ≠ it := by
  rintro rfl
  obtain ⟨o, ho, hc, _⟩ := ht
  obtain ⟨o', ho', hc', _⟩ := hi
  rw [ho] at ho'
  cases ho'
  rw [hc] at hc'
  exact absurd hc' (by decide +kernel)
theorem turn_enumT {P : Program} {w : World} {K : PySem.W.Frag} {elts : List Expr} {kk : Nat} {tpos : Pos} (a e it : Addr) :
    Turn P w K (.Tuple elts kk tpos) (ItE K a) [e, it] e (fun i h => (∃ old, IsEnum h e it (0 + ((i : Nat) : Int)) old) ∧ h.IsTupleIter it a i ∧ e ≠ it) where
  mem := by simp
  obj := by
    rintro i h ⟨⟨old, he⟩, ⟨o, ho, hc, hd⟩, _⟩ b hb
    simp only [List.mem_cons, List.not_mem_nil, or_false] at hb
    rcases hb with rfl | rfl
    · exact ⟨_, he, fun v q => nomatch q⟩
    · exact ⟨o, ho, fun v q => by rw [hd] at q; cases q⟩
  keep := by
    rintro i h h' ⟨⟨old, he⟩, hi, hne⟩ k
    exact ⟨⟨old, k e (by simp) _ he⟩, hi.at fun o q => k it (by simp) o q, hne⟩
  item := by
    rintro X rfl rfl rfl hc i pins s σ H E I hf ⟨⟨old, he⟩, hit, hne⟩ ⟨xs, x, hq, hx⟩
    obtain ⟨its, rv, p, hz⟩ := I.tuple hq
    obtain ⟨u, hu, ru⟩ := rv.get hx
    have hh : X.A.in1.handled = none := I.ok.hd hc
    have D := Draws.tuple (prog := X.prog) (w := X.w) (A := X.A.in1) hh it a (tup_ne_iter hit p) its.toArray
    have nem : e ∉ [it, a] := by
      simp only [List.mem_cons, List.not_mem_nil, or_false, not_or]
      exact ⟨hne, tup_ne_enum he p⟩
    have W := WalksT.enumFrom 0 D e hne nem (by simp)
    have hlt : i < its.toArray.size := by
      have := (List.getElem?_eq_some_iff.mp hu).1
      simpa using this
    refine thn (pair_item (xs := [.int (i : Nat), x]) I W hlt ⟨⟨old, he⟩, hit, p⟩ (fun b hb => hf b (by simpa using hb)) (fun vals hp => ?_) (by show 2 ≤ sizeLine; decide) (elts := elts) (kk := kk) (tpos := tpos)) fun r s1 ⟨v, e1, h1⟩ => ⟨v, e1, thn h1 fun _ s2 ⟨T, e2, hT, hn, I2, st2⟩ => ?_⟩
    · obtain ⟨t, y, hy, rfl⟩ := hp
      have ey : y = u := by
        have hy' : its[i]? = some y := by simpa using hy
        exact Option.some.inj (hy'.symm.trans hu)
      subst ey
      exact .cons ⟨t, by rw [Int.zero_add]⟩ (.cons ru .nil)
    · subst e2
      obtain ⟨⟨old2, he2⟩, hit2, _⟩ := st2
      refine ⟨.ref T, _, I2, rfl, ⟨T, x, rfl, hn, rfl, fun ys hy => by rw [I.tuple_inj hy hq]; exact hx⟩, ⟨⟨old2, he2⟩, hit2, hne⟩, fun b hb => ?_⟩
      have hbT : b ≠ T := by
        rintro rfl
        simp only [List.mem_cons, List.not_mem_nil, or_false] at hb
        rcases hb with rfl | rfl
        · exact absurd (Nat.lt_of_lt_of_le (Heap.lt_size he) hT) (Nat.lt_irrefl _)
        · obtain ⟨o, ho, _⟩ := hit
          exact absurd (Nat.lt_of_lt_of_le (Heap.lt_size ho) hT) (Nat.lt_irrefl _)
      rw [upd_ne hbT]
      exact (hf b hb).1
  done := by
    rintro X rfl rfl rfl hc i pins s σ H E I hf ⟨⟨old, he⟩, hit, hne⟩ ⟨xs, hq, hx⟩
    obtain ⟨its, rv, p, hz⟩ := I.tuple hq
    have hh : X.A.in1.handled = none := I.ok.hd hc
    have D := Draws.tuple (prog := X.prog) (w := X.w) (A := X.A.in1) hh it a (tup_ne_iter hit p) its.toArray
    have nem : e ∉ [it, a] := by
      simp only [List.mem_cons, List.not_mem_nil, or_false, not_or]
      exact ⟨hne, tup_ne_enum he p⟩
    have W := WalksT.enumFrom 0 D e hne nem (by simp)
    have en : i = its.toArray.size := by
      have := rv.length
      simp
      omega
    subst en
    exact pair_done I W ⟨⟨old, he⟩, hit, p⟩ fun b hb => hf b (by simpa using hb)
  self := fun A i s Q E st h => by
    obtain ⟨⟨_, he⟩, _⟩ := st
    exact wpAny_pyIter_enum he h
def iEnumT (K : PySem.W.Frag) (ta : TA) : TI := fun σ H R => ta σ H fun vs H1 => ∃ a xs, vs = [.ref a] ∧ SqT K H1 a xs ∧ R (ItE K a) H1
theorem pi_enumT {X : Cx} {e : Expr} {ta : TA} {p pos tpos : Pos} {elts : List Expr} {kk : Nat} (hg : Gl X "enumerate") (hm : X.mg "enumerate" = none) (ha : PA X [e] ta) (hs : starEach [e] X.env = [(false, eval e X.env)] := by rfl) :
    PI X (.Tuple elts kk tpos) (.Call (.Name "enumerate" p) [e] [] pos) (iEnumT X.K ta) := by
  refine ⟨fun pins s σ H R I h => Call_ (ld_blt I hg hm boot_enumerate (PyProof.Rows.callWith_type1 (thn (ha.run pos pins s σ H _ I h) ?_) hs rfl))⟩
  rintro us s1 ⟨vs, H1, I1, r1, a, xs, rfl, hq, q⟩
  obtain rfl : us = [Value.ref a] := Vals.ref1 r1
  obtain ⟨its, rv, p', hz⟩ := I1.tuple hq
  refine call_enum1 (begins_tuple a its.toArray) p' fun h' he hit hk => wpAny_pyIter_enum he ?_
  refine ⟨s1.heap.objs.size + 1, [s1.heap.objs.size + 1, s1.heap.objs.size], _, _, H1, rfl, I1.kept (t' := s1.toks) hk, turn_enumT a (s1.heap.objs.size + 1) s1.heap.objs.size, ⟨⟨.none, he⟩, ⟨_, hit, rfl, rfl⟩, Nat.succ_ne_self _⟩, fun b hb => ?_, q⟩
  have hle : s1.heap.objs.size ≤ b := by
    simp only [List.mem_cons, List.not_mem_nil, or_false] at hb
    rcases hb with rfl | rfl
    · exact Nat.le_succ _
    · exact Nat.le_refl _
  exact I1.fpOk hle (I1.hok.fresh hle)
/-- the walk of it -/
theorem walk_enumT {K : PySem.W.Frag} {a : Addr} {xs : List V} : Walk (ItE K a) xs.length (fun H => SqT K H a xs) (YPair (fun i => some (.int (i : Nat))) (fun i => xs[i]?)) where
  goes := fun i H hi q => ⟨xs, xs[i], q, by simp [hi]⟩
  stops := fun H q => ⟨xs, q, rfl⟩
  yields := by
    rintro i H v H' _ q ⟨T, x, h1, h2, h3, h4⟩
    exact ⟨T, .int (i : Nat), x, h1, h2, h3, rfl, h4 xs q⟩

/-! ### zip of a list and a tuple -/
def ItZ (K : PySem.W.Frag) (a b : Addr) : It where
  go := fun i H => ∃ (xs ys : List V) (x y : V), SqL K H a xs ∧ SqT K H b ys ∧ xs[i]? = some x ∧ ys[i]? = some y
  yld := fun i H v H' => ∃ T x y, v = .ref T ∧ H T = none ∧ H' = upd H T (.tup [x, y]) ∧ (∀ xs, SqL K H a xs → xs[i]? = some x) ∧ ∀ ys, SqT K H b ys → ys[i]? = some y
  stop := fun i H => ∃ xs ys : List V, SqL K H a xs ∧ SqT K H b ys ∧ xs.length = i ∧ ys.length = i
theorem lst_ne_iter {h : Heap} {it a : Addr} {i : Nat} {items : Array Value} (hi : h.IsListIter it a i) (ht : h.IsList a items) : a ≠ it := by
  rintro rfl
  obtain ⟨o, ho, hc, _⟩ := ht
  obtain ⟨o', ho', hc', _⟩ := hi
  rw [ho] at ho'
  cases ho'
  rw [hc] at hc'
  exact absurd hc' (by decide +kernel)
theorem turn_zipLT {P : Program} {w : World} {K : PySem.W.Frag} {elts : List Expr} {kk : Nat} {tpos : Pos} {a b z TI TO i1 i2 : Addr} (S : ZipSep2 z TI TO i1 i2 [i1, a] [i2, b]) :
    Turn P w K (.Tuple elts kk tpos) (ItZ K a b) [z, TI, TO, i1, i2] z
      (fun i h => IsZip h z TI TO .none ∧ IsTupOf2 h TI (.ref i1) (.ref i2) ∧ (∃ x y, IsTupOf2 h TO x y) ∧ h.IsListIter i1 a i ∧ h.IsTupleIter i2 b i) where
  mem := by simp
  obj := by
    rintro i h ⟨hz, hTI, ⟨x, y, hTO⟩, ⟨o1, e1, _, d1⟩, ⟨o2, e2, _, d2⟩⟩ c hc
    simp only [List.mem_cons, List.not_mem_nil, or_false] at hc
    rcases hc with rfl | rfl | rfl | rfl | rfl
    · exact ⟨_, hz, fun v q => nomatch q⟩
    · exact ⟨_, hTI, fun v q => nomatch q⟩
    · exact ⟨_, hTO, fun v q => nomatch q⟩
    · exact ⟨o1, e1, fun v q => by rw [d1] at q; cases q⟩
    · exact ⟨o2, e2, fun v q => by rw [d2] at q; cases q⟩
  keep := by
    rintro i h h' ⟨hz, hTI, ⟨x, y, hTO⟩, h1, h2⟩ k
    exact ⟨k z (by simp) _ hz, k TI (by simp) _ hTI, ⟨x, y, k TO (by simp) _ hTO⟩, h1.at fun o q => k i1 (by simp) o q, h2.at fun o q => k i2 (by simp) o q⟩
  item := by
    rintro X rfl rfl rfl hc i pins s σ H E I hf ⟨hz, hTI, ⟨x0, y0, hTO⟩, h1, h2⟩ ⟨xs, ys, x, y, hqx, hqy, hx, hy⟩
    obtain ⟨its, rv, p, _⟩ := I.list hqx
    obtain ⟨its2, rv2, p2, _⟩ := I.tuple hqy
    obtain ⟨u, hu, ru⟩ := rv.get hx
    obtain ⟨u2, hu2, ru2⟩ := rv2.get hy
    have hh : X.A.in1.handled = none := I.ok.hd hc
    have D1 := Draws.list (prog := X.prog) (w := X.w) (A := X.A.in1) hh i1 a (lst_ne_iter h1 p.isList) its.toArray
    have D2 := Draws.tuple (prog := X.prog) (w := X.w) (A := X.A.in1) hh i2 b (tup_ne_iter h2 p2) its2.toArray
    have W := WalksT.zipD2 S D1 D2
    have l1 := (List.getElem?_eq_some_iff.mp hu).1
    have l2 := (List.getElem?_eq_some_iff.mp hu2).1
    have hlt : i < min its.toArray.size its2.toArray.size := by
      simp only [List.size_toArray]
      omega
    refine thn (pair_item (xs := [x, y]) I W hlt ⟨hz, hTI, ⟨x0, y0, hTO⟩, ⟨h1, p.isList⟩, h2, p2⟩ (fun c hb => hf c (by simp only [List.mem_cons, List.not_mem_nil, or_false] at hb ⊢; rcases hb with q | q | q | q <;> simp [q])) (fun vals hp => ?_) (by show 2 ≤ sizeLine; decide) (elts := elts) (kk := kk) (tpos := tpos))
      fun r s1 ⟨v, e1, g1⟩ => ⟨v, e1, thn g1 fun _ s2 ⟨T, e2, hT, hn, I2, st2⟩ => ?_⟩
    · obtain ⟨a1, a2, q1, q2, rfl⟩ := hp
      have e1 : a1 = u := Option.some.inj (Eq.trans (by simpa using q1.symm) hu)
      have e2 : a2 = u2 := Option.some.inj (Eq.trans (by simpa using q2.symm) hu2)
      subst e1 e2
      exact .cons ru (.cons ru2 .nil)
    · subst e2
      obtain ⟨hz', hTI', hTO', ⟨g2, _⟩, g3, _⟩ := st2
      refine ⟨.ref T, _, I2, rfl, ⟨T, x, y, rfl, hn, rfl, fun l hl => by rw [I.list_inj hl hqx]; exact hx, fun l hl => by rw [I.tuple_inj hl hqy]; exact hy⟩, ⟨hz', hTI', hTO', g2, g3⟩, fun c hb => ?_⟩
      have there : ∃ o, s.heap.get? c = some o := by
        simp only [List.mem_cons, List.not_mem_nil, or_false] at hb
        rcases hb with rfl | rfl | rfl | rfl | rfl
        · exact ⟨_, hz⟩
        · exact ⟨_, hTI⟩
        · exact ⟨_, hTO⟩
        · obtain ⟨o, e, _⟩ := h1
          exact ⟨o, e⟩
        · obtain ⟨o, e, _⟩ := h2
          exact ⟨o, e⟩
      obtain ⟨o, ho⟩ := there
      rw [upd_ne (Nat.ne_of_lt (Nat.lt_of_lt_of_le (Heap.lt_size ho) hT))]
      exact (hf c hb).1
  done := by
    rintro X rfl rfl rfl hc i pins s σ H E I hf ⟨hz, hTI, ⟨x0, y0, hTO⟩, h1, h2⟩ ⟨xs, ys, hqx, hqy, n1, n2⟩
    obtain ⟨its, rv, p, _⟩ := I.list hqx
    obtain ⟨its2, rv2, p2, _⟩ := I.tuple hqy
    have hh : X.A.in1.handled = none := I.ok.hd hc
    have D1 := Draws.list (prog := X.prog) (w := X.w) (A := X.A.in1) hh i1 a (lst_ne_iter h1 p.isList) its.toArray
    have D2 := Draws.tuple (prog := X.prog) (w := X.w) (A := X.A.in1) hh i2 b (tup_ne_iter h2 p2) its2.toArray
    have W := WalksT.zipD2 S D1 D2
    have en : i = min its.toArray.size its2.toArray.size := by
      have r1 := rv.length
      have r2 := rv2.length
      simp only [List.size_toArray]
      omega
    rw [en] at h1 h2
    exact pair_done I W ⟨hz, hTI, ⟨x0, y0, hTO⟩, ⟨h1, p.isList⟩, h2, p2⟩ fun c hb => hf c (by simp only [List.mem_cons, List.not_mem_nil, or_false] at hb ⊢; rcases hb with q | q | q | q <;> simp [q])
  self := fun A i s Q E st h => wpAny_pyIter_zip st.1 h
def iZipLT (K : PySem.W.Frag) (ta : TA) : TI := fun σ H R => ta σ H fun vs H1 => ∃ a b xs ys, vs = [.ref a, .ref b] ∧ SqL K H1 a xs ∧ SqT K H1 b ys ∧ R (ItZ K a b) H1
theorem pi_zipLT {X : Cx} {e e2 : Expr} {ta : TA} {p pos tpos : Pos} {elts : List Expr} {kk : Nat} (hg : Gl X "zip") (hm : X.mg "zip" = none) (ha : PA X [e, e2] ta)
    (hs : starEach [e, e2] X.env = (false, eval e X.env) :: starEach [e2] X.env := by rfl) (hpl : (backTo pos (starEach [e2] X.env)).any (·.1) = false := by rfl) :
    PI X (.Tuple elts kk tpos) (.Call (.Name "zip" p) [e, e2] [] pos) (iZipLT X.K ta) := by
  refine ⟨fun pins s σ H R I h => Call_ (ld_blt I hg hm PyProof.Rows.boot_zip (PyProof.Rows.callWith_type1 (thn (ha.run pos pins s σ H _ I h) ?_) hs hpl))⟩
  rintro us s1 ⟨vs, H1, I1, r1, a, b, xs, ys, rfl, hqx, hqy, q⟩
  obtain ⟨u1, u2, rfl, e1, e2⟩ := Vals.two r1
  cases e1
  cases e2
  obtain ⟨its, rv, p1, _⟩ := I1.list hqx
  obtain ⟨its2, rv2, p2, _⟩ := I1.tuple hqy
  have la : a < s1.heap.objs.size := p1.lt
  have lb : b < s1.heap.objs.size := p2.lt
  refine zip_begins2 (begins_list a its.toArray) (begins_tuple b its2.toArray) p1.isList p2 fun h' hz hTI hTO h1 h2 hsz hk => wpAny_pyIter_zip hz ?_
  refine ⟨s1.heap.objs.size + 4, [s1.heap.objs.size + 4, s1.heap.objs.size + 2, s1.heap.objs.size + 3, s1.heap.objs.size, s1.heap.objs.size + 1], _, _, H1, rfl, I1.kept (t' := s1.toks) hk,
    turn_zipLT (zip_sep2 (fun c hc => by rw [List.mem_singleton.mp hc]; exact la) fun c hc => by rw [List.mem_singleton.mp hc]; exact lb), ⟨hz, hTI, ⟨_, _, hTO⟩, ⟨_, h1, rfl, rfl⟩, ⟨_, h2, rfl, rfl⟩⟩, fun c hcm => ?_, q⟩
  have hle : s1.heap.objs.size ≤ c := by
    simp only [List.mem_cons, List.not_mem_nil, or_false] at hcm
    rcases hcm with rfl | rfl | rfl | rfl | rfl
    · exact Nat.le_add_right _ _
    · exact Nat.le_add_right _ _
    · exact Nat.le_add_right _ _
    · exact Nat.le_refl _
    · exact Nat.le_add_right _ _
  exact I1.fpOk hle (I1.hok.fresh hle)
theorem walk_zipLT {K : PySem.W.Frag} {a b : Addr} {xs ys : List V} (hn : xs.length = ys.length) : Walk (ItZ K a b) xs.length (fun H => SqL K H a xs ∧ SqT K H b ys) (YPair (fun i => xs[i]?) (fun i => ys[i]?)) where
  goes := fun i H hi q => ⟨xs, ys, xs[i], ys[i]'(by omega), q.1, q.2, by simp [hi], by simp [hn ▸ hi]⟩
  stops := fun H q => ⟨xs, ys, q.1, q.2, rfl, hn.symm⟩
  yields := by
    rintro i H v H' _ q ⟨T, x, y, h1, h2, h3, h4, h5⟩
    exact ⟨T, x, y, h1, h2, h3, h4 xs q.1, h5 ys q.2⟩
end FtR

/-! The walk, first part: circles. -/
namespace FtW
open PySem PySem.Spec PyProof.Rows L2 FtR Ft
/-! ### the text by places -/
def top (i : Nat) : Stmt := PySem.Challenge.pw_fourtouch_k10_whole_touching_in_the_plan.main.body.getD i (.Pass ⟨0, 0, 0, 0⟩)
abbrev sIsC : Stmt := top 7
abbrev sChk : Stmt := top 8
abbrev sDbl : Stmt := top 9
abbrev sOut : Stmt := top 10
abbrev sTch : Stmt := top 11
abbrev sSide : Stmt := top 12
abbrev sNum : Stmt := top 15
abbrev sInit : Stmt := inClass (top 16) 0
abbrev sCirc : Stmt := inClass (top 16) 2
abbrev sOther : Stmt := inClass (top 16) 4
abbrev sRow : Stmt := top 18
abbrev sNums : Stmt := top 19
abbrev sGiven : Stmt := top 20
abbrev sMoved : Stmt := top 21
abbrev sLaid : Stmt := top 22
abbrev sOth : Stmt := top 23
abbrev sFall : Stmt := top 24
abbrev sFour : Stmt := top 25
abbrev sOpp : Stmt := top 28
abbrev sMeets : Stmt := top 29
abbrev sIns : Stmt := top 30
abbrev sLaw : Stmt := top 31

/-! ### data -/
/-- a circle's four integers -/
def cv (k : Ci) : List V := [.int k.b, .int k.c, .int k.x, .int k.y]
/-- the size that all circles stay below -/
abbrev Big : Int := 1152921504606846976
theorem Same.tup {K : PySem.W.Frag} {H H' : Hp} {a : Addr} {xs : List V} (e : Same H H') (h : SqT K H a xs) : SqT K H' a xs := by
  rcases h with (h | ⟨o, h⟩) | h
  · exact .inl (.inl (e _ _ h))
  · exact .inl (.inr ⟨o, e _ _ h⟩)
  · exact .inr h
theorem Same.new {H : Hp} {p : Addr} {o : HO} (hp : H p = none) : Same H (upd H p o) := fun b u e => by
  rw [upd_ne (ne_of_none e hp)]
  exact e
/-- the list at a holds circles (tuples) -/
def Cirs (K : PySem.W.Frag) (H : Hp) (as : List Addr) (cs : List Ci) : Prop := as.length = cs.length ∧ ∀ (i : Nat) (a : Addr) (k : Ci), as[i]? = some a → cs[i]? = some k → SqT K H a (cv k)
theorem Cirs.mono {K : PySem.W.Frag} {H H' : Hp} {as : List Addr} {cs : List Ci} (h : Cirs K H as cs) (e : Same H H') : Cirs K H' as cs :=
  ⟨h.1, fun i a k ha hk => Same.tup e (h.2 i a k ha hk)⟩

/-! ### the names that the defs ask of the module -/
structure Txt (mg : Str → Option Value) : Prop where
  len : mg "len" = none
  range : mg "range" = none
  tuple : mg "tuple" = none
  list : mg "list" = none
  enum : mg "enumerate" = none
  all : mg "all" = none
  sum : mg "sum" = none
  zip : mg "zip" = none
  abs : mg "abs" = none
  int : mg "int" = none
  max : mg "max" = none
/-- a def of the module that keeps its promise -/
structure Df (P : Program) (w : World) (K : PySem.W.Frag) (mg : Str → Option Value) (base : Heap) (k : Nat) (x : Str) (ps : List Str) (sp : Sp) : Prop where
  ex : ∃ f fd, FnOk P w K mg base CX0 k f fd ps sp ∧ mg x = some (.ref f) ∧ PySem.W.keepIn K (.ref f) = true ∧ Binds K fd ps []
theorem Df.mono {P : Program} {w : World} {K : PySem.W.Frag} {mg : Str → Option Value} {base : Heap} {j k : Nat} {x : Str} {ps : List Str} {sp : Sp} (D : Df P w K mg base j x ps sp) (h : j ≤ k) : Df P w K mg base k x ps sp := by
  obtain ⟨f, fd, F, r⟩ := D.ex
  exact ⟨f, fd, F.mono h, r⟩
section
variable {X : Cx} {x : Str} {e : Expr} {es : List Expr} {t : TA} {p pos : Pos} {j k : Nat} {ps : List Str} {sp : Sp}
theorem pe_df (D : Df X.prog X.w X.K X.mg X.base j x ps sp) (hr : Room k X.A) (ha : PA X (e :: es) t) (hk : j ≤ k := by decide) (hg : Gl X x := by rfl)
    (hd : (x == ("__debug__" : Str)) = false := by decide) (h1 : starEach (e :: es) X.env = (false, eval e X.env) :: starEach es X.env := by rfl) (h2 : (backTo pos (starEach es X.env)).any (·.1) = false := by rfl) :
    PE X (.Call (.Name x p) (e :: es) [] pos) (tCall sp [] E0 t) := by
  obtain ⟨f, fd, F, hm, kp, b⟩ := D.ex
  exact pe_call F (hr.mono hk) hg hm kp b .nil pass0 ha hd h1 h2
end
/-- how arguments bind: one, two, three of them -/
theorem df_mk {P : Program} {w : World} {K : PySem.W.Frag} {mg : Str → Option Value} {base : Heap} {k : Nat} {x : Str} {st : Stmt} {f : Addr} {fd : FuncData} {ps : List Str} {sp : Sp} (F : Fun K x x st f fd) (hm : mg x = some (.ref f)) (b : Binds K fd ps []) (h : FnOk P w K mg base CX0 k f fd ps sp) :
    Df P w K mg base k x ps sp := ⟨f, fd, h, hm, F.kp, b⟩

section
variable {P : Program} {w : World} {K : PySem.W.Frag} {mg : Str → Option Value} {base : Heap}
/-! ### is_circle -/
def spIsC (K : PySem.W.Frag) : Sp := fun vs H Q _ => ∃ (a : Addr) (k : Ci), vs = [.ref a] ∧ SqT K H a (cv k) ∧ Valid k ∧ Sm Big k ∧ Q (.bl true) H
theorem scIsC : FnScope ["circle", "b", "c", "x", "y"] ["circle"] (defScope sIsC) := ⟨rfl, rfl, rfl, by decide +kernel, rfl, by decide +kernel, by decide +kernel⟩
theorem ok_isC {f : Addr} {fd : FuncData} (F : Fun K "is_circle" "is_circle" sIsC f fd) (T : Txt mg) : FnOk P w K mg base CX0 1 f fd ["circle"] (spIsC K) := by
  refine F.ok scIsC (fun vs H Q E h => ?_) (fun cdv A outer s H vs Q E hr h => ?_)
  · obtain ⟨a, k, rfl, _⟩ := h
    rfl
  · obtain ⟨a, k, rfl, hq, hv, hs, q⟩ := h
    have nd := scIsC.nd
    refine ⟨_, pss_cons (ps_if (pt_cmpR op_ne (pe_callB call_len_seq (by rfl) T.len PySem.boot_len (pa_cons (pv 0) pa_nil)) pe_int (nomark _)) pss_never pss_nil)
      (pss_cons (ps_asg (pv 0) (pg_tup rfl (pgs_cons (pg_name (i := 1) nd rfl (.inl rfl)) (pgs_cons (pg_name (i := 2) nd rfl (.inl rfl)) (pgs_cons (pg_name (i := 3) nd rfl (.inl rfl)) (pgs_cons (pg_name (i := 4) nd rfl (.inl rfl)) pgs_nil))))))
      (pss_one (ps_ret (pe_cmpR op_eq (pe_op op_sub (pe_op op_add (pe_op op_mul (pv 3) (pv 3)) (pe_op op_mul (pv 4) (pv 4))) (pe_op op_mul (pv 1) (pv 2))) pe_int (nomark _))))), ?_⟩
    refine ⟨_, rfl, a, _, rfl, .inr hq, rfl, _, rfl, iteNS rfl ?_⟩
    refine ⟨_, rfl, a, _, rfl, hq, rfl, _, _, rfl, _, _, rfl, _, _, rfl, _, _, rfl, rfl, ?_⟩
    obtain ⟨h1, h2, h3, h4, h5, h6, h7, h8⟩ : Sm 1152921504606846976 k := hs
    refine ⟨_, rfl, _, rfl, _, _, rfl, rfl, .inl ⟨by omega, by omega⟩, _, rfl, _, rfl, _, _, rfl, rfl, .inl ⟨by omega, by omega⟩, _, _, rfl, rfl, _, rfl, _, rfl, _, _, rfl, rfl, .inl ⟨by omega, by omega⟩, _, _, rfl, rfl, rfl, ?_⟩
    have e : decide (V.int (k.x * k.x + k.y * k.y - k.b * k.c) = V.int 1) = true := decide_eq_true (by rw [show k.x * k.x + k.y * k.y - k.b * k.c = 1 from hv])
    show Q (.bl (decide (V.int (k.x * k.x + k.y * k.y - k.b * k.c) = V.int 1))) H
    rw [e]
    exact q
/-! ### check_circle -/
def spChk (K : PySem.W.Frag) : Sp := fun vs H Q _ => ∃ (a : Addr) (k : Ci), vs = [.ref a] ∧ SqT K H a (cv k) ∧ Valid k ∧ Sm Big k ∧ Q .non H
theorem scChk : FnScope ["circle"] ["circle"] (defScope sChk) := ⟨rfl, rfl, rfl, by decide +kernel, rfl, by decide +kernel, by decide +kernel⟩
theorem ok_chk {f : Addr} {fd : FuncData} (F : Fun K "check_circle" "check_circle" sChk f fd) (D : Df P w K mg base 1 "is_circle" ["circle"] (spIsC K)) : FnOk P w K mg base CX0 2 f fd ["circle"] (spChk K) := by
  refine F.ok scChk (fun vs H Q E h => ?_) (fun cdv A outer s H vs Q E hr h => ?_)
  · obtain ⟨a, k, rfl, _⟩ := h
    rfl
  · obtain ⟨a, k, rfl, hq, hv, hs, q⟩ := h
    refine ⟨_, pss_one (ps_if (pt_not (pt_val (pe_df D hr (pa_cons (pv 0) pa_nil)))) pss_never pss_nil), ?_⟩
    refine ⟨_, rfl, a, k, rfl, hq, hv, hs, true, rfl, ?_⟩
    exact iteF q
end
end FtW

namespace FtW
open PySem PySem.Spec PyProof.Rows L2 FtR Ft
section
variable {P : Program} {w : World} {K : PySem.W.Frag} {mg : Str → Option Value} {base : Heap}
/-- a circle stands at a -/
structure CirA (K : PySem.W.Frag) (H : Hp) (a : Addr) (k : Ci) : Prop where
  at_ : SqT K H a (cv k)
  va : Valid k
  sm : Sm Big k
theorem CirA.mono {H H' : Hp} {a : Addr} {k : Ci} (c : CirA K H a k) (e : Same H H') : CirA K H' a k := ⟨Same.tup e c.at_, c.va, c.sm⟩
/-! ### double -/
def spDbl (K : PySem.W.Frag) : Sp := fun vs H Q _ => ∃ (a b : Addr) (k l : Ci), vs = [.ref a, .ref b] ∧ CirA K H a k ∧ CirA K H b l ∧ Q (.int (dbl k l)) H
theorem scDbl : FnScope ["one", "other", "b", "c", "x", "y", "far_b", "far_c", "far_x", "far_y"] ["one", "other"] (defScope sDbl) := ⟨rfl, rfl, rfl, by decide +kernel, rfl, by decide +kernel, by decide +kernel⟩
theorem ok_dbl {f : Addr} {fd : FuncData} (F : Fun K "double" "double" sDbl f fd) (D : Df P w K mg base 2 "check_circle" ["circle"] (spChk K)) : FnOk P w K mg base CX0 3 f fd ["one", "other"] (spDbl K) := by
  refine F.ok scDbl (fun vs H Q E h => ?_) (fun cdv A outer s H vs Q E hr h => ?_)
  · obtain ⟨a, b, k, l, rfl, _⟩ := h
    rfl
  · obtain ⟨a, b, k, l, rfl, ⟨hq, hv, hs⟩, ⟨hq', hv', hs'⟩, q⟩ := h
    have nd := scDbl.nd
    refine ⟨_, pss_cons (ps_expr (pe_df D hr (pa_cons (pv 0) pa_nil))) (pss_cons (ps_expr (pe_df D hr (pa_cons (pv 1) pa_nil)))
      (pss_cons (ps_asg (pv 0) (pg_tup rfl (pgs_cons (pg_name (i := 2) nd rfl (.inl rfl)) (pgs_cons (pg_name (i := 3) nd rfl (.inl rfl)) (pgs_cons (pg_name (i := 4) nd rfl (.inl rfl)) (pgs_cons (pg_name (i := 5) nd rfl (.inl rfl)) pgs_nil))))))
      (pss_cons (ps_asg (pv 1) (pg_tup rfl (pgs_cons (pg_name (i := 6) nd rfl (.inl rfl)) (pgs_cons (pg_name (i := 7) nd rfl (.inl rfl)) (pgs_cons (pg_name (i := 8) nd rfl (.inl rfl)) (pgs_cons (pg_name (i := 9) nd rfl (.inl rfl)) pgs_nil))))))
      (pss_one (ps_ret (pe_op op_sub (pe_op op_mul pe_int (pe_op op_add (pe_op op_mul (pv 4) (pv 8)) (pe_op op_mul (pv 5) (pv 9)))) (pe_op op_add (pe_op op_mul (pv 2) (pv 7)) (pe_op op_mul (pv 6) (pv 3))))))))), ?_⟩
    refine ⟨_, rfl, a, k, rfl, hq, hv, hs, _, rfl, b, l, rfl, hq', hv', hs', ?_⟩
    refine ⟨_, rfl, a, _, rfl, hq, rfl, _, _, rfl, _, _, rfl, _, _, rfl, _, _, rfl, rfl, ?_⟩
    refine ⟨_, rfl, b, _, rfl, hq', rfl, _, _, rfl, _, _, rfl, _, _, rfl, _, _, rfl, rfl, ?_⟩
    obtain ⟨h1, h2, h3, h4, h5, h6, h7, h8⟩ : Sm 1152921504606846976 k := hs
    obtain ⟨g1, g2, g3, g4, g5, g6, g7, g8⟩ : Sm 1152921504606846976 l := hs'
    refine ⟨_, rfl, _, rfl, _, _, rfl, rfl, .inl ⟨by omega, by omega⟩, _, rfl, _, rfl, _, _, rfl, rfl, .inl ⟨by omega, by omega⟩, _, _, rfl, rfl, _, _, rfl, rfl, .inl ⟨by decide, by decide⟩, ?_⟩
    refine ⟨_, rfl, _, rfl, _, _, rfl, rfl, .inl ⟨by omega, by omega⟩, _, rfl, _, rfl, _, _, rfl, rfl, .inl ⟨by omega, by omega⟩, _, _, rfl, rfl, _, _, rfl, rfl, ?_⟩
    exact q
/-! ### are_outward -/
def spOut (K : PySem.W.Frag) : Sp := fun vs H Q _ => ∃ (a b : Addr) (k l : Ci), vs = [.ref a, .ref b] ∧ SqT K H a (cv k) ∧ SqT K H b (cv l) ∧ Q (.bl (outw k l)) H
theorem scOut : FnScope ["one", "other", "b"] ["one", "other"] (defScope sOut) := ⟨rfl, rfl, rfl, by decide +kernel, rfl, by decide +kernel, by decide +kernel⟩
theorem ok_out {f : Addr} {fd : FuncData} (F : Fun K "are_outward" "are_outward" sOut f fd) : FnOk P w K mg base CX0 1 f fd ["one", "other"] (spOut K) := by
  refine F.ok scOut (fun vs H Q E h => ?_) (fun cdv A outer s H vs Q E hr h => ?_)
  · obtain ⟨a, b, k, l, rfl, _⟩ := h
    rfl
  · obtain ⟨a, b, k, l, rfl, hq, hq', q⟩ := h
    have nd := scOut.nd
    refine ⟨_, pss_cons (ps_set (i := 2) nd rfl (.inl rfl) (pe_op op_add (pe_ix ix_tup (pv 0) pe_int (fun _ _ => rfl)) (pe_ix ix_tup (pv 1) pe_int (fun _ _ => rfl))))
      (pss_one (ps_ret (pe_or (pe_cmpR op_gt (pv 2) pe_int (nomark _)) (pe_one (pe_and (pe_cmpR op_eq (pv 2) pe_int (nomark _))
        (pe_one (pe_cmpR op_gt (pe_op op_add (pe_ix ix_tup (pv 0) pe_int (fun _ _ => rfl)) (pe_ix ix_tup (pv 1) pe_int (fun _ _ => rfl))) pe_int (nomark _)))))))), ?_⟩
    refine ⟨_, rfl, a, _, _, _, rfl, rfl, hq, at_of (j := 0) rfl rfl, _, rfl, b, _, _, _, rfl, rfl, hq', at_of (j := 0) rfl rfl, _, _, rfl, rfl, ?_⟩
    refine ⟨_, rfl, _, _, rfl, rfl, _, rfl, ite2 (fun c1 => ?_) fun c1 => ?_⟩
    · have e : outw k l = true := outw_iff.mpr (.inl (of_decide_eq_true c1))
      rw [e] at q
      exact q
    · refine ⟨_, rfl, rfl, _, rfl, ite2 (fun c2 => ?_) fun c2 => ?_⟩
      · refine ⟨_, rfl, a, _, _, _, rfl, rfl, hq, at_of (j := 1) rfl rfl, _, rfl, b, _, _, _, rfl, rfl, hq', at_of (j := 1) rfl rfl, _, _, rfl, rfl, _, _, rfl, rfl, ?_⟩
        have e0 : k.b + l.b = 0 := V.int.inj (of_decide_eq_true c2)
        have e : outw k l = decide (0 < k.c + l.c) := by
          unfold outw
          rw [e0]
          simp
        rw [e] at q
        exact q
      · have e0 : ¬ k.b + l.b = 0 := fun z => c2 (decide_eq_true (show V.int (k.b + l.b) = V.int 0 by rw [z]))
        have e1 : ¬ 0 < k.b + l.b := fun z => c1 (decide_eq_true z)
        have e : outw k l = false := by
          unfold outw
          rw [decide_eq_false e0, decide_eq_false e1]
          rfl
        rw [e] at q
        exact q
/-! ### touch -/
def spTch (K : PySem.W.Frag) : Sp := fun vs H Q _ => ∃ (a b : Addr) (k l : Ci), vs = [.ref a, .ref b] ∧ CirA K H a k ∧ CirA K H b l ∧ Q (.bl (tch k l)) H
theorem scTch : FnScope ["one", "other"] ["one", "other"] (defScope sTch) := ⟨rfl, rfl, rfl, by decide +kernel, rfl, by decide +kernel, by decide +kernel⟩
theorem ok_tch {f : Addr} {fd : FuncData} (F : Fun K "touch" "touch" sTch f fd) (D : Df P w K mg base 3 "double" ["one", "other"] (spDbl K)) (O : Df P w K mg base 1 "are_outward" ["one", "other"] (spOut K)) :
    FnOk P w K mg base CX0 4 f fd ["one", "other"] (spTch K) := by
  refine F.ok scTch (fun vs H Q E h => ?_) (fun cdv A outer s H vs Q E hr h => ?_)
  · obtain ⟨a, b, k, l, rfl, _⟩ := h
    rfl
  · obtain ⟨a, b, k, l, rfl, hk, hl, q⟩ := h
    refine ⟨_, pss_one (ps_ret (pe_and (pe_cmpR op_eq (pe_df D hr (pa_cons (pv 0) (pa_cons (pv 1) pa_nil))) (pe_un un_neg pe_int) (nomark _)) (pe_one (pe_df O hr (pa_cons (pv 0) (pa_cons (pv 1) pa_nil)))))), ?_⟩
    refine ⟨_, rfl, _, rfl, a, b, k, l, rfl, hk, hl, _, rfl, rfl, _, rfl, ite2 (fun c1 => ?_) fun c1 => ?_⟩
    · have e0 : dbl k l = -2 := V.int.inj (of_decide_eq_true c1)
      refine ⟨_, rfl, _, rfl, a, b, k, l, rfl, hk.at_, hl.at_, ?_⟩
      have e : tch k l = outw k l := by
        unfold tch
        rw [decide_eq_true e0]
        rfl
      rw [e] at q
      exact q
    · have e0 : ¬ dbl k l = -2 := fun z => c1 (decide_eq_true (show V.int (dbl k l) = V.int (-2) by rw [z]))
      have e : tch k l = false := by
        unfold tch
        rw [decide_eq_false e0]
        rfl
      rw [e] at q
      exact q
/-! ### side -/
/-- a point of two fractions stands at a -/
structure PtA (K : PySem.W.Frag) (H : Hp) (a : Addr) (p q r s : Int) : Prop where
  at_ : ∃ a1 a2, SqT K H a [.ref a1, .ref a2] ∧ SqT K H a1 [.int p, .int q] ∧ SqT K H a2 [.int r, .int s]
  p0 : -1152921504606846976 ≤ p
  p1 : p ≤ 1152921504606846976
  q0 : 1 ≤ q
  q1 : q ≤ 1152921504606846976
  r0 : -1152921504606846976 ≤ r
  r1 : r ≤ 1152921504606846976
  s0 : 1 ≤ s
  s1 : s ≤ 1152921504606846976
theorem PtA.mono {H H' : Hp} {a : Addr} {p q r s : Int} (h : PtA K H a p q r s) (e : Same H H') : PtA K H' a p q r s := by
  obtain ⟨⟨a1, a2, h1, h2, h3⟩, g⟩ := h
  exact ⟨⟨a1, a2, Same.tup e h1, Same.tup e h2, Same.tup e h3⟩, by assumption, by assumption, by assumption, by assumption, by assumption, by assumption, by assumption, by assumption⟩
theorem wide_side {q s x p y r : Int} (hq : q.natAbs < 2 ^ 61) (hs : s.natAbs < 2 ^ 61) (hx : x.natAbs < 2 ^ 61) (hp : p.natAbs < 2 ^ 61) (hy : y.natAbs < 2 ^ 61) (hr : r.natAbs < 2 ^ 61) : CMulW (2 * q * s) (x * p * s + y * r * q) := by
  have h2 : (2 : Int).natAbs < 2 ^ 2 := by decide
  have a1 := wide_lt (wide_lt h2 hq) hs
  have a2 := wide_lt (wide_lt hx hp) hs
  have a3 := wide_lt (wide_lt hy hr) hq
  have a4 : (x * p * s + y * r * q).natAbs < 2 ^ (61 + 61 + 61 + 1) := by
    have := Int.natAbs_add_le (x * p * s) (y * r * q)
    have e : (2 : Nat) ^ (61 + 61 + 61 + 1) = 2 ^ (61 + 61 + 61) * 2 := Nat.pow_succ 2 (61 + 61 + 61)
    omega
  exact wide_mul a1 a4 (by decide) (by decide) (by decide)
def spSide (K : PySem.W.Frag) : Sp := fun vs H Q _ => ∃ (a b : Addr) (k : Ci) (p q r s : Int), vs = [.ref a, .ref b] ∧ CirA K H a k ∧ PtA K H b p q r s ∧ Q (.int (sideV k p q r s)) H
theorem scSide : FnScope ["circle", "point", "p", "q", "r", "s", "b", "c", "x", "y", "value"] ["circle", "point"] (defScope sSide) := ⟨rfl, rfl, rfl, by decide +kernel, rfl, by decide +kernel, by decide +kernel⟩
theorem ok_side {f : Addr} {fd : FuncData} (F : Fun K "side" "side" sSide f fd) (D : Df P w K mg base 2 "check_circle" ["circle"] (spChk K)) : FnOk P w K mg base CX0 3 f fd ["circle", "point"] (spSide K) := by
  refine F.ok scSide (fun vs H Q E h => ?_) (fun cdv A outer z H vs Q E hr h => ?_)
  · obtain ⟨a, b, k, p, q, r, s, rfl, _⟩ := h
    rfl
  · obtain ⟨a, b, k, p, q, r, s, rfl, ⟨hq, hv, hs⟩, ⟨⟨a1, a2, t0, t1, t2⟩, p0, p1, q0, q1, r0, r1, s0, s1⟩, qq⟩ := h
    have nd := scSide.nd
    refine ⟨_, pss_cons (ps_expr (pe_df D hr (pa_cons (pv 0) pa_nil)))
      (pss_cons (ps_asg (pv 1) (pg_tup rfl (pgs_cons (pg_tup rfl (pgs_cons (pg_name (i := 2) nd rfl (.inl rfl)) (pgs_cons (pg_name (i := 3) nd rfl (.inl rfl)) pgs_nil)))
        (pgs_cons (pg_tup rfl (pgs_cons (pg_name (i := 4) nd rfl (.inl rfl)) (pgs_cons (pg_name (i := 5) nd rfl (.inl rfl)) pgs_nil))) pgs_nil))))
      (pss_cons (ps_if (PW.pt (pw_or (pt_cmpR op_lt (pv 3) pe_int (nomark _)) (pw_or1 (pt_cmpR op_lt (pv 5) pe_int (nomark _))))) pss_never pss_nil)
      (pss_cons (ps_asg (pv 0) (pg_tup rfl (pgs_cons (pg_name (i := 6) nd rfl (.inl rfl)) (pgs_cons (pg_name (i := 7) nd rfl (.inl rfl)) (pgs_cons (pg_name (i := 8) nd rfl (.inl rfl)) (pgs_cons (pg_name (i := 9) nd rfl (.inl rfl)) pgs_nil))))))
      (pss_cons (ps_set (i := 10) nd rfl (.inl rfl) (pe_op op_add
        (pe_op op_sub
          (pe_op op_mul (pv 6) (pe_op op_add (pe_op op_mul (pe_op op_mul (pe_op op_mul (pv 2) (pv 2)) (pv 5)) (pv 5)) (pe_op op_mul (pe_op op_mul (pe_op op_mul (pv 4) (pv 4)) (pv 3)) (pv 3))))
          (pe_op op_mulW (pe_op op_mul (pe_op op_mul pe_int (pv 3)) (pv 5)) (pe_op op_add (pe_op op_mul (pe_op op_mul (pv 8) (pv 2)) (pv 5)) (pe_op op_mul (pe_op op_mul (pv 9) (pv 4)) (pv 3)))))
        (pe_op op_mul (pe_op op_mul (pe_op op_mul (pe_op op_mul (pv 7) (pv 3)) (pv 3)) (pv 5)) (pv 5))))
      (pss_one (ps_ret (pe_op op_subB (pe_cmpR op_lt (pv 10) pe_int (nomark _)) (pe_cmpR op_gt (pv 10) pe_int (nomark _))))))))), ?_⟩
    refine ⟨_, rfl, a, k, rfl, hq, hv, hs, ?_⟩
    refine ⟨_, rfl, b, _, rfl, t0, rfl, _, _, rfl, a1, _, rfl, t1, rfl, _, _, rfl, _, _, rfl, rfl, _, _, rfl, a2, _, rfl, t2, rfl, _, _, rfl, _, _, rfl, rfl, rfl, ?_⟩
    refine ⟨_, rfl, _, _, rfl, rfl, _, rfl, ite2 (fun c => ?_) fun c => ?_⟩
    · exact absurd (of_decide_eq_true c) (by omega)
    refine ⟨_, rfl, _, _, rfl, rfl, _, rfl, ite2 (fun c => ?_) fun c => ?_⟩
    · exact absurd (of_decide_eq_true c) (by omega)
    refine ⟨_, rfl, a, _, rfl, hq, rfl, _, _, rfl, _, _, rfl, _, _, rfl, _, _, rfl, rfl, ?_⟩
    obtain ⟨h1, h2, h3, h4, h5, h6, h7, h8⟩ : Sm 1152921504606846976 k := hs
    have bp : -(2 ^ 64) < p ∧ p < 2 ^ 64 := ⟨by omega, by omega⟩
    have bq : -(2 ^ 64) < q ∧ q < 2 ^ 64 := ⟨by omega, by omega⟩
    have br : -(2 ^ 64) < r ∧ r < 2 ^ 64 := ⟨by omega, by omega⟩
    have bs : -(2 ^ 64) < s ∧ s < 2 ^ 64 := ⟨by omega, by omega⟩
    have bb : -(2 ^ 64) < k.b ∧ k.b < 2 ^ 64 := ⟨by omega, by omega⟩
    have bc : -(2 ^ 64) < k.c ∧ k.c < 2 ^ 64 := ⟨by omega, by omega⟩
    have bx : -(2 ^ 64) < k.x ∧ k.x < 2 ^ 64 := ⟨by omega, by omega⟩
    have byy : -(2 ^ 64) < k.y ∧ k.y < 2 ^ 64 := ⟨by omega, by omega⟩
    -- the first product
    refine ⟨_, rfl, _, rfl, _, rfl, _, _, rfl, rfl, .inl bp, _, rfl, _, _, rfl, rfl, .inr bs, _, rfl, _, _, rfl, rfl, .inr bs, ?_⟩
    refine ⟨_, rfl, _, rfl, _, _, rfl, rfl, .inl br, _, rfl, _, _, rfl, rfl, .inr bq, _, rfl, _, _, rfl, rfl, .inr bq, _, _, rfl, rfl, _, _, rfl, rfl, .inl bb, ?_⟩
    -- the second
    refine ⟨_, rfl, _, _, rfl, rfl, .inr bq, _, rfl, _, _, rfl, rfl, .inr bs, ?_⟩
    refine ⟨_, rfl, _, rfl, _, _, rfl, rfl, .inl bx, _, rfl, _, _, rfl, rfl, .inr bs, _, rfl, _, rfl, _, _, rfl, rfl, .inl byy, _, rfl, _, _, rfl, rfl, .inr bq, _, _, rfl, rfl, _, _, rfl, rfl, wide_side (by omega) (by omega) (by omega) (by omega) (by omega) (by omega), _, _, rfl, rfl, ?_⟩
    -- the third
    refine ⟨_, rfl, _, rfl, _, _, rfl, rfl, .inl bc, _, rfl, _, _, rfl, rfl, .inr bq, _, rfl, _, _, rfl, rfl, .inr bs, _, rfl, _, _, rfl, rfl, .inr bs, _, _, rfl, rfl, ?_⟩
    refine ⟨_, rfl, _, _, rfl, rfl, _, rfl, _, _, rfl, rfl, _, _, rfl, rfl, ?_⟩
    have e : sideV k p q r s = b2i (decide (val k p q r s < 0)) - b2i (decide (0 < val k p q r s)) := by
      rw [b2i_decide, b2i_decide]
      rfl
    rw [e] at qq
    exact qq
end
end FtW

namespace FtW
open PySem PySem.Spec PyProof.Rows L2 FtR Ft
/-! ### heaps that grow -/
theorem Same.updD {H H' : Hp} {D : Addr} {o : HO} (e : Same H H') (hD : H D = none) : Same H (upd H' D o) := fun b u h => by
  rw [upd_ne (ne_of_none h hD)]
  exact e b u h
theorem SqT.other {K : PySem.W.Frag} {H : Hp} {a D : Addr} {xs ys : List V} {o : HO} (h : SqT K H a xs) (hD : H D = some (.lst ys)) : SqT K (upd H D o) a xs := by
  rcases h with (h | ⟨u, h⟩) | h
  · exact .inl (.inl (by rw [upd_ne (ne_of h hD (by intro q; cases q))]; exact h))
  · exact .inl (.inr ⟨u, by rw [upd_ne (ne_of h hD (by intro q; cases q))]; exact h⟩)
  · exact .inr h
theorem Cirs.other {K : PySem.W.Frag} {H : Hp} {as : List Addr} {cs : List Ci} {D : Addr} {ys : List V} {o : HO} (h : Cirs K H as cs) (hD : H D = some (.lst ys)) : Cirs K (upd H D o) as cs :=
  ⟨h.1, fun i a k ha hk => SqT.other (h.2 i a k ha hk) hD⟩
/-- what a turn of a comprehension is to reach -/
def Nxt (H : Hp) (D : Addr) (n : Nat) (R : Nat → List V → Hp → Prop) (j : Nat) (y : V) (H4 : Hp) : Prop :=
  ∃ acc, H4 D = some (.lst acc) ∧ acc.length < sizeLine ∧ ∃ acc2, acc2.length = j + 1 ∧ Same H (upd H4 D (.lst (acc ++ [y]))) ∧ (upd H4 D (.lst (acc ++ [y]))) D = some (.lst acc2) ∧ R (j + 1) acc2 (upd H4 D (.lst (acc ++ [y])))
theorem Nxt.mk {H H4 : Hp} {D : Addr} {n : Nat} {R : Nat → List V → Hp → Prop} {j : Nat} {y : V} {acc : List V} (hD : H D = none) (hz : n < sizeLine) (hj : j < n) (ha : acc.length = j) (e : Same H H4) (d : H4 D = some (.lst acc))
    (r : R (j + 1) (acc ++ [y]) (upd H4 D (.lst (acc ++ [y])))) : Nxt H D n R j y H4 :=
  ⟨acc, d, by omega, acc ++ [y], by rw [List.length_append, ha]; rfl, Same.updD e hD, upd_same, r⟩
/-- THE COMPREHENSION, no test: the list so far is acc, R says what is true of it -/
theorem lc_acc {J : It} {n : Nat} {G : Hp → Prop} {Y : Nat → Hp → V → Hp → Prop} (w : Walk J n G Y) {g : TG} {te : TE} {vs : List Nat} {σ : L2.St} {H : Hp} {D : Addr} {Qd : Hp → Prop} (hD : H D = none)
    (R : Nat → List V → Hp → Prop) (h0 : R 0 [] (upd H D (.lst []))) (hG : ∀ H', Same H H' → G H')
    (hs : ∀ (j : Nat) (x : V) (acc : List V) (H1 H1' : Hp), j < n → acc.length = j → Same H H1 → H1 D = some (.lst acc) → R j acc H1 → Y j H1 x H1' →
      g x (wipe σ vs) H1' fun σ2 H2 => wipe σ2 vs = wipe σ vs ∧ te σ2 H2 fun y H4 => Nxt H D n R j y H4)
    (hd : ∀ (acc : List V) (H' : Hp), acc.length = n → Same H H' → H' D = some (.lst acc) → R n acc H' → Qd H') :
    ∃ W : Nat → Nat → Hp → Prop, (∃ m, W 0 m (upd H D (.lst []))) ∧ ∀ i m H, W i m H →
      (J.stop i H ∧ Qd H) ∨ (J.go i H ∧ ∃ Nx : Hp → Prop, (∀ H', Nx H' → ∃ m', m' < m ∧ W (i + 1) m' H') ∧ ∀ x H', J.yld i H x H' → g x (wipe σ vs) H' fun σ2 H2 => wipe σ2 vs = wipe σ vs ∧ tYes σ2 H2 fun b H3 =>
        if b = true then te σ2 H3 fun y H4 => ∃ acc, H4 D = some (.lst acc) ∧ acc.length < sizeLine ∧ Nx (upd H4 D (.lst (acc ++ [y]))) else Nx H3) := by
  refine lc_it w (fun j H' => ∃ acc, acc.length = j ∧ Same H H' ∧ H' D = some (.lst acc) ∧ R j acc H') ⟨[], rfl, Same.updD (Same.refl H) hD, upd_same, h0⟩ (fun j H' _ ⟨_, _, e, _⟩ => hG H' e) ?_ ?_
  · rintro j x H1 H1' hj ⟨acc, ha, e, eD, r⟩ y
    exact hs j x acc H1 H1' hj ha e eD r y
  · rintro H' ⟨acc, ha, e, eD, r⟩
    exact hd acc H' ha e eD r

/-! ### a part of a circle -/
def Ci.p (k : Ci) : Nat → Int
  | 0 => k.b
  | 1 => k.c
  | 2 => k.x
  | _ => k.y
theorem cv_at (k : Ci) {i : Nat} (hi : i < 4) : (cv k)[i]? = some (.int (Ci.p k i)) := by
  match i, hi with
  | 0, _ => rfl
  | 1, _ => rfl
  | 2, _ => rfl
  | 3, _ => rfl
theorem cv_eq (k : Ci) : cv k = [.int (Ci.p k 0), .int (Ci.p k 1), .int (Ci.p k 2), .int (Ci.p k 3)] := rfl
theorem oth_p (cs : List Ci) (k : Ci) (i : Nat) : Ci.p (oth cs k) i = 2 * (cs.map fun c => Ci.p c i).sum - 3 * Ci.p k i := by
  match i with
  | 0 => rfl
  | 1 => rfl
  | 2 => rfl
  | i + 3 => rfl
/-- the reading of «the part of each circle of them», whatever walks them -/
theorem lc_parts {K : PySem.W.Frag} {J : It} {as : List Addr} {cs : List Ci} {G : Hp → Prop} (w : Walk J as.length G (YAt (as.map V.ref))) {H : Hp} (hC : Cirs K H as cs) {i : Nat} (hi : i < 4) {σ : L2.St} {u p : Nat} {z : Int} (hp : σ[p]? = some (some (.int z))) (ez : z = ((i : Nat) : Int)) (hup : u ≠ p) (hu : u < σ.length) (hz : as.length < sizeLine)
    (hG : ∀ H', Same H H' → G H') {D : Addr} (hD : H D = none) {Qd : Hp → Prop} (hQ : ∀ H', Same H H' → H' D = some (.lst ((cs.map fun k => Ci.p k i).map V.int)) → Qd H') :
    ∃ W : Nat → Nat → Hp → Prop, (∃ m, W 0 m (upd H D (.lst []))) ∧ ∀ j m H, W j m H →
      (J.stop j H ∧ Qd H) ∨ (J.go j H ∧ ∃ Nx : Hp → Prop, (∀ H', Nx H' → ∃ m', m' < m ∧ W (j + 1) m' H') ∧ ∀ x H', J.yld j H x H' → gName u x (wipe σ [u]) H' fun σ2 H2 => wipe σ2 [u] = wipe σ [u] ∧ tYes σ2 H2 fun b H3 =>
        if b = true then (tOp (rIxT K) (tVar u) (tVar p)) σ2 H3 fun y H4 => ∃ acc, H4 D = some (.lst acc) ∧ acc.length < sizeLine ∧ Nx (upd H4 D (.lst (acc ++ [y]))) else Nx H3) := by
  refine lc_acc w hD (fun j acc _ => acc = ((cs.take j).map fun k => Ci.p k i).map V.int) rfl hG ?_ ?_
  · rintro j x acc H1 H1' hj ha e eD r ⟨rfl, hx⟩
    have hjc : j < cs.length := by rw [← hC.1]; exact hj
    have hxa : x = V.ref as[j] := by
      rw [List.getElem?_map, List.getElem?_eq_getElem hj] at hx
      exact (Option.some.inj hx).symm
    subst hxa
    have hk : cs[j]? = some cs[j] := List.getElem?_eq_getElem hjc
    have hq : SqT K H1' as[j] (cv cs[j]) := Same.tup e (hC.2 j as[j] cs[j] (List.getElem?_eq_getElem hj) hk)
    show wipe ((wipe σ [u]).set u (some (V.ref as[j]))) [u] = wipe σ [u] ∧ _
    have e1 : (wipe σ [u]).set u (some (V.ref as[j])) = σ.set u (some (V.ref as[j])) := by
      show (σ.set u none).set u _ = _
      rw [List.set_set]
    refine ⟨?_, ?_⟩
    · show ((σ.set u none).set u _).set u none = σ.set u none
      rw [List.set_set, List.set_set]
    · rw [e1]
      refine ⟨_, List.getElem?_set_self hu, .int z, by rw [List.getElem?_set_ne hup]; exact hp, as[j], _, _, _, rfl, rfl, hq, at_of ez (cv_at cs[j] hi), Nxt.mk hD hz hj ha e eD ?_⟩
      rw [List.take_succ, hk, r, List.map_append, List.map_append]
      rfl
  · rintro acc H' ha e eD r
    refine hQ H' e ?_
    have t : cs.take as.length = cs := by rw [hC.1]; exact List.take_of_length_le (Nat.le_refl _)
    rw [t] at r
    rw [← r]
    exact eD
end FtW

namespace FtW
open PySem PySem.Spec PyProof.Rows L2 FtR Ft
/-! ### the class of fours -/
def ff (t : Addr) : List (Str × V) := putF "circles" (.ref t) []
theorem ff_c (t : Addr) : (ff t).lookup ("circles" : Str) = some (.ref t) := by
  unfold ff
  rw [lookup_putF, if_pos rfl]
theorem ff_no (t : Addr) {m : Str} (h : ¬ m = "circles") : (ff t).lookup m = none := by
  unfold ff
  rw [lookup_putF, if_neg h]
  all_goals rfl
/-- a four stands at p; its circles are the tuples at as -/
def FourAt (K : PySem.W.Frag) (C : Addr) (H : Hp) (p : Addr) (as : List Addr) : Prop := ∃ dx t, H p = some (.ins C dx (ff t)) ∧ SqT K H t (as.map V.ref)
theorem FourAt.mono {K : PySem.W.Frag} {C : Addr} {H H' : Hp} {p : Addr} {as : List Addr} (h : FourAt K C H p as) (e : Same H H') : FourAt K C H' p as := by
  obtain ⟨dx, t, h1, h2⟩ := h
  exact ⟨dx, t, e _ _ h1, Same.tup e h2⟩
structure TxF (K : PySem.W.Frag) (mg : Str → Option Value) (C : Addr) : Prop where
  cl : Cls K C
  nC : NoAttr K C "circles"
  mgC : mg "Four" = some (.ref C)
  nums : ∃ N, mg "NUMBERS" = some (.ref N) ∧ ∀ H, SqT K H N [.int 1, .int 2, .int 3, .int 4]
theorem num_in {i : Nat} (hi : i < 4) : inV (.int ((i : Nat) + 1)) [.int 1, .int 2, .int 3, .int 4] = true := by
  match i, hi with
  | 0, _ => rfl
  | 1, _ => rfl
  | 2, _ => rfl
  | 3, _ => rfl
section
variable {P : Program} {w : World} {K : PySem.W.Frag} {mg : Str → Option Value} {base : Heap} {C : Addr}
/-! ### check_number -/
def spNum : Sp := fun vs H Q _ => ∃ (i : Nat), vs = [.int ((i : Nat) + 1)] ∧ i < 4 ∧ Q .non H
theorem scNum : FnScope ["number"] ["number"] (defScope sNum) := ⟨rfl, rfl, rfl, by decide +kernel, rfl, by decide +kernel, by decide +kernel⟩
theorem ok_num {f : Addr} {fd : FuncData} (F : Fun K "check_number" "check_number" sNum f fd) (T : TxF K mg C) : FnOk P w K mg base CX0 1 f fd ["number"] spNum := by
  refine F.ok scNum (fun vs H Q E h => ?_) (fun cdv A outer s H vs Q E hr h => ?_)
  · obtain ⟨i, rfl, _⟩ := h
    rfl
  · obtain ⟨i, rfl, hi, q⟩ := h
    obtain ⟨N, hN, hS⟩ := T.nums
    refine ⟨_, pss_one (ps_if (pt_cmpR op_notIn_seq (pv 0) (pe_glob (v := .ref N) (by rfl) hN rfl) (by rfl)) pss_never pss_nil), ?_⟩
    refine ⟨_, rfl, N, _, rfl, .inr (hS H), rfl, rfl, _, rfl, ?_⟩
    rw [num_in hi]
    exact iteF q
/-! ### Four.circle -/
def spCirc (K : PySem.W.Frag) (C : Addr) : Sp := fun vs H Q _ => ∃ (p : Addr) (i : Nat) (as : List Addr) (a : Addr), vs = [.ref p, .int ((i : Nat) + 1)] ∧ i < 4 ∧ FourAt K C H p as ∧ as[i]? = some a ∧ Q (.ref a) H
theorem scCirc : FnScope ["self", "number"] ["self", "number"] (defScope sCirc) := ⟨rfl, rfl, rfl, by decide +kernel, rfl, by decide +kernel, by decide +kernel⟩
theorem ok_circ {f : Addr} {fd : FuncData} (F : Fun K "circle" "Four.circle" sCirc f fd) (T : TxF K mg C) (D : Df P w K mg base 1 "check_number" ["number"] spNum) : FnOk P w K mg base CX0 2 f fd ["self", "number"] (spCirc K C) := by
  refine F.ok scCirc (fun vs H Q E h => ?_) (fun cdv A outer s H vs Q E hr h => ?_)
  · obtain ⟨p, i, as, a, rfl, _⟩ := h
    rfl
  · obtain ⟨p, i, as, a, rfl, hi, ⟨dx, t, h1, h2⟩, ha, q⟩ := h
    refine ⟨_, pss_cons (ps_expr (pe_df D hr (pa_cons (pv 1) pa_nil))) (pss_one (ps_ret (pe_ix ix_tup (pe_fld (pv 0) rfl) (pe_op op_sub (pv 1) pe_int) (fun _ _ => rfl)))), ?_⟩
    refine ⟨_, rfl, i, rfl, hi, ?_⟩
    refine ⟨_, rfl, p, C, dx, _, _, rfl, h1, T.cl, T.nC, ff_c t, _, rfl, _, _, rfl, rfl, t, _, _, _, rfl, rfl, h2, at_of (j := i) (v := V.ref a) (by omega) (by rw [List.getElem?_map, ha]; rfl), q⟩
/-! ### Four.other -/
def spOther (K : PySem.W.Frag) (C : Addr) : Sp := fun vs H Q _ => ∃ (p : Addr) (i : Nat) (as : List Addr) (cs : List Ci) (k : Ci), vs = [.ref p, .int ((i : Nat) + 1)] ∧ i < 4 ∧ FourAt K C H p as ∧ Cirs K H as cs ∧ cs[i]? = some k ∧ cs.length = 4 ∧
  ∀ (H' : Hp) (r : Addr), Same H H' → H r = none → H' r = some (.tup (cv (oth cs k))) → Q (.ref r) H'
abbrev nOther : List Str := ["self", "number", "own", "sums", "circle", "part", "whole", "one"]
theorem scOther : FnScope nOther ["self", "number"] (defScope sOther) := ⟨rfl, rfl, rfl, by decide +kernel, rfl, by decide +kernel, by decide +kernel⟩
theorem ok_other {f fc : Addr} {fd fdc : FuncData} (F : Fun K "other" "Four.other" sOther f fd) (T : TxF K mg C) (X : Txt mg) (G : FnOk P w K mg base CX0 2 fc fdc ["self", "number"] (spCirc K C)) (bG : Binds K fdc ["self", "number"] []) (mG : Meth K C "circle" fc) :
    FnOk P w K mg base CX0 3 f fd ["self", "number"] (spOther K C) := by
  refine F.ok scOther (fun vs H Q E h => ?_) (fun cdv A outer s H vs Q E hr h => ?_)
  · obtain ⟨p, i, as, cs, k, rfl, _⟩ := h
    rfl
  · obtain ⟨p, i, as, cs, k, rfl, hi, h4, hC, hk, hl, q⟩ := h
    obtain ⟨dx, t, h1, h2⟩ := id h4
    have nd := scOther.nd
    have hlA : as.length = 4 := by rw [hC.1]; exact hl
    obtain ⟨a, ha⟩ : ∃ a, as[i]? = some a := ⟨as[i]'(by omega), List.getElem?_eq_getElem (by omega)⟩
    have hq := hC.2 i a k ha hk
    refine ⟨_, pss_cons (ps_set (i := 2) nd rfl (.inl rfl) (pe_meth (pv 0) T.cl mG G hr bG .nil pass0 (pa_cons (pv 1) pa_nil)))
      (pss_cons (ps_setLc (i := 3) (own := [("part", 5)]) (g := gName 5) (tt := tYes) (te := tCB (rSum K) (tCons (tLc (iTup K (tFld K (tVar 0) "circles")) (gName 4) tYes (tOp (rIxT K) (tVar 4) (tVar 5)) [4]) tNil)) rfl nd rfl rfl (sw_true rfl rfl rfl (by decide +kernel)) (pi_range1 (by rfl) X.range (pa_cons pe_int pa_nil)) (blkOk_by (N := nOther) (sc := defScope sOther) (by decide +kernel))
        (fun _ _ _ _ _ => pg_name (i := 5) nd rfl (.inr rfl)) (fun _ _ _ _ _ => pts_nil)
        (fun _ _ _ _ _ => pe_callB (cr_sum rfl) (by rfl) X.sum (by decide +kernel) (pa_cons (pe_lc (own := [("circle", 4)]) (g := gName 4) (tt := tYes) (te := tOp (rIxT K) (tVar 4) (tVar 5)) rfl nd (pi_tup (pe_fld (pv 0) rfl)) (blkOk_by (N := nOther) (by kernel_rfl))
          (fun _ _ _ _ _ => pg_name (i := 4) nd rfl (.inl rfl)) (fun _ _ _ _ _ => pts_nil) (fun _ _ _ _ _ => pe_ix ix_tup (pv 4) (pv 5) (fun _ _ => rfl))) pa_nil)))
      (pss_one (ps_ret (pe_callTy call_tuple_of (by rfl) X.tuple (by decide +kernel) (pa_cons (pe_lc (own := [("whole", 6), ("one", 7)]) (g := gTup K 2 (gCons (gName 6) (gCons (gName 7) gNil))) (tt := tYes) rfl nd (pi_zipLT (by rfl) X.zip (pa_cons (pv 3) (pa_cons (pv 2) pa_nil)))
        (blkOk_by (N := nOther) (sc := defScope sOther) (by decide +kernel)) (fun _ _ _ _ _ => pg_tup rfl (pgs_cons (pg_name (i := 6) nd rfl (.inl rfl)) (pgs_cons (pg_name (i := 7) nd rfl (.inl rfl)) pgs_nil))) (fun _ _ _ _ _ => pts_nil)
        (fun _ _ _ _ _ => pe_op op_sub (pe_op op_mul pe_int (pe_op op_sub (pv 6) (pv 7))) (pv 7))) pa_nil))))), ?_⟩
    -- the own circle
    refine ⟨_, rfl, p, dx, _, rfl, h1, ff_no t (by decide +kernel), _, rfl, p, i, as, a, rfl, hi, h4, ha, ?_⟩
    -- the sums
    refine ⟨4, rfl, by decide, by decide, fun D hD => lc_acc walk_range hD (fun j acc _ => acc = (List.range j).map fun m => V.int (cs.map fun c => Ci.p c m).sum) rfl (fun _ _ => trivial) ?_ ?_⟩
    · rintro j x acc H1 H1' hj ha e eD r ⟨rfl, rfl⟩
      have hj4 : j < 4 := hj
      refine ⟨rfl, _, rfl, p, C, dx, _, _, rfl, e _ _ h1, T.cl, T.nC, ff_c t, t, rfl, ⟨_, Same.tup e h2⟩, fun D2 hD2 => ?_⟩
      have wt := walk_tup (K := K) (a := t) (xs := as.map V.ref)
      rw [List.length_map] at wt
      refine lc_parts wt (hC.mono e) hj4 (z := 0 + ((j : Nat) : Int)) rfl (Int.zero_add _) (by decide) (show 4 < 8 by decide) (by rw [hlA]; decide) (fun H2 e2 => Same.tup (e.trans e2) h2) hD2 fun H3 e3 d3 => ?_
      refine ⟨D2, _, rfl, SqL.of d3, Nxt.mk hD (by decide) hj4 ha (e.trans e3) (e3 _ _ eD) ?_⟩
      rw [r, List.range_succ, List.map_append]
      rfl
    · rintro acc H1 hal e eD r
      subst r
      have eD' := eD
      refine ⟨_, rfl, _, rfl, D, a, _, _, rfl, SqL.of eD, Same.tup e hq, fun D2 hD2 => ?_⟩
      refine lc_acc (walk_zipLT (xs := (List.range 4).map fun m => V.int (cs.map fun c => Ci.p c m).sum) (ys := cv k) rfl) hD2 (fun j acc _ => acc = (List.range j).map fun m => V.int (Ci.p (oth cs k) m)) rfl (fun H2 e2 => ⟨SqL.of (e2 _ _ eD), Same.tup (e.trans e2) hq⟩) ?_ ?_
      · rintro j x acc H2 H2' hj ha2 e2 eD2 r ⟨U, x1, y1, rfl, hU, rfl, hx, hy⟩
        have hj4 : j < 4 := hj
        have ex : x1 = V.int (cs.map fun c => Ci.p c j).sum := by
          have hx : ((List.range 4).map fun m => V.int (cs.map fun c => Ci.p c m).sum)[j]? = some x1 := hx
          rw [List.getElem?_map, List.getElem?_range hj4] at hx
          exact (Option.some.inj hx).symm
        have ey : y1 = V.int (Ci.p k j) := Option.some.inj (hy.symm.trans (cv_at k hj4))
        subst ex ey
        refine ⟨U, _, rfl, SqT.of upd_same, rfl, _, _, rfl, _, _, rfl, rfl, rfl, ?_⟩
        refine ⟨_, rfl, _, rfl, _, _, rfl, rfl, _, _, rfl, rfl, .inl ⟨by decide, by decide⟩, _, rfl, _, _, rfl, rfl, ?_⟩
        refine Nxt.mk hD2 (show 4 < sizeLine by decide) hj4 ha2 (Same.updD e2 (e2.free hU)) (by rw [upd_ne (ne_of_none eD2 hU)]; exact eD2) ?_
        rw [r, List.range_succ, List.map_append]
        show _ ++ [V.int (2 * ((cs.map fun c => Ci.p c j).sum - Ci.p k j) - Ci.p k j)] = _ ++ [V.int (Ci.p (oth cs k) j)]
        rw [oth_p, show 2 * ((cs.map fun c => Ci.p c j).sum - Ci.p k j) - Ci.p k j = 2 * (cs.map fun c => Ci.p c j).sum - 3 * Ci.p k j by omega]
      · rintro acc H2 hl2 e2 eD2 r
        subst r
        refine ⟨D2, _, rfl, .inl ⟨SqL.of eD2, fun l hl => ?_⟩⟩
        exact q _ l (Same.updD (e.trans e2) ((e.trans e2).free hl)) ((e.trans e2).free hl) upd_same
/-! ### Four.__init__ -/
theorem cutV_take {xs : List V} {i : Nat} (hi : i ≤ xs.length) : cutV xs none (some ((i : Nat) : Int)) = xs.take i := by
  unfold cutV
  rw [HT.sIx_none, HT.sIx_nat, List.drop_zero, Nat.sub_zero, Nat.min_eq_left hi]
theorem all_true (n : Nat) : (List.replicate n true).all id = true := by
  rw [List.all_eq_true]
  intro x hx
  exact (List.mem_replicate.mp hx).2
/-- each of the four is a circle of its size, each two touch -/
structure Good (cs : List Ci) : Prop where
  len : cs.length = 4
  at_ : ∀ k, k ∈ cs → Valid k ∧ Sm Big k
  two : ∀ (i j : Nat) (k l : Ci), cs[i]? = some k → cs[j]? = some l → j < i → T k l
theorem Cirs.cirA {H : Hp} {as : List Addr} {cs : List Ci} (h : Cirs K H as cs) (g : ∀ k, k ∈ cs → Valid k ∧ Sm Big k) {i : Nat} {a : Addr} {k : Ci} (ha : as[i]? = some a) (hk : cs[i]? = some k) : CirA K H a k :=
  ⟨h.2 i a k ha hk, (g k (List.mem_of_getElem? hk)).1, (g k (List.mem_of_getElem? hk)).2⟩
def spInit (K : PySem.W.Frag) (C : Addr) : Sp := fun vs H Q _ => ∃ (p dx l : Addr) (as : List Addr) (cs : List Ci), vs = [.ref p, .ref l] ∧ H p = some (.ins C dx []) ∧ SqL K H l (as.map V.ref) ∧ Cirs K H as cs ∧ Good cs ∧
  ∀ H' : Hp, (∀ b o, H b = some o → b ≠ p → H' b = some o) → FourAt K C H' p as → Q .non H'
abbrev nInit : List Str := ["self", "circles", "at", "circle", "other"]
theorem scInit : FnScope nInit ["self", "circles"] (defScope sInit) := ⟨rfl, rfl, rfl, by decide +kernel, rfl, by decide +kernel, by decide +kernel⟩
theorem ok_init {f : Addr} {fd : FuncData} (F : Fun K "__init__" "Four.__init__" sInit f fd) (T : TxF K mg C) (X : Txt mg) (Dc : Df P w K mg base 2 "check_circle" ["circle"] (spChk K)) (Dt : Df P w K mg base 4 "touch" ["one", "other"] (spTch K)) :
    FnOk P w K mg base CX0 5 f fd ["self", "circles"] (spInit K C) := by
  refine F.ok scInit (fun vs H Q E h => ?_) (fun cdv A outer s H vs Q E hr h => ?_)
  · obtain ⟨p, dx, l, as, cs, rfl, _⟩ := h
    rfl
  · obtain ⟨p, dx, l, as, cs, rfl, hp, hL, hC, g, q⟩ := h
    have nd := scInit.nd
    have hlA : as.length = 4 := by rw [hC.1]; exact g.len
    have hlm : (as.map V.ref).length = 4 := by rw [List.length_map]; exact hlA
    obtain ⟨N, hN, hS⟩ := T.nums
    refine ⟨_, pss_cons (ps_if (pt_cmpR op_ne (pe_callB call_len_seq (by rfl) X.len PySem.boot_len (pa_cons (pv 1) pa_nil)) (pe_callB call_len_seq (by rfl) X.len PySem.boot_len (pa_cons (pe_glob (v := .ref N) (by rfl) hN rfl) pa_nil)) (nomark _)) pss_never pss_nil)
      (pss_cons (ps_for PassesOwn.never rfl (pi_list (pv 1)) (pg_name (i := 3) nd rfl (.inr rfl)) (pss_one (ps_expr (pe_df Dc hr (pa_cons (pv 3) pa_nil)))))
      (pss_cons (ps_fld (pv 0) (pe_callTy call_tuple_of (by rfl) X.tuple (by decide +kernel) (pa_cons (pe_lc (own := [("circle", 3)]) (g := gName 3) (tt := tYes) (te := tCB (fun xs H Q => ∃ p ys, xs = [.ref p] ∧ ((SqL K H p ys ∧ ∀ l, H l = none → Q (.ref l) (upd H l (.tup ys))) ∨ (SqT K H p ys ∧ Q (.ref p) H))) (tCons (tVar 3) tNil)) rfl nd (pi_list (pv 1)) (blkOk_by (N := nInit) (sc := defScope sInit) (by decide +kernel))
          (fun _ _ _ _ _ => pg_name (i := 3) nd rfl (.inl rfl)) (fun _ _ _ _ _ => pts_nil) (fun _ _ _ _ _ => pe_callTy call_tuple_of (by rfl) X.tuple (by decide +kernel) (pa_cons (pv 3) pa_nil))) pa_nil)) rfl)
      (pss_one (ps_for PassesOwn.never rfl (pi_enumT (by rfl) X.enum (pa_cons (pe_fld (pv 0) rfl) pa_nil)) (pg_tup rfl (pgs_cons (pg_name (i := 2) nd rfl (.inl rfl)) (pgs_cons (pg_name (i := 3) nd rfl (.inr rfl)) pgs_nil)))
        (pss_one (ps_if (pt_not (pt_val (pe_callB (cr_all rfl) (by rfl) X.all (by decide +kernel) (pa_cons (pe_lc (own := [("other", 4)]) (g := gName 4) (tt := tYes) (te := tCall (spTch K) [] E0 (tCons (tVar 3) (tCons (tVar 4) tNil))) rfl nd
          (pi_tup (pe_slice sl_tup (pe_fld (pv 0) rfl) po_none (po_some (pv 2)))) (blkOk_by (N := nInit) (sc := defScope sInit) (by decide +kernel)) (fun _ _ _ _ _ => pg_name (i := 4) nd rfl (.inl rfl)) (fun _ _ _ _ _ => pts_nil)
          (fun _ _ _ _ _ => pe_df Dt hr (pa_cons (pv 3) (pa_cons (pv 4) pa_nil)))) pa_nil)))) pss_never pss_nil)))))), ?_⟩
    -- four of them
    refine ⟨_, rfl, l, _, rfl, .inl hL, N, _, rfl, .inr (hS H), rfl, _, rfl, iteNS ?_ ?_⟩
    · show V.int (as.map V.ref).length = V.int 4
      rw [hlm]
      rfl
    -- each a circle
    refine ⟨_, rfl, l, rfl, ⟨_, hL⟩, for_list (K := K) (a := l) (xs := as.map V.ref) (fun i σ H' => ∃ v : Option V, σ = [some (.ref p), some (.ref l), none, v, none] ∧ H' = H) ⟨none, rfl, rfl⟩ (fun i σ H' _ ⟨_, _, e⟩ => by rw [e]; exact hL) ?_ ?_⟩
    · rintro i x σ H' hi ⟨v, rfl, rfl⟩
      obtain ⟨a, ha, rfl⟩ : ∃ a, as[i]? = some a ∧ x = V.ref a := by
        rw [List.getElem?_map] at hi
        cases e : as[i]? with
        | none => rw [e] at hi; cases hi
        | some a => rw [e] at hi; exact ⟨a, rfl, (Option.some.inj hi).symm⟩
      have hic : i < cs.length := by rw [← hC.1]; exact (List.getElem?_eq_some_iff.mp ha).1
      have c := hC.cirA g.at_ ha (List.getElem?_eq_getElem hic)
      exact ⟨_, rfl, a, _, rfl, c.at_, c.va, c.sm, some (V.ref a), rfl, rfl⟩
    rintro σ H' ⟨v, rfl, rfl⟩
    -- the tuple of them
    refine ⟨_, rfl, l, rfl, ⟨_, hL⟩, fun D hD => ?_⟩
    have wl := walk_list (K := K) (a := l) (xs := as.map V.ref)
    refine lc_acc wl hD (fun j acc _ => acc = (as.map V.ref).take j) rfl (fun H1 e1 => e1.seq hL) ?_ ?_
    · rintro j x acc H1 H1' hj ha1 e1 eD r ⟨rfl, hx⟩
      obtain ⟨a, ha, rfl⟩ : ∃ a, as[j]? = some a ∧ x = V.ref a := by
        rw [List.getElem?_map] at hx
        cases e : as[j]? with
        | none => rw [e] at hx; cases hx
        | some a => rw [e] at hx; exact ⟨a, rfl, (Option.some.inj hx).symm⟩
      have hic : j < cs.length := by rw [← hC.1]; exact (List.getElem?_eq_some_iff.mp ha).1
      have c := (hC.cirA g.at_ ha (List.getElem?_eq_getElem hic)).mono e1
      refine ⟨rfl, _, rfl, a, _, rfl, .inr ⟨c.at_, ?_⟩⟩
      refine Nxt.mk hD (by rw [hlm]; decide) hj ha1 e1 eD ?_
      rw [List.take_succ, hx, r]
      rfl
    rintro acc H1 hal e1 eD r
    rw [List.take_of_length_le (Nat.le_refl _)] at r
    subst r
    refine ⟨D, _, rfl, .inl ⟨SqL.of eD, fun t ht => ?_⟩⟩
    have hp1 : H1 p = some (.ins C dx []) := e1 _ _ hp
    have npt : p ≠ t := ne_of_none hp1 ht
    refine ⟨_, rfl, p, C, dx, [], rfl, by rw [upd_ne npt]; exact hp1, T.cl, T.nC, by show 0 < 1000; decide, ?_⟩
    generalize hH2 : upd (upd H1 t (.tup (as.map V.ref))) p (.ins C dx (putF "circles" (V.ref t) [])) = H2
    have h2p : H2 p = some (.ins C dx (ff t)) := by rw [← hH2]; exact upd_same
    have h2t : SqT K H2 t (as.map V.ref) := SqT.of (by rw [← hH2, upd_ne npt.symm]; exact upd_same)
    have h2k : ∀ b o, H' b = some o → b ≠ p → H2 b = some o := fun b o e hb => by
      rw [← hH2, upd_ne hb, upd_ne (ne_of_none (e1 _ _ e) ht)]
      exact e1 _ _ e
    have h2C : Cirs K H2 as cs := by
      refine ⟨hC.1, fun i a k ha hk => ?_⟩
      rcases hC.2 i a k ha hk with (z | ⟨o, z⟩) | z
      · exact .inl (.inl (h2k _ _ z (ne_of z hp (by intro q; cases q))))
      · exact .inl (.inr ⟨o, h2k _ _ z (ne_of z hp (by intro q; cases q))⟩)
      · exact .inr z
    -- each touches those ahead of it
    refine ⟨_, rfl, p, C, dx, _, _, rfl, h2p, T.cl, T.nC, ff_c t, t, _, rfl, h2t, for_it walk_enumT (fun i σ H3 => ∃ v2 v3 : Option V, σ = [some (.ref p), some (.ref l), v2, v3, none] ∧ Same H2 H3) ⟨none, v, rfl, Same.refl _⟩ (fun i σ H3 _ ⟨_, _, _, e⟩ => Same.tup e h2t) ?_ ?_⟩
    · rintro i x σ H3 H3' hi ⟨v2, v3, rfl, e3⟩ ⟨U, x1, y1, rfl, hU, rfl, hx, hy⟩
      have hx : some (V.int ((i : Nat) : Int)) = some x1 := hx
      have hy : (as.map V.ref)[i]? = some y1 := hy
      obtain rfl : V.int ((i : Nat) : Int) = x1 := Option.some.inj hx
      obtain ⟨a, ha, rfl⟩ : ∃ a, as[i]? = some a ∧ y1 = V.ref a := by
        rw [List.getElem?_map] at hy
        cases e : as[i]? with
        | none => rw [e] at hy; cases hy
        | some a => rw [e] at hy; exact ⟨a, rfl, (Option.some.inj hy).symm⟩
      have hi4 : i < 4 := by rw [← hlm]; exact hi
      have hic : i < cs.length := by rw [g.len]; exact hi4
      have hk := List.getElem?_eq_getElem hic
      have eU : Same H2 (upd H3 U (.tup [V.int ((i : Nat) : Int), V.ref a])) := Same.updD e3 (e3.free hU)
      have hcut : cutV (as.map V.ref) none (some ((i : Nat) : Int)) = (as.map V.ref).take i := cutV_take (by rw [hlm]; omega)
      refine ⟨U, _, rfl, SqT.of upd_same, rfl, _, _, rfl, _, _, rfl, rfl, ?_⟩
      refine ⟨_, rfl, p, C, dx, _, _, rfl, eU _ _ h2p, T.cl, T.nC, ff_c t, _, rfl, _, rfl, t, _, rfl, Same.tup eU h2t, fun z => ?_, fun S hS => ?_⟩
      · have z2 : HT.sIx (as.map V.ref).length (as.map V.ref).length (some ((i : Nat) : Int)) = (as.map V.ref).length := z.2
        rw [HT.sIx_nat, hlm] at z2
        omega
      rw [hcut]
      have eS := Same.updD (o := .tup ((as.map V.ref).take i)) eU (eU.free hS)
      refine ⟨S, rfl, ⟨_, SqT.of upd_same⟩, fun D2 hD2 => ?_⟩
      have wt := walk_tup (K := K) (a := S) (xs := (as.map V.ref).take i)
      have hlt : ((as.map V.ref).take i).length = i := by rw [List.length_take, hlm]; omega
      rw [hlt] at wt
      refine lc_acc wt hD2 (fun j acc _ => acc = (List.replicate j true).map V.bl) rfl (fun H5 e5 => Same.tup e5 (SqT.of upd_same)) ?_ ?_
      · rintro j x acc H5 H5' hj ha5 e5 eD5 r ⟨rfl, hx5⟩
        obtain ⟨b, hb, rfl⟩ : ∃ b, as[j]? = some b ∧ x = V.ref b := by
          rw [List.getElem?_take_of_lt hj, List.getElem?_map] at hx5
          cases e : as[j]? with
          | none => rw [e] at hx5; cases hx5
          | some b => rw [e] at hx5; exact ⟨b, rfl, (Option.some.inj hx5).symm⟩
        have hjc : j < cs.length := by omega
        have hkj := List.getElem?_eq_getElem hjc
        refine ⟨rfl, _, rfl, _, rfl, a, b, _, _, rfl, (h2C.cirA g.at_ ha hk).mono (eS.trans e5), (h2C.cirA g.at_ hb hkj).mono (eS.trans e5), ?_⟩
        rw [(g.two i j _ _ hk hkj hj).tch]
        refine Nxt.mk hD2 (Nat.lt_of_lt_of_le hi4 (by decide)) hj ha5 e5 eD5 ?_
        rw [List.replicate_succ', List.map_append, r]
        rfl
      · rintro acc H5 hl5 e5 eD5 r
        subst r
        refine ⟨D2, _, rfl, SqL.of eD5, _, rfl, ?_⟩
        rw [all_true]
        exact iteF ⟨_, _, rfl, eS.trans e5⟩
    · rintro σ H3 ⟨v2, v3, rfl, e3⟩
      exact q H3 (fun b o hb hne => e3 _ _ (h2k b o hb hne)) ⟨dx, t, e3 _ _ h2p, Same.tup e3 h2t⟩
end
end FtW

namespace FtW
open PySem PySem.Spec PyProof.Rows L2 FtR Ft
section
variable {P : Program} {w : World} {K : PySem.W.Frag} {mg : Str → Option Value} {base : Heap}
/-! ### the numbers of a cell -/
def spRow : Sp := fun vs H Q _ => ∃ (c : Int) (m : Nat), vs = [.int c, .int (m : Nat)] ∧ m ≤ 100 ∧ ∀ (H' : Hp) (r : Addr) (ns : List Int), Same H H' → H r = none → H' r = some (.lst (ns.map V.int)) → ns.length = m → Q (.ref r) H'
theorem scRow : FnScope ["_law_cell", "_law_many", "_law_row_here", "_law_rest", "_law_mixed", "_law_k"] ["_law_cell", "_law_many"] (defScope sRow) := ⟨rfl, rfl, rfl, by decide +kernel, rfl, by decide +kernel, by decide +kernel⟩
theorem ok_row {f : Addr} {fd : FuncData} (F : Fun K "_law_row" "_law_row" sRow f fd) (X : Txt mg) : FnOk P w K mg base CX0 1 f fd ["_law_cell", "_law_many"] spRow := by
  refine F.ok scRow (fun vs H Q E h => ?_) (fun cdv A outer s H vs Q E hr h => ?_)
  · obtain ⟨c, m, rfl, _⟩ := h
    rfl
  · obtain ⟨c, m, rfl, hm, q⟩ := h
    have nd := scRow.nd
    refine ⟨_, pss_cons (ps_set (i := 2) nd rfl (.inl rfl) (pe_lst pa_nil))
      (pss_cons (ps_set (i := 3) nd rfl (.inl rfl) (pe_callB call_abs (by rfl) X.abs (by decide +kernel) (pa_cons (pv 0) pa_nil)))
      (pss_cons (ps_set (i := 4) nd rfl (.inl rfl) (pe_op op_mod (pe_callTy call_int1 (by rfl) X.int (by decide +kernel) (pa_cons (pe_op op_add (pe_op op_mul (pv 3) pe_int) pe_int) pa_nil)) pe_int))
      (pss_cons (ps_for PassesOwn.never rfl (pi_range1 (by rfl) X.range (pa_cons (pv 1) pa_nil)) (pg_name (i := 5) nd rfl (.inl rfl))
        (pss_cons (ps_set (i := 4) nd rfl (.inl rfl) (pe_op op_mod (pe_callTy call_int1 (by rfl) X.int (by decide +kernel) (pa_cons (pe_op op_add (pe_op op_mul (pv 4) pe_int) (pe_op op_mul pe_int (pe_op op_add (pv 5) pe_int))) pa_nil)) pe_int))
        (pss_one (ps_if (pt_cmpR op_ge (pe_callB call_abs (by rfl) X.abs (by decide +kernel) (pa_cons (pv 0) pa_nil)) (pe_op op_pow pe_int pe_int) (nomark _))
          (pss_cons (ps_expr (pe_bm PySem.F.plainAttrs_list PySem.F.slot_list_append PySem.F.type_list_append mt_append (pv 2) (pa_cons (pe_op op_mod (pe_callTy call_int1 (by rfl) X.int (by decide +kernel) (pa_cons (pv 3) pa_nil)) pe_int) pa_nil)))
            (pss_one (ps_set (i := 3) nd rfl (.inl rfl) (pe_op op_fdiv (pv 3) pe_int))))
          (pss_one (ps_expr (pe_bm PySem.F.plainAttrs_list PySem.F.slot_list_append PySem.F.type_list_append mt_append (pv 2) (pa_cons (pe_op op_mod (pe_callTy call_int1 (by rfl) X.int (by decide +kernel) (pa_cons (pe_op op_fdiv (pv 4) pe_int) pa_nil)) pe_int) pa_nil))))))))
      (pss_one (ps_ret (pv 2)))))), ?_⟩
    refine ⟨Nat.zero_le _, fun r hr0 => ?_⟩
    refine ⟨_, rfl, _, rfl, ?_⟩
    refine ⟨_, rfl, _, _, rfl, rfl, .inr ⟨by decide, by decide⟩, _, _, rfl, rfl, .inl ⟨_, rfl, _, _, rfl, rfl, (by show (0 : Int) < _; decide), ?_⟩⟩
    refine ⟨_, rfl, ((m : Nat) : Int), rfl, by omega, by omega, for_range (lo := 0) (n := ((m : Nat) : Int).toNat) (fun i σ H' => ∃ (rest mixed : Int) (v : Option V) (ns : List Int), σ = [some (.int c), some (.int (m : Nat)), some (.ref r), some (.int rest), some (.int mixed), v] ∧ Same H H' ∧ H' r = some (.lst (ns.map V.int)) ∧ ns.length = i)
      ⟨_, _, none, [], rfl, Same.new hr0, upd_same, rfl⟩ ?_ ?_⟩
    · rintro i σ H' hi ⟨rest, mixed, v, ns, rfl, e, hL, hl⟩
      have hi' : i < m := by simpa using hi
      have hz : (ns.map V.int).length < sizeLine := by
        rw [List.length_map, hl]
        exact Nat.lt_of_lt_of_le (Nat.lt_of_lt_of_le hi' hm) (by decide)
      have fin : ∀ (z : Int) (rest' mixed' : Int), ∃ (rest mixed : Int) (v : Option V) (ns2 : List Int), [some (V.int c), some (.int (m : Nat)), some (.ref r), some (.int rest'), some (.int mixed'), some (V.int (0 + (i : Nat)))] = [some (V.int c), some (.int (m : Nat)), some (.ref r), some (.int rest), some (.int mixed), v] ∧
          Same H (upd H' r (.lst (ns.map V.int ++ [.int z]))) ∧ (upd H' r (.lst (ns.map V.int ++ [.int z]))) r = some (.lst (ns2.map V.int)) ∧ ns2.length = i + 1 := fun z rest' mixed' =>
        ⟨rest', mixed', _, ns ++ [z], rfl, Same.updD e hr0, by rw [upd_same, List.map_append]; rfl, by rw [List.length_append, hl]; rfl⟩
      refine ⟨_, rfl, _, _, rfl, rfl, .inr ⟨by decide, by decide⟩, _, rfl, _, _, rfl, rfl, _, _, rfl, rfl, .inl ⟨by decide, by decide⟩, _, _, rfl, rfl, .inl ⟨_, rfl, _, _, rfl, rfl, (by show (0 : Int) < _; decide), ?_⟩⟩
      refine ⟨_, rfl, _, rfl, _, _, rfl, rfl, ⟨by decide, by decide, by decide⟩, _, _, rfl, rfl, _, rfl, ite2 (fun _ => ?_) fun _ => ?_⟩
      · refine ⟨_, rfl, .inl ⟨rfl, _, SqL.of hL⟩, _, rfl, .inl ⟨_, rfl, _, _, rfl, rfl, (by show (0 : Int) < _; decide), r, _, _, rfl, rfl, hL, hz, ?_⟩⟩
        refine ⟨_, rfl, _, _, rfl, rfl, ⟨by decide, by decide⟩, ?_⟩
        exact fin _ _ _
      · refine ⟨_, rfl, .inl ⟨rfl, _, SqL.of hL⟩, _, rfl, _, _, rfl, rfl, ⟨by decide, by decide⟩, .inl ⟨_, rfl, _, _, rfl, rfl, (by show (0 : Int) < _; decide), r, _, _, rfl, rfl, hL, hz, ?_⟩⟩
        exact fin _ _ _
    · rintro σ H' ⟨rest, mixed, v, ns, rfl, e, hL, hl⟩
      exact ⟨_, rfl, q H' r ns e hr0 hL (by rw [hl]; simp)⟩
/-! ### the numbers of a script -/
theorem cutV_min {xs : List V} (k : Nat) : cutV xs none (some ((k : Nat) : Int)) = xs.take (min k xs.length) := by
  unfold cutV
  rw [HT.sIx_none, HT.sIx_nat, List.drop_zero, Nat.sub_zero]
def eachI (n : Nat) : Int := (1 : Int) + (30 : Int).fdiv (if ((n : Nat) : Int) > 1 then ((n : Nat) : Int) else 1)
theorem each_ok (n : Nat) : ∃ m : Nat, eachI n = (m : Nat) ∧ m ≤ 31 := by
  have h : ∀ k : Int, 1 ≤ k → 0 ≤ (30 : Int).fdiv k ∧ (30 : Int).fdiv k ≤ 30 := fun k hk => by
    rw [Int.fdiv_eq_ediv_of_nonneg 30 (by omega)]
    exact ⟨Int.ediv_nonneg (a := 30) (by decide) (by omega), Int.ediv_le_self (a := 30) k (by decide)⟩
  obtain ⟨h1, h2⟩ := h (if ((n : Nat) : Int) > 1 then ((n : Nat) : Int) else 1) (by split <;> omega)
  unfold eachI
  generalize (30 : Int).fdiv (if ((n : Nat) : Int) > 1 then ((n : Nat) : Int) else 1) = d at h1 h2 ⊢
  exact ⟨(1 + d).toNat, by omega, by omega⟩
theorem div_ok {n : Nat} (h : n ≤ 63) : CDivN (30 : Int) (if ((n : Nat) : Int) > 1 then ((n : Nat) : Int) else 1) := by
  unfold CDivN
  split <;> omega
theorem int_item {ns : List Int} {i : Nat} {x : V} (h : (ns.map V.int)[i]? = some x) : ∃ z, ns[i]? = some z ∧ x = V.int z := by
  rw [List.getElem?_map] at h
  cases e : ns[i]? with
  | none => rw [e] at h; cases h
  | some z => rw [e] at h; exact ⟨z, rfl, (Option.some.inj h).symm⟩
def spNums (K : PySem.W.Frag) : Sp := fun vs H Q _ => ∃ (a : Addr) (zs : List Int), vs = [.ref a, .int 30] ∧ SqL K H a (zs.map V.int) ∧ zs.length ≤ 63 ∧
  ∀ (H' : Hp) (r : Addr) (ns : List Int), Same H H' → H r = none → H' r = some (.lst (ns.map V.int)) → ns.length = 30 → Q (.ref r) H'
theorem scNums : FnScope ["_law_script", "_law_many", "_law_cells", "_law_each", "_law_numbers_here", "_law_cell", "_law_number"] ["_law_script", "_law_many"] (defScope sNums) := ⟨rfl, rfl, rfl, by decide +kernel, rfl, by decide +kernel, by decide +kernel⟩
theorem ok_nums {f : Addr} {fd : FuncData} (F : Fun K "_law_numbers" "_law_numbers" sNums f fd) (X : Txt mg) (D : Df P w K mg base 1 "_law_row" ["_law_cell", "_law_many"] spRow) : FnOk P w K mg base CX0 2 f fd ["_law_script", "_law_many"] (spNums K) := by
  refine F.ok scNums (fun vs H Q E h => ?_) (fun cdv A outer s H vs Q E hr h => ?_)
  · obtain ⟨a, zs, rfl, _⟩ := h
    rfl
  · obtain ⟨a, zs, rfl, hS, h63, q⟩ := h
    have nd := scNums.nd
    refine ⟨_, pss_cons (ps_set (i := 2) nd rfl (.inl rfl) (pe_slice sl_list (pv 0) po_none (po_some pe_int)))
      (pss_cons (ps_set (i := 3) nd rfl (.inl rfl) (pe_op op_add pe_int (pe_op op_fdivN (pv 1) (pe_callB (call_max2 rfl) (by rfl) X.max (by decide +kernel) (pa_cons pe_int (pa_cons (pe_callB call_len_seq (by rfl) X.len PySem.boot_len (pa_cons (pv 2) pa_nil)) pa_nil))))))
      (pss_cons (ps_set (i := 4) nd rfl (.inl rfl) (pe_lst pa_nil))
      (pss_cons (ps_for PassesOwn.never rfl (pi_list (pv 2)) (pg_name (i := 5) nd rfl (.inl rfl))
        (pss_one (ps_for PassesOwn.never rfl (pi_list (pe_df D hr (pa_cons (pv 5) (pa_cons (pv 3) pa_nil)))) (pg_name (i := 6) nd rfl (.inl rfl))
          (pss_one (ps_expr (pe_bm PySem.F.plainAttrs_list PySem.F.slot_list_append PySem.F.type_list_append mt_append (pv 4) (pa_cons (pv 6) pa_nil)))))))
      (pss_cons (ps_while PassesOwn.never (pt_cmpR op_lt (pe_callB call_len_seq (by rfl) X.len PySem.boot_len (pa_cons (pv 4) pa_nil)) (pv 1) (nomark _))
        (pss_one (ps_expr (pe_bm PySem.F.plainAttrs_list PySem.F.slot_list_append PySem.F.type_list_append mt_append (pv 4) (pa_cons pe_int pa_nil)))))
      (pss_one (ps_ret (pe_slice sl_list (pv 4) po_none (po_some (pv 1))))))))), ?_⟩
    -- the cells
    refine ⟨_, rfl, _, rfl, a, _, rfl, hS, fun cl hcl => ?_⟩
    have ec : cutV (zs.map V.int) none (some 63) = (zs.take (min 63 (zs.map V.int).length)).map V.int := by
      rw [List.map_take]
      exact cutV_min 63
    rw [ec]
    generalize hcs : zs.take (min 63 (zs.map V.int).length) = cs
    have hcl63 : cs.length ≤ 63 := by rw [← hcs, List.length_take]; omega
    have e1 : Same H (upd H cl (.lst (cs.map V.int))) := Same.new hcl
    -- how many each
    obtain ⟨m, em, hm⟩ := each_ok (cs.map V.int).length
    refine ⟨_, rfl, _, rfl, cl, _, rfl, .inl (SqL.of upd_same), _, _, rfl, _, _, rfl, rfl, div_ok (by rw [List.length_map]; exact hcl63), _, _, rfl, rfl, ?_⟩
    refine ⟨Nat.zero_le _, fun ln hln => ?_⟩
    generalize hHc : upd H cl (.lst (cs.map V.int)) = Hc at hln e1 ⊢
    have hcS : Hc cl = some (.lst (cs.map V.int)) := by rw [← hHc]; exact upd_same
    refine ⟨_, rfl, cl, rfl, ⟨_, SqL.of (Same.new hln _ _ hcS)⟩, for_list (K := K) (a := cl) (xs := cs.map V.int) (fun i σ H' => ∃ (v5 v6 : Option V) (ns : List Int), σ = [some (.ref a), some (.int 30), some (.ref cl), some (.int (eachI (cs.map V.int).length)), some (.ref ln), v5, v6] ∧ Same Hc H' ∧ H' ln = some (.lst (ns.map V.int)) ∧ ns.length ≤ 31 * i)
      ⟨none, none, [], rfl, Same.new hln, upd_same, Nat.zero_le _⟩ (fun i σ H' _ ⟨_, _, _, _, e, _⟩ => SqL.of (e _ _ hcS)) ?_ ?_⟩
    · rintro i x σ H1 hi ⟨v5, v6, ns, rfl, e, hL, hl⟩
      have hi63 : i < 63 := by
        have := (List.getElem?_eq_some_iff.mp hi).1
        rw [List.length_map] at this
        omega
      obtain ⟨z, _, rfl⟩ := int_item hi
      refine ⟨_, rfl, _, rfl, z, m, by rw [← em]; rfl, by omega, fun H2 r rs e2 hr2 hr3 hrl => ?_⟩
      have nrl : ln ≠ r := ne_of_none hL hr2
      refine ⟨r, rfl, ⟨_, SqL.of hr3⟩, for_list (K := K) (a := r) (xs := rs.map V.int) (fun j σ H' => ∃ (v6 : Option V) (ns' : List Int), σ = [some (.ref a), some (.int 30), some (.ref cl), some (.int (eachI (cs.map V.int).length)), some (.ref ln), some (.int z), v6] ∧ Same Hc H' ∧ H' ln = some (.lst (ns'.map V.int)) ∧ ns'.length = ns.length + j ∧ H' r = some (.lst (rs.map V.int)))
        ⟨v6, ns, rfl, e.trans e2, e2 _ _ hL, rfl, hr3⟩ (fun j σ H' _ ⟨_, _, _, _, _, _, h⟩ => SqL.of h) ?_ ?_⟩
      · rintro j x σ H3 hj ⟨v6', ns', rfl, e3, hL3, hl3, hr4⟩
        have hjm : j < m := by
          have := (List.getElem?_eq_some_iff.mp hj).1
          rw [List.length_map] at this
          omega
        obtain ⟨y, _, rfl⟩ := int_item hj
        have hz : (ns'.map V.int).length < sizeLine := by
          rw [List.length_map]
          exact Nat.lt_of_lt_of_le (show ns'.length < 2000 by omega) (by decide)
        refine ⟨_, rfl, .inl ⟨rfl, _, SqL.of hL3⟩, _, rfl, ln, _, _, rfl, rfl, hL3, hz, ?_⟩
        refine ⟨_, ns' ++ [y], rfl, Same.updD e3 hln, by rw [upd_same, List.map_append]; rfl, by rw [List.length_append, hl3]; rfl, ?_⟩
        rw [upd_ne nrl.symm]
        exact hr4
      · rintro σ H3 ⟨v6', ns', rfl, e3, hL3, hl3, hr4⟩
        rw [List.length_map] at hl3
        exact ⟨_, _, ns', rfl, e3, hL3, by omega⟩
    · rintro σ H1 ⟨v5, v6, ns, rfl, e, hL, hl⟩
      rw [List.length_map] at hl
      -- filled up
      refine ⟨fun k σ H' => ∃ (v5 v6 : Option V) (ns : List Int), σ = [some (.ref a), some (.int 30), some (.ref cl), some (.int (eachI (cs.map V.int).length)), some (.ref ln), v5, v6] ∧ Same Hc H' ∧ H' ln = some (.lst (ns.map V.int)) ∧ ns.length ≤ 2000 ∧ k = 30 - ns.length,
        ⟨_, v5, v6, ns, rfl, e, hL, by omega, rfl⟩, ?_⟩
      rintro k σ H2 ⟨w5, w6, ms, rfl, e2, hL2, hl2, rfl⟩
      refine ⟨_, rfl, ln, _, rfl, .inl (SqL.of hL2), _, rfl, _, _, rfl, rfl, _, rfl, ite2 (fun c => ?_) fun c => ?_⟩
      · have c1 : (((ms.map V.int).length : Nat) : Int) < 30 := of_decide_eq_true c
        rw [List.length_map] at c1
        refine ⟨fun σ' H' => ∃ m', m' < 30 - ms.length ∧ ∃ (v5 v6 : Option V) (ns : List Int), σ' = [some (.ref a), some (.int 30), some (.ref cl), some (.int (eachI (cs.map V.int).length)), some (.ref ln), v5, v6] ∧ Same Hc H' ∧ H' ln = some (.lst (ns.map V.int)) ∧ ns.length ≤ 2000 ∧ m' = 30 - ns.length, fun σ' H' h => h, ?_⟩
        have hz : (ms.map V.int).length < sizeLine := by
          rw [List.length_map]
          exact Nat.lt_of_lt_of_le (show ms.length < 2000 by omega) (by decide)
        refine ⟨_, rfl, .inl ⟨rfl, _, SqL.of hL2⟩, ln, _, _, rfl, rfl, hL2, hz, ?_⟩
        refine ⟨_, ?_, w5, w6, ms ++ [0], rfl, Same.updD e2 hln, by rw [upd_same, List.map_append]; rfl, by rw [List.length_append]; show ms.length + 1 ≤ 2000; omega, rfl⟩
        rw [List.length_append]
        show 30 - (ms.length + 1) < 30 - ms.length
        omega
      · have c1 : ¬ (((ms.map V.int).length : Nat) : Int) < 30 := fun z => c (decide_eq_true z)
        rw [List.length_map] at c1
        refine ⟨_, rfl, _, rfl, _, rfl, ln, _, rfl, SqL.of hL2, fun r hr2 => ?_⟩
        have ec2 : cutV (ms.map V.int) none (some 30) = (ms.take (min 30 (ms.map V.int).length)).map V.int := by
          rw [List.map_take]
          exact cutV_min 30
        rw [ec2]
        have e3 := (e1.trans e2)
        exact q _ r _ (Same.updD e3 (e3.free hr2)) (e3.free hr2) upd_same (by rw [List.length_take, List.length_map]; omega)
/-! ### the given circles -/
/-- four new circles in a new list -/
def Made4 (K : PySem.W.Frag) (H : Hp) (cs : List Ci) (H' : Hp) (r : Addr) : Prop := Same H H' ∧ H r = none ∧ ∃ as, H' r = some (.lst (as.map V.ref)) ∧ Cirs K H' as cs
theorem made4 {H : Hp} {t1 t2 t3 t4 r : Addr} {k1 k2 k3 k4 : Ci} (h1 : H t1 = none) (h2 : (upd H t1 (.tup (cv k1))) t2 = none) (h3 : (upd (upd H t1 (.tup (cv k1))) t2 (.tup (cv k2))) t3 = none)
    (h4 : (upd (upd (upd H t1 (.tup (cv k1))) t2 (.tup (cv k2))) t3 (.tup (cv k3))) t4 = none) (h5 : (upd (upd (upd (upd H t1 (.tup (cv k1))) t2 (.tup (cv k2))) t3 (.tup (cv k3))) t4 (.tup (cv k4))) r = none) :
    Made4 K H [k1, k2, k3, k4] (upd (upd (upd (upd (upd H t1 (.tup (cv k1))) t2 (.tup (cv k2))) t3 (.tup (cv k3))) t4 (.tup (cv k4))) r (.lst [.ref t1, .ref t2, .ref t3, .ref t4])) r := by
  have s1 := Same.new (o := .tup (cv k1)) h1
  have s2 := Same.new (o := .tup (cv k2)) h2
  have s3 := Same.new (o := .tup (cv k3)) h3
  have s4 := Same.new (o := .tup (cv k4)) h4
  have s5 := Same.new (o := .lst [.ref t1, .ref t2, .ref t3, .ref t4]) h5
  refine ⟨(((s1.trans s2).trans s3).trans s4).trans s5, (((s1.trans s2).trans s3).trans s4).free h5, [t1, t2, t3, t4], upd_same, rfl, fun i a k ha hk => ?_⟩
  match i, ha, hk with
  | 0, ha, hk => cases ha; cases hk; exact SqT.of (s5 _ _ (s4 _ _ (s3 _ _ (s2 _ _ upd_same))))
  | 1, ha, hk => cases ha; cases hk; exact SqT.of (s5 _ _ (s4 _ _ (s3 _ _ upd_same)))
  | 2, ha, hk => cases ha; cases hk; exact SqT.of (s5 _ _ (s4 _ _ upd_same))
  | 3, ha, hk => cases ha; cases hk; exact SqT.of (s5 _ _ upd_same)
  | i + 4, ha, hk => simp at ha
def spGiven (K : PySem.W.Frag) : Sp := fun vs H Q _ => ∃ (z : Int), vs = [.int z] ∧ ∀ (H' : Hp) (r : Addr) (cs : List Ci), G4 1641 cs → Made4 K H cs H' r → Q (.ref r) H'
theorem scGiven : FnScope ["_law_number", "_law_k", "_law_n", "_law_area"] ["_law_number"] (defScope sGiven) := ⟨rfl, rfl, rfl, by decide +kernel, rfl, by decide +kernel, by decide +kernel⟩
theorem pick_n {z : Int} (h4 : ¬ z % 7 = 4) (h5 : ¬ z % 7 = 5) (h6 : ¬ z % 7 = 6) : ∃ (j : Nat) (n : Int), z % 7 = (j : Nat) ∧ ([.int 0, .int 1, .int 2, .int (1 + z / 7 % 40)] : List V)[j]? = some (.int n) ∧ 0 ≤ n ∧ n ≤ 40 := by
  have h : z % 7 = 0 ∨ z % 7 = 1 ∨ z % 7 = 2 ∨ z % 7 = 3 := by omega
  rcases h with h | h | h | h
  · exact ⟨0, 0, h, rfl, by decide, by decide⟩
  · exact ⟨1, 1, h, rfl, by decide, by decide⟩
  · exact ⟨2, 2, h, rfl, by decide, by decide⟩
  · exact ⟨3, _, h, rfl, by omega, by omega⟩
theorem ok_given {f : Addr} {fd : FuncData} (F : Fun K "_law_given" "_law_given" sGiven f fd) (X : Txt mg) : FnOk P w K mg base CX0 1 f fd ["_law_number"] (spGiven K) := by
  refine F.ok scGiven (fun vs H Q E h => ?_) (fun cdv A outer s H vs Q E hr h => ?_)
  · obtain ⟨z, rfl, _⟩ := h
    rfl
  · obtain ⟨z, rfl, q⟩ := h
    have nd := scGiven.nd
    refine ⟨_, pss_cons (ps_set (i := 1) nd rfl (.inl rfl) (pe_op op_mod (pe_callTy call_int1 (by rfl) X.int (by decide +kernel) (pa_cons (pv 0) pa_nil)) pe_int))
      (pss_cons (ps_if (pt_cmpR op_eq (pv 1) pe_int (nomark _)) (pss_one (ps_ret (pe_lst (pa_cons (pe_tup (pa_cons (pe_un un_neg pe_int) (pa_cons pe_int (pa_cons pe_int (pa_cons pe_int pa_nil))))) (pa_cons (pe_tup (pa_cons pe_int (pa_cons pe_int (pa_cons (pe_un un_neg pe_int) (pa_cons pe_int pa_nil)))))
          (pa_cons (pe_tup (pa_cons pe_int (pa_cons pe_int (pa_cons (pe_un un_neg pe_int) (pa_cons pe_int pa_nil))))) (pa_cons (pe_tup (pa_cons pe_int (pa_cons pe_int (pa_cons (pe_un un_neg pe_int) (pa_cons (pe_un un_neg pe_int) pa_nil))))) pa_nil))))))) pss_nil)
      (pss_cons (ps_if (pt_cmpR op_eq (pv 1) pe_int (nomark _)) (pss_one (ps_ret (pe_lst (pa_cons (pe_tup (pa_cons pe_int (pa_cons pe_int (pa_cons pe_int (pa_cons pe_int pa_nil))))) (pa_cons (pe_tup (pa_cons pe_int (pa_cons pe_int (pa_cons pe_int (pa_cons (pe_un un_neg pe_int) pa_nil)))))
          (pa_cons (pe_tup (pa_cons pe_int (pa_cons (pe_un un_neg pe_int) (pa_cons pe_int (pa_cons pe_int pa_nil))))) (pa_cons (pe_tup (pa_cons pe_int (pa_cons pe_int (pa_cons pe_int (pa_cons pe_int pa_nil))))) pa_nil))))))) pss_nil)
      (pss_cons (ps_if (pt_cmpR op_eq (pv 1) pe_int (nomark _)) (pss_one (ps_ret (pe_lst (pa_cons (pe_tup (pa_cons pe_int (pa_cons pe_int (pa_cons pe_int (pa_cons pe_int pa_nil))))) (pa_cons (pe_tup (pa_cons pe_int (pa_cons pe_int (pa_cons pe_int (pa_cons (pe_un un_neg pe_int) pa_nil)))))
          (pa_cons (pe_tup (pa_cons pe_int (pa_cons pe_int (pa_cons pe_int (pa_cons pe_int pa_nil))))) (pa_cons (pe_tup (pa_cons pe_int (pa_cons pe_int (pa_cons pe_int (pa_cons pe_int pa_nil))))) pa_nil))))))) pss_nil)
      (pss_cons (ps_set (i := 2) nd rfl (.inl rfl) (pe_ix ix_list (pe_lst (pa_cons pe_int (pa_cons pe_int (pa_cons pe_int (pa_cons (pe_op op_add pe_int (pe_op op_mod (pe_op op_fdiv (pe_callTy call_int1 (by rfl) X.int (by decide +kernel) (pa_cons (pv 0) pa_nil)) pe_int) pe_int)) pa_nil))))) (pv 1) (fun _ _ => rfl)))
      (pss_cons (ps_set (i := 3) nd rfl (.inl rfl) (pe_op op_mul (pv 2) (pe_op op_add (pv 2) pe_int)))
      (pss_one (ps_ret (pe_lst (pa_cons (pe_tup (pa_cons (pe_op op_sub pe_int (pv 2)) (pa_cons pe_int (pa_cons pe_int (pa_cons pe_int pa_nil))))) (pa_cons (pe_tup (pa_cons (pe_op op_add (pv 2) pe_int) (pa_cons pe_int (pa_cons (pe_un un_neg pe_int) (pa_cons pe_int pa_nil)))))
        (pa_cons (pe_tup (pa_cons (pv 3) (pa_cons pe_int (pa_cons (pe_op op_sub (pe_op op_sub pe_int (pe_op op_mul pe_int (pv 2))) pe_int) (pa_cons pe_int pa_nil)))))
        (pa_cons (pe_tup (pa_cons (pe_op op_add (pv 3) pe_int) (pa_cons pe_int (pa_cons (pe_op op_sub (pe_op op_sub pe_int (pe_op op_mul pe_int (pv 2))) pe_int) (pa_cons pe_int pa_nil))))) pa_nil)))))))))))), ?_⟩
    refine ⟨_, rfl, .inl ⟨_, rfl, _, _, rfl, rfl, (by show (0 : Int) < _; decide), ?_⟩⟩
    have four : 4 ≤ sizeLine := by decide
    refine ⟨_, rfl, rfl, _, rfl, ite2 (fun c => ?_) fun c4 => ?_⟩
    · refine ⟨_, rfl, four, fun t1 h1 => ⟨_, rfl, four, fun t2 h2 => ⟨_, rfl, four, fun t3 h3 => ⟨_, rfl, _, rfl, four, fun t4 h4 => ⟨four, fun r h5 => ?_⟩⟩⟩⟩⟩
      exact q _ r g4 g4_ok (made4 (k1 := ⟨-3, 0, 1, 0⟩) (k2 := ⟨5, 0, -1, 0⟩) (k3 := ⟨8, 2, -4, 1⟩) (k4 := ⟨8, 2, -4, -1⟩) h1 h2 h3 h4 h5)
    refine ⟨_, rfl, rfl, _, rfl, ite2 (fun c => ?_) fun c5 => ?_⟩
    · refine ⟨four, fun t1 h1 => ⟨_, rfl, four, fun t2 h2 => ⟨_, rfl, four, fun t3 h3 => ⟨four, fun t4 h4 => ⟨four, fun r h5 => ?_⟩⟩⟩⟩⟩
      exact q _ r g5 g5_ok (made4 (k1 := ⟨0, 2, 0, 1⟩) (k2 := ⟨0, 2, 0, -1⟩) (k3 := ⟨1, -1, 0, 0⟩) (k4 := ⟨1, 3, 2, 0⟩) h1 h2 h3 h4 h5)
    refine ⟨_, rfl, rfl, _, rfl, ite2 (fun c => ?_) fun c6 => ?_⟩
    · refine ⟨four, fun t1 h1 => ⟨_, rfl, four, fun t2 h2 => ⟨four, fun t3 h3 => ⟨four, fun t4 h4 => ⟨four, fun r h5 => ?_⟩⟩⟩⟩⟩
      exact q _ r g6 g6_ok (made4 (k1 := ⟨0, 1, 0, 1⟩) (k2 := ⟨0, 1, 0, -1⟩) (k3 := ⟨2, 0, 1, 0⟩) (k4 := ⟨2, 4, 3, 0⟩) h1 h2 h3 h4 h5)
    have d4 : ¬ z % 7 = 4 := fun e => c4 (decide_eq_true (show V.int (z % 7) = V.int 4 by rw [e]))
    have d5 : ¬ z % 7 = 5 := fun e => c5 (decide_eq_true (show V.int (z % 7) = V.int 5 by rw [e]))
    have d6 : ¬ z % 7 = 6 := fun e => c6 (decide_eq_true (show V.int (z % 7) = V.int 6 by rw [e]))
    obtain ⟨j, n, ej, hj, n0, n1⟩ := pick_n d4 d5 d6
    refine ⟨_, rfl, .inl ⟨_, rfl, _, _, rfl, rfl, ⟨by decide, by decide⟩, _, _, rfl, rfl, (by show (0 : Int) < _; decide), _, _, rfl, rfl, four, fun l0 hl0 => ?_⟩⟩
    refine ⟨_, rfl, l0, _, _, .int n, rfl, rfl, SqL.of upd_same, at_of (j := j) ej hj, ?_⟩
    refine ⟨_, rfl, _, rfl, _, _, rfl, rfl, _, _, rfl, rfl, .inl ⟨by omega, by omega⟩, ?_⟩
    refine ⟨_, rfl, _, _, rfl, rfl, four, fun t1 h1 => ⟨_, rfl, _, _, rfl, rfl, _, rfl, four, fun t2 h2 => ⟨_, rfl, _, rfl, _, _, rfl, rfl, .inl ⟨by decide, by decide⟩, _, _, rfl, rfl, _, _, rfl, rfl, four, fun t3 h3 =>
      ⟨_, rfl, _, _, rfl, rfl, _, rfl, _, _, rfl, rfl, .inl ⟨by decide, by decide⟩, _, _, rfl, rfl, _, _, rfl, rfl, four, fun t4 h4 => ⟨four, fun r h5 => ?_⟩⟩⟩⟩⟩
    have m4 := made4 (K := K) (k1 := ⟨0 - n, 0, 1, 0⟩) (k2 := ⟨n + 1, 0, -1, 0⟩) (k3 := ⟨n * (n + 1), 4, 0 - 2 * n - 1, 0⟩) (k4 := ⟨n * (n + 1) + 1, 4, 0 - 2 * n - 1, 2⟩) h1 h2 h3 h4 h5
    have e0 := Same.new (o := .lst [.int 0, .int 1, .int 2, .int (1 + z / 7 % 40)]) hl0
    exact q _ r (fam n) (fam_ok n0 n1) ⟨e0.trans m4.1, e0.free m4.2.1, m4.2.2⟩
end
end FtW

namespace FtW
open PySem PySem.Spec PyProof.Rows L2 FtR Ft
section
variable {P : Program} {w : World} {K : PySem.W.Frag} {mg : Str → Option Value} {base : Heap}
/-! ### moved -/
def spMoved (K : PySem.W.Frag) : Sp := fun vs H Q _ => ∃ (a : Addr) (k : Ci) (s t : Int), vs = [.ref a, .int s, .int t] ∧ SqT K H a (cv k) ∧ Sm 1641 k ∧ (-1009 ≤ s ∧ s ≤ 1009) ∧ (-1009 ≤ t ∧ t ≤ 1009) ∧
  ∀ (H' : Hp) (r : Addr), Same H H' → H r = none → H' r = some (.tup (cv (mv k s t))) → Q (.ref r) H'
theorem scMoved : FnScope ["_law_circle", "_law_s", "_law_t", "_law_b", "_law_c", "_law_x", "_law_y"] ["_law_circle", "_law_s", "_law_t"] (defScope sMoved) := ⟨rfl, rfl, rfl, by decide +kernel, rfl, by decide +kernel, by decide +kernel⟩
theorem ok_moved {f : Addr} {fd : FuncData} (F : Fun K "_law_moved" "_law_moved" sMoved f fd) : FnOk P w K mg base CX0 1 f fd ["_law_circle", "_law_s", "_law_t"] (spMoved K) := by
  refine F.ok scMoved (fun vs H Q E h => ?_) (fun cdv A outer z H vs Q E hr h => ?_)
  · obtain ⟨a, k, s, t, rfl, _⟩ := h
    rfl
  · obtain ⟨a, k, s, t, rfl, hq, hs, ⟨s0, s1⟩, ⟨t0, t1⟩, q⟩ := h
    have nd := scMoved.nd
    refine ⟨_, pss_cons (ps_asg (pv 0) (pg_tup rfl (pgs_cons (pg_name (i := 3) nd rfl (.inl rfl)) (pgs_cons (pg_name (i := 4) nd rfl (.inl rfl)) (pgs_cons (pg_name (i := 5) nd rfl (.inl rfl)) (pgs_cons (pg_name (i := 6) nd rfl (.inl rfl)) pgs_nil))))))
      (pss_one (ps_ret (pe_tup (pa_cons (pv 3)
        (pa_cons (pe_op op_add (pe_op op_add (pv 4) (pe_op op_mul pe_int (pe_op op_add (pe_op op_mul (pv 5) (pv 1)) (pe_op op_mul (pv 6) (pv 2))))) (pe_op op_mul (pv 3) (pe_op op_add (pe_op op_mul (pv 1) (pv 1)) (pe_op op_mul (pv 2) (pv 2)))))
        (pa_cons (pe_op op_add (pv 5) (pe_op op_mul (pv 3) (pv 1))) (pa_cons (pe_op op_add (pv 6) (pe_op op_mul (pv 3) (pv 2))) pa_nil))))))), ?_⟩
    refine ⟨_, rfl, a, _, rfl, hq, rfl, _, _, rfl, _, _, rfl, _, _, rfl, _, _, rfl, rfl, ?_⟩
    obtain ⟨h1, h2, h3, h4, h5, h6, h7, h8⟩ := hs
    have bs : -(2 ^ 64) < s ∧ s < 2 ^ 64 := ⟨by omega, by omega⟩
    have bt : -(2 ^ 64) < t ∧ t < 2 ^ 64 := ⟨by omega, by omega⟩
    have bb : -(2 ^ 64) < k.b ∧ k.b < 2 ^ 64 := ⟨by omega, by omega⟩
    refine ⟨_, rfl, ?_⟩
    refine ⟨_, rfl, _, rfl, _, rfl, _, _, rfl, rfl, .inr bs, _, rfl, _, rfl, _, _, rfl, rfl, .inr bt, _, _, rfl, rfl, _, _, rfl, rfl, .inl ⟨by decide, by decide⟩, _, _, rfl, rfl, ?_⟩
    refine ⟨_, rfl, _, rfl, _, rfl, _, _, rfl, rfl, .inl bs, _, rfl, _, rfl, _, _, rfl, rfl, .inl bt, _, _, rfl, rfl, _, _, rfl, rfl, .inl bb, _, _, rfl, rfl, ?_⟩
    refine ⟨_, rfl, _, rfl, _, rfl, _, _, rfl, rfl, .inl bb, _, _, rfl, rfl, ?_⟩
    refine ⟨_, rfl, _, rfl, _, rfl, _, _, rfl, rfl, .inl bb, _, _, rfl, rfl, by show 4 ≤ sizeLine; decide, fun r hr0 => ?_⟩
    exact q _ r (Same.new hr0) hr0 upd_same
/-! ### laid -/
def mo (n : Int) : Int := if n % 3 = 0 then 0 else if n % 3 = 1 then 9 else 1009
theorem mo_at (n : Int) : ∃ j : Nat, n % 3 = (j : Nat) ∧ ([.int 0, .int 9, .int 1009] : List V)[j]? = some (.int (mo n)) := by
  unfold mo
  have h : n % 3 = 0 ∨ n % 3 = 1 ∨ n % 3 = 2 := by omega
  rcases h with h | h | h
  · exact ⟨0, h, by rw [if_pos h]; rfl⟩
  · exact ⟨1, h, by rw [if_neg (by omega), if_pos h]; rfl⟩
  · exact ⟨2, h, by rw [if_neg (by omega), if_neg (by omega)]; rfl⟩
theorem mo_le (n : Int) : 0 ≤ mo n ∧ mo n ≤ 1009 := by
  unfold mo
  split
  · decide
  · split <;> decide
def stp (m n : Int) : Int := n % (2 * mo m + 1) - mo m
theorem stp_le (m n : Int) : -1009 ≤ stp m n ∧ stp m n ≤ 1009 := by
  obtain ⟨h0, h1⟩ := mo_le m
  unfold stp
  have a := Int.emod_nonneg n (b := 2 * mo m + 1) (by omega)
  have b := Int.emod_lt_of_pos n (b := 2 * mo m + 1) (by omega)
  omega
/-- how the numbers lay a circle -/
def layN (ns : List Int) (k : Ci) : Ci := lay ((ns.getD 1 0) % 4).toNat (decide ((ns.getD 1 0) / 4 % 2 = 1)) (stp (ns.getD 2 0) (ns.getD 3 0)) (stp (ns.getD 2 0) (ns.getD 4 0)) k
theorem ns_at {ns : List Int} {j : Nat} (h : j < ns.length) : (ns.map V.int)[j]? = some (.int (ns.getD j 0)) := by
  rw [List.getElem?_map, List.getElem?_eq_getElem h, List.getD_eq_getElem?_getD, List.getElem?_eq_getElem h]
  rfl
def spLaid (K : PySem.W.Frag) : Sp := fun vs H Q _ => ∃ (ln a : Addr) (ns : List Int) (k : Ci), vs = [.ref ln, .int 1, .ref a] ∧ SqL K H ln (ns.map V.int) ∧ ns.length = 30 ∧ SqT K H a (cv k) ∧ Sm 1641 k ∧
  ∀ (H' : Hp) (r : Addr), Same H H' → H r = none → H' r = some (.tup (cv (layN ns k))) → Q (.ref r) H'
abbrev nLaid : List Str := ["_law_numbers_here", "_law_at", "_law_circle", "_law_b", "_law_c", "_law_x", "_law_y", "_law_k", "_law_most", "_law_s", "_law_t"]
theorem scLaid : FnScope nLaid ["_law_numbers_here", "_law_at", "_law_circle"] (defScope sLaid) := ⟨rfl, rfl, rfl, by decide +kernel, rfl, by decide +kernel, by decide +kernel⟩
theorem ok_laid {f : Addr} {fd : FuncData} (F : Fun K "_law_laid" "_law_laid" sLaid f fd) (X : Txt mg) (D : Df P w K mg base 1 "_law_moved" ["_law_circle", "_law_s", "_law_t"] (spMoved K)) :
    FnOk P w K mg base CX0 2 f fd ["_law_numbers_here", "_law_at", "_law_circle"] (spLaid K) := by
  refine F.ok scLaid (fun vs H Q E h => ?_) (fun cdv A outer z H vs Q E hr h => ?_)
  · obtain ⟨ln, a, ns, k, rfl, _⟩ := h
    rfl
  · obtain ⟨ln, a, ns, k, rfl, hL, hn, hq, hs, q⟩ := h
    have nd := scLaid.nd
    refine ⟨_, pss_cons (ps_asg (pv 2) (pg_tup rfl (pgs_cons (pg_name (i := 3) nd rfl (.inl rfl)) (pgs_cons (pg_name (i := 4) nd rfl (.inl rfl)) (pgs_cons (pg_name (i := 5) nd rfl (.inl rfl)) (pgs_cons (pg_name (i := 6) nd rfl (.inl rfl)) pgs_nil))))))
      (pss_cons (ps_for PassesOwn.never rfl (pi_range1 (by rfl) X.range (pa_cons (pe_op op_mod (pe_callTy call_int1 (by rfl) X.int (by decide +kernel) (pa_cons (pe_ix ix_list (pv 0) (pv 1) (fun _ _ => rfl)) pa_nil)) pe_int) pa_nil)) (pg_name (i := 7) nd rfl (.inl rfl))
        (pss_one (ps_par (i := 5) (j := 6) (by rfl) nd rfl rfl (by decide) rfl rfl (pa_cons (pe_op op_sub pe_int (pv 6)) (pa_cons (pv 5) pa_nil)) (by rfl))))
      (C8.pss_cut (ps_if (pt_cmpR op_eq (pe_op op_mod (pe_op op_fdiv (pe_callTy call_int1 (by rfl) X.int (by decide +kernel) (pa_cons (pe_ix ix_list (pv 0) (pv 1) (fun _ _ => rfl)) pa_nil)) pe_int) pe_int) pe_int (nomark _)) (pss_one (ps_set (i := 5) nd rfl (.inl rfl) (pe_op op_sub pe_int (pv 5)))) pss_nil)
      (pss_cons (ps_set (i := 8) nd rfl (.inl rfl) (pe_ix ix_list (pe_lst (pa_cons pe_int (pa_cons pe_int (pa_cons pe_int pa_nil)))) (pe_op op_mod (pe_callTy call_int1 (by rfl) X.int (by decide +kernel) (pa_cons (pe_ix ix_list (pv 0) (pe_op op_add (pv 1) pe_int) (fun _ _ => rfl)) pa_nil)) pe_int) (fun _ _ => rfl)))
      (pss_cons (ps_set (i := 9) nd rfl (.inl rfl) (pe_op op_sub (pe_op op_mod (pe_callTy call_int1 (by rfl) X.int (by decide +kernel) (pa_cons (pe_ix ix_list (pv 0) (pe_op op_add (pv 1) pe_int) (fun _ _ => rfl)) pa_nil)) (pe_op op_add (pe_op op_mul pe_int (pv 8)) pe_int)) (pv 8)))
      (pss_cons (ps_set (i := 10) nd rfl (.inl rfl) (pe_op op_sub (pe_op op_mod (pe_callTy call_int1 (by rfl) X.int (by decide +kernel) (pa_cons (pe_ix ix_list (pv 0) (pe_op op_add (pv 1) pe_int) (fun _ _ => rfl)) pa_nil)) (pe_op op_add (pe_op op_mul pe_int (pv 8)) pe_int)) (pv 8)))
      (pss_one (ps_ret (pe_df D hr (pa_cons (pe_tup (pa_cons (pv 3) (pa_cons (pv 4) (pa_cons (pv 5) (pa_cons (pv 6) pa_nil))))) (pa_cons (pv 9) (pa_cons (pv 10) pa_nil))))))))))), ?_⟩
    refine ⟨_, rfl, a, _, rfl, hq, rfl, _, _, rfl, _, _, rfl, _, _, rfl, _, _, rfl, rfl, ?_⟩
    have at_ : ∀ (j : Nat), j < 30 → (ns.map V.int)[j]? = some (.int (ns.getD j 0)) := fun j hj => ns_at (by rw [hn]; exact hj)
    -- turned
    refine ⟨_, rfl, _, rfl, ln, _, _, _, rfl, rfl, hL, at_of (j := 1) rfl (at_ 1 (by decide)), .inl ⟨_, rfl, _, _, rfl, rfl, (by show (0 : Int) < _; decide), ?_⟩⟩
    have n1 := Int.emod_nonneg (ns.getD 1 0) (b := 4) (by decide)
    have n2 := Int.emod_lt_of_pos (ns.getD 1 0) (b := 4) (by decide)
    refine ⟨_, rfl, by omega, by omega, for_range (lo := 0) (n := (ns.getD 1 0 % 4).toNat) (fun i σ H' => ∃ v : Option V, σ = [some (.ref ln), some (.int 1), some (.ref a), some (.int k.b), some (.int k.c), some (.int (rot i k).x), some (.int (rot i k).y), v, none, none, none] ∧ H' = H) ⟨none, rfl, rfl⟩ ?_ ?_⟩
    · rintro i σ H' hi ⟨v, rfl, rfl⟩
      exact ⟨_, rfl, _, _, rfl, rfl, _, rfl, _, _, rfl, _, rfl, rfl⟩
    rintro σ H' ⟨v, rfl, rfl⟩
    generalize hm : (ns.getD 1 0 % 4).toNat = m
    -- mirrored
    refine ⟨fun σ' H2 => ∃ x, mir (decide (ns.getD 1 0 / 4 % 2 = 1)) (rot m k) = ⟨k.b, k.c, x, (rot m k).y⟩ ∧ σ' = [some (.ref ln), some (.int 1), some (.ref a), some (.int k.b), some (.int k.c), some (.int x), some (.int (rot m k).y), v, none, none, none] ∧ H2 = H', ?_, ?_⟩
    · refine ⟨_, rfl, _, rfl, ln, _, _, _, rfl, rfl, hL, at_of (j := 1) rfl (at_ 1 (by decide)), .inl ⟨_, rfl, _, _, rfl, rfl, ⟨by decide, by decide⟩, _, _, rfl, rfl, (by show (0 : Int) < _; decide), rfl, _, rfl, ite2 (fun c => ?_) fun c => ?_⟩⟩
      · have e : ns.getD 1 0 / 4 % 2 = 1 := V.int.inj (of_decide_eq_true c)
        refine ⟨_, rfl, _, _, rfl, rfl, _, ?_, rfl, rfl⟩
        rw [decide_eq_true e]
        show (⟨(rot m k).b, (rot m k).c, 0 - (rot m k).x, (rot m k).y⟩ : Ci) = _
        rw [rot_b, rot_c]
      · have e : ¬ ns.getD 1 0 / 4 % 2 = 1 := fun z => c (decide_eq_true (show V.int (ns.getD 1 0 / 4 % 2) = V.int 1 by rw [z]))
        refine ⟨(rot m k).x, ?_, rfl, rfl⟩
        rw [decide_eq_false e]
        show rot m k = _
        have e1 := rot_b m k
        have e2 := rot_c m k
        generalize rot m k = c at e1 e2
        cases c
        subst e1 e2
        rfl
    rintro σ' H2 ⟨x, hx, rfl, rfl⟩
    -- moved
    obtain ⟨j, ej, hj⟩ := mo_at (ns.getD 2 0)
    obtain ⟨m0, m1⟩ := mo_le (ns.getD 2 0)
    refine ⟨by show 3 ≤ sizeLine; decide, fun l0 hl0 => ?_⟩
    have e0 := Same.new (o := .lst [V.int 0, V.int 9, V.int 1009]) hl0
    have hL0 := e0.seq hL
    refine ⟨_, rfl, _, rfl, _, _, rfl, rfl, ln, _, _, _, rfl, rfl, hL0, at_of (j := 2) rfl (at_ 2 (by decide)), .inl ⟨_, rfl, _, _, rfl, rfl, (by show (0 : Int) < _; decide), l0, _, _, _, rfl, rfl, SqL.of upd_same, at_of (j := j) ej hj, ?_⟩⟩
    refine ⟨_, rfl, _, rfl, _, _, rfl, rfl, ln, _, _, _, rfl, rfl, hL0, at_of (j := 3) rfl (at_ 3 (by decide)), .inl ⟨_, rfl, _, rfl, _, _, rfl, rfl, .inl ⟨by decide, by decide⟩, _, _, rfl, rfl, _, _, rfl, rfl, (by show (0 : Int) < 2 * mo (ns.getD 2 0) + 1; omega), _, rfl, _, _, rfl, rfl, ?_⟩⟩
    refine ⟨_, rfl, _, rfl, _, _, rfl, rfl, ln, _, _, _, rfl, rfl, hL0, at_of (j := 4) rfl (at_ 4 (by decide)), .inl ⟨_, rfl, _, rfl, _, _, rfl, rfl, .inl ⟨by decide, by decide⟩, _, _, rfl, rfl, _, _, rfl, rfl, (by show (0 : Int) < 2 * mo (ns.getD 2 0) + 1; omega), _, rfl, _, _, rfl, rfl, ?_⟩⟩
    refine ⟨_, rfl, _, rfl, _, rfl, _, rfl, by show 4 ≤ sizeLine; decide, fun t ht => ⟨_, rfl, _, rfl, t, ⟨k.b, k.c, x, (rot m k).y⟩, stp (ns.getD 2 0) (ns.getD 3 0), stp (ns.getD 2 0) (ns.getD 4 0), rfl, SqT.of upd_same, ?_, stp_le _ _, stp_le _ _, fun H1 r e1 hr1 hr2 => ?_⟩⟩
    · rw [← hx]
      exact mir_sm _ (rot_sm m hs)
    · have e2 := e0.trans ((Same.new ht).trans e1)
      refine q H1 r e2 ((e0.trans (Same.new ht)).free hr1) ?_
      rw [hr2]
      unfold layN lay
      rw [hm, hx]
end
end FtW

namespace FtW
open PySem PySem.Spec PyProof.Rows L2 FtR Ft
section
variable {P : Program} {w : World} {K : PySem.W.Frag} {mg : Str → Option Value} {base : Heap}
/-! ### the other one of a circle -/
def spOth (K : PySem.W.Frag) : Sp := fun vs H Q _ => ∃ (l : Addr) (i : Nat) (as : List Addr) (cs : List Ci) (k : Ci), vs = [.ref l, .int (i : Nat)] ∧ SqL K H l (as.map V.ref) ∧ Cirs K H as cs ∧ cs[i]? = some k ∧ cs.length = 4 ∧
  ∀ (H' : Hp) (r : Addr), Same H H' → H r = none → H' r = some (.tup (cv (oth cs k))) → Q (.ref r) H'
abbrev nOth : List Str := ["_law_circles", "_law_k", "_law_circle", "_law_part"]
theorem scOth : FnScope nOth ["_law_circles", "_law_k"] (defScope sOth) := ⟨rfl, rfl, rfl, by decide +kernel, rfl, by decide +kernel, by decide +kernel⟩
theorem ok_oth {f : Addr} {fd : FuncData} (F : Fun K "_law_other" "_law_other" sOth f fd) (X : Txt mg) : FnOk P w K mg base CX0 1 f fd ["_law_circles", "_law_k"] (spOth K) := by
  refine F.ok scOth (fun vs H Q E h => ?_) (fun cdv A outer s H vs Q E hr h => ?_)
  · obtain ⟨l, i, as, cs, k, rfl, _⟩ := h
    rfl
  · obtain ⟨l, i, as, cs, k, rfl, hL, hC, hk, hl, q⟩ := h
    have nd := scOth.nd
    have hlA : as.length = 4 := by rw [hC.1]; exact hl
    have hi : i < 4 := by rw [← hl]; exact (List.getElem?_eq_some_iff.mp hk).1
    obtain ⟨a, ha⟩ : ∃ a, as[i]? = some a := ⟨as[i]'(by omega), List.getElem?_eq_getElem (by omega)⟩
    refine ⟨_, pss_one (ps_ret (pe_callTy call_tuple_of (by rfl) X.tuple (by decide +kernel) (pa_cons (pe_lc (own := [("_law_part", 3)]) (g := gName 3) (tt := tYes)
      (te := tOp (rI0 fun i j => .int (i - j)) (tOp (rI CMul fun i j => .int (i * j)) (tC (.int 2)) (tCB (rSum K) (tCons (tLc (iList K (tVar 0)) (gName 2) tYes (tOp (rIxT K) (tVar 2) (tVar 3)) [2]) tNil))) (tOp (rI CMul fun i j => .int (i * j)) (tC (.int 3)) (tOp (rIxT K) (tOp (rIxL K) (tVar 0) (tVar 1)) (tVar 3))))
      rfl nd (pi_range1 (by rfl) X.range (pa_cons pe_int pa_nil)) (blkOk_by (N := nOth) (sc := defScope sOth) (by decide +kernel)) (fun _ _ _ _ _ => pg_name (i := 3) nd rfl (.inr rfl)) (fun _ _ _ _ _ => pts_nil)
      (fun _ _ _ _ _ => pe_op op_sub (pe_op op_mul pe_int (pe_callB (cr_sum rfl) (by rfl) X.sum (by decide +kernel) (pa_cons (pe_lc (own := [("_law_circle", 2)]) (g := gName 2) (tt := tYes) (te := tOp (rIxT K) (tVar 2) (tVar 3)) rfl nd (pi_list (pv 0)) (blkOk_by (N := nOth) (by kernel_rfl))
          (fun _ _ _ _ _ => pg_name (i := 2) nd rfl (.inl rfl)) (fun _ _ _ _ _ => pts_nil) (fun _ _ _ _ _ => pe_ix ix_tup (pv 2) (pv 3) (fun _ _ => rfl))) pa_nil)))
        (pe_op op_mul pe_int (pe_ix ix_tup (pe_ix ix_list (pv 0) (pv 1) (fun _ _ => rfl)) (pv 3) (fun _ _ => rfl))))) pa_nil))), ?_⟩
    refine ⟨4, rfl, by decide, by decide, fun D hD => lc_acc walk_range hD (fun j acc _ => acc = (List.range j).map fun m => V.int (Ci.p (oth cs k) m)) rfl (fun _ _ => trivial) ?_ ?_⟩
    · rintro j x acc H1 H1' hj ha1 e eD r ⟨rfl, rfl⟩
      have hj4 : j < 4 := hj
      refine ⟨rfl, _, rfl, l, rfl, ⟨_, e.seq hL⟩, fun D2 hD2 => ?_⟩
      have wt := walk_list (K := K) (a := l) (xs := as.map V.ref)
      rw [List.length_map] at wt
      refine lc_parts wt (hC.mono e) hj4 (z := 0 + ((j : Nat) : Int)) rfl (Int.zero_add _) (by decide) (show 2 < 4 by decide) (by rw [hlA]; decide) (fun H2 e2 => (e.trans e2).seq hL) hD2 fun H3 e3 d3 => ?_
      refine ⟨D2, _, rfl, SqL.of d3, _, _, rfl, rfl, .inl ⟨by decide, by decide⟩, ?_⟩
      refine ⟨_, rfl, _, rfl, l, _, _, _, rfl, rfl, (e.trans e3).seq hL, at_of (j := i) (v := V.ref a) rfl (by rw [List.getElem?_map, ha]; rfl), _, rfl, a, _, _, _, rfl, rfl, Same.tup (e.trans e3) (hC.2 i a k ha hk), at_of (j := j) (Int.zero_add _) (cv_at k hj4), _, _, rfl, rfl, .inl ⟨by decide, by decide⟩, _, _, rfl, rfl, ?_⟩
      refine Nxt.mk hD (show 4 < sizeLine by decide) hj4 ha1 (e.trans e3) (e3 _ _ eD) ?_
      rw [r, List.range_succ, List.map_append]
      show _ ++ [V.int (2 * (cs.map fun c => Ci.p c j).sum - 3 * Ci.p k j)] = _ ++ [V.int (Ci.p (oth cs k) j)]
      rw [oth_p]
    · rintro acc H1 hal e eD r
      subst r
      exact ⟨D, _, rfl, .inl ⟨SqL.of eD, fun r hr0 => q _ r (Same.updD e (e.free hr0)) (e.free hr0) upd_same⟩⟩
/-! ### exchanged -/
def mx : Nat → Int
  | 0 => 4294967296
  | n + 1 => 7 * mx n
theorem mx_nn : ∀ n, 0 ≤ mx n
  | 0 => by decide
  | n + 1 => by
    have := mx_nn n
    unfold mx
    omega
theorem mx_le : ∀ n, n ≤ 6 → mx n ≤ 505298607407104
  | 0, _ => by decide
  | 1, _ => by decide
  | 2, _ => by decide
  | 3, _ => by decide
  | 4, _ => by decide
  | 5, _ => by decide
  | 6, _ => by decide
  | n + 7, h => absurd h (by omega)
theorem Cirs.set {H : Hp} {as : List Addr} {cs : List Ci} (h : Cirs K H as cs) {i : Nat} {a : Addr} {k : Ci} (ha : SqT K H a (cv k)) : Cirs K H (as.set i a) (cs.set i k) := by
  refine ⟨by rw [List.length_set, List.length_set]; exact h.1, fun j b l hb hl => ?_⟩
  by_cases e : i = j
  · subst e
    have hi : i < as.length := by
      have := (List.getElem?_eq_some_iff.mp hb).1
      rw [List.length_set] at this
      exact this
    rw [List.getElem?_set_self hi] at hb
    rw [List.getElem?_set_self (by rw [← h.1]; exact hi)] at hl
    cases hb
    cases hl
    exact ha
  · rw [List.getElem?_set_ne e] at hb hl
    exact h.2 j b l hb hl
def spFall (K : PySem.W.Frag) : Sp := fun vs H Q _ => ∃ (l wl : Addr) (as : List Addr) (cs : List Ci) (ws : List Int), vs = [.ref l, .ref wl] ∧ SqL K H l (as.map V.ref) ∧ Cirs K H as cs ∧ G4 4294967296 cs ∧ SqL K H wl (ws.map V.int) ∧ ws.length ≤ 6 ∧ (∀ z, z ∈ ws → 0 ≤ z ∧ z < 4) ∧
  ∀ (H' : Hp) (r : Addr) (cs' : List Ci), G4 505298607407104 cs' → Made4 K H cs' H' r → Q (.ref r) H'
theorem scFall : FnScope ["_law_circles", "_law_word", "_law_found", "_law_k"] ["_law_circles", "_law_word"] (defScope sFall) := ⟨rfl, rfl, rfl, by decide +kernel, rfl, by decide +kernel, by decide +kernel⟩
theorem ok_fall {f : Addr} {fd : FuncData} (F : Fun K "_law_fallen" "_law_fallen" sFall f fd) (X : Txt mg) (D : Df P w K mg base 1 "_law_other" ["_law_circles", "_law_k"] (spOth K)) : FnOk P w K mg base CX0 2 f fd ["_law_circles", "_law_word"] (spFall K) := by
  refine F.ok scFall (fun vs H Q E h => ?_) (fun cdv A outer s H vs Q E hr h => ?_)
  · obtain ⟨l, wl, as, cs, ws, rfl, _⟩ := h
    rfl
  · obtain ⟨l, wl, as, cs, ws, rfl, hL, hC, g, hW, hw6, hwb, q⟩ := h
    have nd := scFall.nd
    refine ⟨_, pss_cons (ps_set (i := 2) nd rfl (.inl rfl) (pe_callTy call_list_of (by rfl) X.list (by decide +kernel) (pa_cons (pv 0) pa_nil)))
      (pss_cons (ps_for PassesOwn.never rfl (pi_list (pv 1)) (pg_name (i := 3) nd rfl (.inl rfl)) (pss_one (ps_asg (pe_df D hr (pa_cons (pv 2) (pa_cons (pv 3) pa_nil))) (pg_sub (pv 2) (pv 3) set_list))))
      (pss_one (ps_ret (pv 2)))), ?_⟩
    refine ⟨_, rfl, l, _, rfl, .inl hL, fun fl hfl => ?_⟩
    have e0 := Same.new (o := .lst (as.map V.ref)) hfl
    refine ⟨_, rfl, wl, rfl, ⟨_, e0.seq hW⟩, for_list (K := K) (a := wl) (xs := ws.map V.int) (fun i σ H' => ∃ (v : Option V) (as' : List Addr) (cs' : List Ci), σ = [some (.ref l), some (.ref wl), some (.ref fl), v] ∧ Same H H' ∧ H' fl = some (.lst (as'.map V.ref)) ∧ Cirs K H' as' cs' ∧ G4 (mx i) cs')
      ⟨none, as, cs, rfl, e0, upd_same, hC.mono e0, g⟩ (fun i σ H' _ ⟨_, _, _, _, e, _⟩ => e.seq hW) ?_ ?_⟩
    · rintro i x σ H1 hi ⟨v, as', cs', rfl, e, hF, hC', g'⟩
      obtain ⟨z, hz, rfl⟩ := int_item hi
      obtain ⟨z0, z4⟩ := hwb z (List.mem_of_getElem? hz)
      obtain ⟨n, rfl⟩ : ∃ n : Nat, z = (n : Nat) := ⟨z.toNat, by omega⟩
      have hn : n < cs'.length := by rw [g'.len]; omega
      have hk := List.getElem?_eq_getElem hn
      have hnA : n < as'.length := by rw [hC'.1]; exact hn
      refine ⟨_, rfl, _, rfl, fl, n, as', cs', _, rfl, SqL.of hF, hC', hk, g'.len, fun H2 r e2 hr1 hr2 => ?_⟩
      have ixn : ixN (as'.map V.ref).length ((n : Nat) : Int) = some n := by
        unfold ixN
        rw [if_pos (by omega), if_pos (by rw [List.length_map]; omega)]
        rfl
      refine ⟨_, rfl, _, rfl, fl, _, _, n, rfl, rfl, e2 _ _ hF, ixn, ?_⟩
      have hF2 := e2 _ _ hF
      refine ⟨_, as'.set n r, cs'.set n (oth cs' cs'[n]), rfl, Same.updD (e.trans e2) hfl, by rw [upd_same, List.map_set], Cirs.other (Cirs.set (hC'.mono e2) (SqT.of hr2)) hF2, g'.ex (mx_nn i) hk⟩
    · rintro σ H1 ⟨v, as', cs', rfl, e, hF, hC', g'⟩
      rw [List.length_map] at g'
      exact ⟨_, rfl, q H1 fl cs' (g'.mono (mx_le _ hw6)) ⟨e, hfl, as', hF, hC'⟩⟩
/-! ### the opposite of a circle -/
def spOpp (K : PySem.W.Frag) : Sp := fun vs H Q _ => ∃ (a : Addr) (k : Ci), vs = [.ref a] ∧ SqT K H a (cv k) ∧ ∀ (H' : Hp) (r : Addr), Same H H' → H r = none → H' r = some (.tup (cv (opp k))) → Q (.ref r) H'
theorem scOpp : FnScope ["_law_circle", "_law_part"] ["_law_circle"] (defScope sOpp) := ⟨rfl, rfl, rfl, by decide +kernel, rfl, by decide +kernel, by decide +kernel⟩
theorem opp_p (k : Ci) (i : Nat) : Ci.p (opp k) i = 0 - Ci.p k i := by
  match i with
  | 0 => rfl
  | 1 => rfl
  | 2 => rfl
  | i + 3 => rfl
theorem ok_opp {f : Addr} {fd : FuncData} (F : Fun K "_law_opposite" "_law_opposite" sOpp f fd) (X : Txt mg) : FnOk P w K mg base CX0 1 f fd ["_law_circle"] (spOpp K) := by
  refine F.ok scOpp (fun vs H Q E h => ?_) (fun cdv A outer s H vs Q E hr h => ?_)
  · obtain ⟨a, k, rfl, _⟩ := h
    rfl
  · obtain ⟨a, k, rfl, hq, q⟩ := h
    have nd := scOpp.nd
    refine ⟨_, pss_one (ps_ret (pe_callTy call_tuple_of (by rfl) X.tuple (by decide +kernel) (pa_cons (pe_lc (own := [("_law_part", 1)]) (g := gName 1) (tt := tYes) rfl nd (pi_tup (pv 0)) (blkOk_by (N := ["_law_circle", "_law_part"]) (sc := defScope sOpp) (by decide +kernel))
      (fun _ _ _ _ _ => pg_name (i := 1) nd rfl (.inl rfl)) (fun _ _ _ _ _ => pts_nil) (fun _ _ _ _ _ => pe_op op_sub pe_int (pv 1))) pa_nil))), ?_⟩
    refine ⟨_, rfl, a, rfl, ⟨_, hq⟩, fun D hD => lc_acc (walk_tup (xs := cv k)) hD (fun j acc _ => acc = (List.range j).map fun m => V.int (Ci.p (opp k) m)) rfl (fun H1 e1 => Same.tup e1 hq) ?_ ?_⟩
    · rintro j x acc H1 H1' hj ha1 e eD r ⟨rfl, hx⟩
      have hj4 : j < 4 := hj
      obtain rfl : x = V.int (Ci.p k j) := Option.some.inj (hx.symm.trans (cv_at k hj4))
      refine ⟨rfl, _, rfl, _, _, rfl, rfl, Nxt.mk hD (show 4 < sizeLine by decide) hj4 ha1 e eD ?_⟩
      rw [r, List.range_succ, List.map_append]
      show _ ++ [V.int (0 - Ci.p k j)] = _ ++ [V.int (Ci.p (opp k) j)]
      rw [opp_p]
    · rintro acc H1 hal e eD r
      subst r
      exact ⟨D, _, rfl, .inl ⟨SqL.of eD, fun r hr0 => q _ r (Same.updD e (e.free hr0)) (e.free hr0) upd_same⟩⟩
/-! ### insides -/
def spIns (K : PySem.W.Frag) : Sp := fun vs H Q _ => ∃ (a b c : Addr) (k l : Ci) (p q r s : Int), vs = [.ref a, .ref b, .ref c] ∧ CirA K H a k ∧ CirA K H b l ∧ PtA K H c p q r s ∧
  ∀ (H' : Hp) (o : Addr), Same H H' → H o = none → H' o = some (.lst [.int (sideV k p q r s), .int (sideV l p q r s)]) → Q (.ref o) H'
theorem scIns : FnScope ["_law_one", "_law_other_here", "_law_point"] ["_law_one", "_law_other_here", "_law_point"] (defScope sIns) := ⟨rfl, rfl, rfl, by decide +kernel, rfl, by decide +kernel, by decide +kernel⟩
theorem ok_ins {f : Addr} {fd : FuncData} (F : Fun K "_law_insides" "_law_insides" sIns f fd) (D : Df P w K mg base 3 "side" ["circle", "point"] (spSide K)) : FnOk P w K mg base CX0 4 f fd ["_law_one", "_law_other_here", "_law_point"] (spIns K) := by
  refine F.ok scIns (fun vs H Q E h => ?_) (fun cdv A outer z H vs Q E hr h => ?_)
  · obtain ⟨a, b, c, k, l, p, q, r, s, rfl, _⟩ := h
    rfl
  · obtain ⟨a, b, c, k, l, p, q, r, s, rfl, hk, hl, hp, hQ⟩ := h
    refine ⟨_, pss_one (ps_ret (pe_lst (pa_cons (pe_df D hr (pa_cons (pv 0) (pa_cons (pv 2) pa_nil))) (pa_cons (pe_df D hr (pa_cons (pv 1) (pa_cons (pv 2) pa_nil))) pa_nil)))), ?_⟩
    refine ⟨_, rfl, _, rfl, a, c, k, p, q, r, s, rfl, hk, hp, _, rfl, _, rfl, b, c, l, p, q, r, s, rfl, hl, hp, by show 2 ≤ sizeLine; decide, fun o ho => ?_⟩
    exact hQ _ o (Same.new ho) ho upd_same
end
end FtW

namespace FtW
open PySem PySem.Spec PyProof.Rows L2 FtR Ft
section
variable {P : Program} {w : World} {K : PySem.W.Frag} {mg : Str → Option Value} {base : Heap}
/-! ### the four of the numbers -/
theorem drop_cut {xs : List V} {t : Nat} (h : t ≤ xs.length) : cutV xs (some ((t : Nat) : Int)) none = xs.drop t := by
  unfold cutV
  rw [HT.sIx_none, HT.sIx_nat, Nat.min_eq_left h]
  exact List.take_of_length_le (by rw [List.length_drop]; exact Nat.le_refl _)
theorem four_of {as : List Addr} (h : as.length = 4) : ∃ a b c d, as = [a, b, c, d] := by
  match as, h with
  | [a, b, c, d], _ => exact ⟨a, b, c, d, rfl⟩
theorem Cirs.mk4 {H : Hp} {a b c d : Addr} {k l m n : Ci} (h1 : SqT K H a (cv k)) (h2 : SqT K H b (cv l)) (h3 : SqT K H c (cv m)) (h4 : SqT K H d (cv n)) : Cirs K H [a, b, c, d] [k, l, m, n] := by
  refine ⟨rfl, fun i x y hx hy => ?_⟩
  match i, hx, hy with
  | 0, hx, hy => cases hx; cases hy; exact h1
  | 1, hx, hy => cases hx; cases hy; exact h2
  | 2, hx, hy => cases hx; cases hy; exact h3
  | 3, hx, hy => cases hx; cases hy; exact h4
  | i + 4, hx, hy => simp at hx
theorem Cirs.turn {H : Hp} {as : List Addr} {cs : List Ci} (h : Cirs K H as cs) (h4 : cs.length = 4) {t : Nat} (ht : t < 4) : Cirs K H (as.drop t ++ as.take t) (cs.drop t ++ cs.take t) := by
  have hA : as.length = 4 := h.1.trans h4
  obtain ⟨a, b, c, d, rfl⟩ := four_of hA
  match cs, h4, h with
  | [k, l, m, n], _, h =>
    have h1 := h.2 0 a k rfl rfl
    have h2 := h.2 1 b l rfl rfl
    have h3 := h.2 2 c m rfl rfl
    have h4 := h.2 3 d n rfl rfl
    match t, ht with
    | 0, _ => exact .mk4 h1 h2 h3 h4
    | 1, _ => exact .mk4 h2 h3 h4 h1
    | 2, _ => exact .mk4 h3 h4 h1 h2
    | 3, _ => exact .mk4 h4 h1 h2 h3
theorem Cirs.rev {H : Hp} {as : List Addr} {cs : List Ci} (h : Cirs K H as cs) (h4 : cs.length = 4) : Cirs K H as.reverse cs.reverse := by
  have hA : as.length = 4 := h.1.trans h4
  obtain ⟨a, b, c, d, rfl⟩ := four_of hA
  match cs, h4, h with
  | [k, l, m, n], _, h => exact .mk4 (h.2 3 d n rfl rfl) (h.2 2 c m rfl rfl) (h.2 1 b l rfl rfl) (h.2 0 a k rfl rfl)
def spFour (K : PySem.W.Frag) : Sp := fun vs H Q _ => ∃ (ln : Addr) (ns : List Int), vs = [.ref ln, .int 0] ∧ SqL K H ln (ns.map V.int) ∧ ns.length = 30 ∧ ∀ (H' : Hp) (r : Addr) (cs : List Ci), G4 505298607407104 cs → Made4 K H cs H' r → Q (.ref r) H'
abbrev nFour : List Str := ["_law_numbers_here", "_law_at", "_law_circles", "_law_word", "_law_turn", "_law_circle", "_law_k"]
theorem scFour : FnScope nFour ["_law_numbers_here", "_law_at"] (defScope sFour) := ⟨rfl, rfl, rfl, by decide +kernel, rfl, by decide +kernel, by decide +kernel⟩
theorem ok_four {f : Addr} {fd : FuncData} (F : Fun K "_law_four" "_law_four" sFour f fd) (X : Txt mg) (Dg : Df P w K mg base 1 "_law_given" ["_law_number"] (spGiven K)) (Dl : Df P w K mg base 2 "_law_laid" ["_law_numbers_here", "_law_at", "_law_circle"] (spLaid K))
    (Df' : Df P w K mg base 2 "_law_fallen" ["_law_circles", "_law_word"] (spFall K)) : FnOk P w K mg base CX0 3 f fd ["_law_numbers_here", "_law_at"] (spFour K) := by
  refine F.ok scFour (fun vs H Q E h => ?_) (fun cdv A outer s H vs Q E hr h => ?_)
  · obtain ⟨ln, ns, rfl, _⟩ := h
    rfl
  · obtain ⟨ln, ns, rfl, hL, hn, q⟩ := h
    have nd := scFour.nd
    refine ⟨_, pss_cons (ps_setLc (i := 2) (own := [("_law_circle", 5)]) (g := gName 5) (tt := tYes) (te := tCall (spLaid K) [] E0 (tCons (tVar 0) (tCons (tOp (rI0 fun i j => .int (i + j)) (tVar 1) (tC (.int 1))) (tCons (tVar 5) tNil)))) rfl nd rfl rfl (sw_true rfl rfl rfl (by decide +kernel))
        (pi_list (pe_df Dg hr (pa_cons (pe_ix ix_list (pv 0) (pv 1) (fun _ _ => rfl)) pa_nil))) (blkOk_by (N := nFour) (sc := defScope sFour) (by decide +kernel)) (fun _ _ _ _ _ => pg_name (i := 5) nd rfl (.inl rfl)) (fun _ _ _ _ _ => pts_nil)
        (fun _ _ _ _ _ => pe_df Dl hr (pa_cons (pv 0) (pa_cons (pe_op op_add (pv 1) pe_int) (pa_cons (pv 5) pa_nil)))))
      (pss_cons (ps_setLc (i := 3) (own := [("_law_k", 6)]) (g := gName 6) (tt := tYes) (te := tOp (rI (fun _ j => 0 < j) fun i j => .int (i % j)) (tCB (fun xs H Q => (∃ i, xs = [.int i] ∧ Q (.int i) H) ∨ ∃ k, xs = [.bl k] ∧ Q (.int (if k then 1 else 0)) H) (tCons (tOp (rIxL K) (tVar 0) (tOp (rI0 fun i j => .int (i + j)) (tOp (rI0 fun i j => .int (i + j)) (tVar 1) (tC (.int 6))) (tVar 6))) tNil)) (tC (.int 4))) rfl nd rfl rfl (sw_true rfl rfl rfl (by decide +kernel))
        (pi_range1 (by rfl) X.range (pa_cons (pe_op op_mod (pe_callTy call_int1 (by rfl) X.int (by decide +kernel) (pa_cons (pe_ix ix_list (pv 0) (pe_op op_add (pv 1) pe_int) (fun _ _ => rfl)) pa_nil)) pe_int) pa_nil)) (blkOk_by (N := nFour) (sc := defScope sFour) (by decide +kernel)) (fun _ _ _ _ _ => pg_name (i := 6) nd rfl (.inl rfl)) (fun _ _ _ _ _ => pts_nil)
        (fun _ _ _ _ _ => pe_op op_mod (pe_callTy call_int1 (by rfl) X.int (by decide +kernel) (pa_cons (pe_ix ix_list (pv 0) (pe_op op_add (pe_op op_add (pv 1) pe_int) (pv 6)) (fun _ _ => rfl)) pa_nil)) pe_int))
      (pss_cons (ps_set (i := 2) nd rfl (.inl rfl) (pe_df Df' hr (pa_cons (pv 2) (pa_cons (pv 3) pa_nil))))
      (pss_cons (ps_set (i := 4) nd rfl (.inl rfl) (pe_op op_mod (pe_callTy call_int1 (by rfl) X.int (by decide +kernel) (pa_cons (pe_ix ix_list (pv 0) (pe_op op_add (pv 1) pe_int) (fun _ _ => rfl)) pa_nil)) pe_int))
      (pss_cons (ps_set (i := 2) nd rfl (.inl rfl) (pe_op op_cat (pe_slice sl_list (pv 2) (po_some (pv 4)) po_none) (pe_slice sl_list (pv 2) po_none (po_some (pv 4)))))
      (C8.pss_cut (ps_if (pt_cmpR op_eq (pe_op op_mod (pe_callTy call_int1 (by rfl) X.int (by decide +kernel) (pa_cons (pe_ix ix_list (pv 0) (pe_op op_add (pv 1) pe_int) (fun _ _ => rfl)) pa_nil)) pe_int) pe_int (nomark _)) (pss_one (ps_set (i := 2) nd rfl (.inl rfl) (pe_revL (pv 2)))) pss_nil)
      (pss_one (ps_ret (pv 2)))))))), ?_⟩
    have at_ : ∀ (j : Nat), j < 30 → (ns.map V.int)[j]? = some (.int (ns.getD j 0)) := fun j hj => ns_at (by rw [hn]; exact hj)
    -- the given circles, laid
    refine ⟨_, rfl, _, rfl, ln, _, _, _, rfl, rfl, hL, at_of (j := 0) rfl (at_ 0 (by decide)), ns.getD 0 0, rfl, fun H1 gl gs hg ⟨e1, _, as, hgl, hC⟩ => ?_⟩
    have hlA : as.length = 4 := by rw [hC.1]; exact hg.len
    have hS : ∀ k, k ∈ gs → Sm 1641 k := fun k hk => (hg.at_ hk).2
    refine ⟨gl, rfl, ⟨_, SqL.of hgl⟩, fun D hD => ?_⟩
    have wl := walk_list (K := K) (a := gl) (xs := as.map V.ref)
    rw [List.length_map, hlA] at wl
    refine lc_acc wl hD (fun j acc H' => ∃ bs, acc = bs.map V.ref ∧ Cirs K H' bs ((gs.take j).map (layN ns))) ⟨[], rfl, rfl, fun i a k ha _ => by simp at ha⟩ (fun H2 e2 => e2.seq (SqL.of hgl)) ?_ ?_
    · rintro j x acc H2 H2' hj hal e2 eD ⟨bs, rfl, hB⟩ ⟨rfl, hx⟩
      obtain ⟨a, ha, rfl⟩ : ∃ a, as[j]? = some a ∧ x = V.ref a := by
        rw [List.getElem?_map] at hx
        cases e : as[j]? with
        | none => rw [e] at hx; cases hx
        | some a => rw [e] at hx; exact ⟨a, rfl, (Option.some.inj hx).symm⟩
      have hjc : j < gs.length := by rw [hg.len]; exact hj
      have hk := List.getElem?_eq_getElem hjc
      refine ⟨rfl, _, rfl, _, rfl, _, _, rfl, rfl, _, rfl, ln, a, ns, gs[j], rfl, (e1.trans e2).seq hL, hn, Same.tup e2 (hC.2 j a _ ha hk), hS _ (List.getElem_mem hjc), fun H3 r e3 hr1 hr2 => ?_⟩
      refine Nxt.mk hD (by decide) hj hal (e2.trans e3) (e3 _ _ eD) ⟨bs ++ [r], by rw [List.map_append]; rfl, ?_⟩
      have hlb : bs.length = j := by rw [← hal, List.length_map]
      rw [List.take_succ, hk, List.map_append]
      refine Cirs.other (ys := bs.map V.ref) ⟨by rw [List.length_append, List.length_append, hB.1]; rfl, fun i b k hb hk' => ?_⟩ (e3 _ _ eD)
      have hlc : ((gs.take j).map (layN ns)).length = j := by rw [List.length_map, List.length_take]; omega
      rcases Nat.lt_or_ge i j with hij | hij
      · rw [List.getElem?_append_left (by omega)] at hb hk'
        exact Same.tup e3 (hB.2 i b k hb hk')
      · rw [List.getElem?_append_right (by omega)] at hb hk'
        rw [hlb] at hb
        rw [hlc] at hk'
        have hi0 : i - j = 0 := by
          have := (List.getElem?_eq_some_iff.mp hb).1
          simp at this
          omega
        rw [hi0] at hb hk'
        cases hb
        cases hk'
        exact SqT.of hr2
    rintro acc H2 hal e2 eD ⟨bs, rfl, hB⟩
    rw [List.take_of_length_le (by rw [hg.len]; exact Nat.le_refl _)] at hB
    have e12 := e1.trans e2
    have gl4 : G4 4294967296 (gs.map (layN ns)) := hg.lay _ _ (stp_le _ _).1 (stp_le _ _).2 (stp_le _ _).1 (stp_le _ _).2
    -- the word
    have n1 := Int.emod_nonneg (ns.getD 5 0) (b := 7) (by decide)
    have n2 := Int.emod_lt_of_pos (ns.getD 5 0) (b := 7) (by decide)
    refine ⟨_, rfl, _, rfl, _, _, rfl, rfl, ln, _, _, _, rfl, rfl, e12.seq hL, at_of (j := 5) rfl (at_ 5 (by decide)), .inl ⟨_, rfl, _, _, rfl, rfl, (by show (0 : Int) < _; decide), ?_⟩⟩
    refine ⟨_, rfl, by omega, by omega, fun D2 hD2 => lc_acc walk_range hD2 (fun j acc H' => ∃ ws : List Int, acc = ws.map V.int ∧ ∀ z, z ∈ ws → 0 ≤ z ∧ z < 4) ⟨[], rfl, fun z hz => by simp at hz⟩ (fun _ _ => trivial) ?_ ?_⟩
    · rintro j x acc H3 H3' hj hal2 e3 eD2 ⟨ws, rfl, hw⟩ ⟨rfl, rfl⟩
      have hj' : 6 + j < 30 := by omega
      refine ⟨rfl, _, rfl, _, rfl, _, _, rfl, rfl, _, rfl, _, _, rfl, rfl, ln, _, _, _, rfl, rfl, (e12.trans e3).seq hL, at_of (j := 6 + j) (by show (0 : Int) + 6 + (0 + ((j : Nat) : Int)) = ((6 + j : Nat) : Int); omega) (at_ (6 + j) hj'), .inl ⟨_, rfl, _, _, rfl, rfl, (by show (0 : Int) < _; decide), ?_⟩⟩
      refine Nxt.mk hD2 (show (ns.getD 5 0 % 7).toNat < sizeLine from Nat.lt_of_lt_of_le (show (ns.getD 5 0 % 7).toNat < 7 by omega) (by decide)) hj hal2 e3 eD2 ⟨ws ++ [ns.getD (6 + j) 0 % 4], by rw [List.map_append]; rfl, fun z hz => ?_⟩
      rcases List.mem_append.mp hz with h | h
      · exact hw z h
      · rw [List.mem_singleton.mp h]
        exact ⟨Int.emod_nonneg _ (by decide), Int.emod_lt_of_pos _ (by decide)⟩
    rintro acc H3 hal2 e3 eD2 ⟨ws, rfl, hw⟩
    rw [List.length_map] at hal2
    have e13 := e12.trans e3
    -- exchanged
    refine ⟨_, rfl, _, rfl, D, D2, bs, _, ws, rfl, SqL.of (e3 _ _ eD), hB.mono e3, gl4, SqL.of eD2, by rw [hal2]; omega, hw, fun H4 fl cs hc ⟨e4, hf0, cas, hfl, hC4⟩ => ?_⟩
    have e14 := e13.trans e4
    -- turned
    have t1 := Int.emod_nonneg (ns.getD 12 0) (b := 4) (by decide)
    have t2 := Int.emod_lt_of_pos (ns.getD 12 0) (b := 4) (by decide)
    obtain ⟨t, et⟩ : ∃ t : Nat, ns.getD 12 0 % 4 = (t : Nat) := ⟨(ns.getD 12 0 % 4).toNat, by omega⟩
    have ht4 : t < 4 := by omega
    have hcl : cas.length = 4 := by rw [hC4.1]; exact hc.len
    have hcm : (cas.map V.ref).length = 4 := by rw [List.length_map]; exact hcl
    refine ⟨_, rfl, _, rfl, _, _, rfl, rfl, ln, _, _, _, rfl, rfl, e14.seq hL, at_of (j := 12) rfl (at_ 12 (by decide)), .inl ⟨_, rfl, _, _, rfl, rfl, (by show (0 : Int) < _; decide), ?_⟩⟩
    refine ⟨_, rfl, _, rfl, _, rfl, fl, _, rfl, SqL.of hfl, fun s1 hs1 => ⟨_, rfl, _, rfl, _, rfl, fl, _, rfl, SqL.of (Same.new hs1 _ _ hfl), fun s2 hs2 => ?_⟩⟩
    have z1 : cutV (cas.map V.ref) (some (ns.getD 12 0 % 4)) none = (cas.drop t).map V.ref := by
      rw [et, drop_cut (by omega), List.map_drop]
    have z2 : cutV (cas.map V.ref) none (some (ns.getD 12 0 % 4)) = (cas.take t).map V.ref := by
      rw [et, cutV_take (by omega), List.map_take]
    show rCat (.ref s1) (.ref s2) (upd (upd H4 s1 (.lst (cutV (cas.map V.ref) (some (ns.getD 12 0 % 4)) none))) s2 (.lst (cutV (cas.map V.ref) none (some (ns.getD 12 0 % 4))))) _
    rw [z1] at hs2 ⊢
    rw [z2]
    have f1 := Same.new (o := .lst ((cas.drop t).map V.ref)) hs1
    have f2 := Same.new (o := .lst ((cas.take t).map V.ref)) hs2
    refine ⟨s1, s2, _, _, rfl, rfl, f2 _ _ upd_same, upd_same, ?_, fun r hr0 => ?_⟩
    · rw [List.length_map, List.length_map, List.length_drop, List.length_take, hcl]
      exact Nat.le_trans (show 4 - t + min t 4 ≤ 100 by omega) (by decide)
    rw [← List.map_append]
    have f3 := Same.new (o := .lst ((cas.drop t ++ cas.take t).map V.ref)) hr0
    have f13 := (f1.trans f2).trans f3
    generalize hH5 : upd (upd (upd H4 s1 (.lst ((cas.drop t).map V.ref))) s2 (.lst ((cas.take t).map V.ref))) r (.lst ((cas.drop t ++ cas.take t).map V.ref)) = H5 at f13 ⊢
    have h5r : H5 r = some (.lst ((cas.drop t ++ cas.take t).map V.ref)) := by rw [← hH5]; exact upd_same
    have e15 := e14.trans f13
    have new5 : H r = none := (e14.trans (f1.trans f2)).free hr0
    have C5 : Cirs K H5 (cas.drop t ++ cas.take t) (cs.drop t ++ cs.take t) := (hC4.turn hc.len ht4).mono f13
    have g5 := hc.turn ht4
    -- turned round
    refine ⟨fun σ' H' => ∃ (r : Addr) (cs : List Ci) (v0 v1 v3 v4 v5 v6 : Option V), σ' = [v0, v1, some (.ref r), v3, v4, v5, v6] ∧ G4 505298607407104 cs ∧ Made4 K H cs H' r, ?_, ?_⟩
    · refine ⟨_, rfl, _, rfl, _, _, rfl, rfl, ln, _, _, _, rfl, rfl, e15.seq hL, at_of (j := 13) rfl (at_ 13 (by decide)), .inl ⟨_, rfl, _, _, rfl, rfl, (by show (0 : Int) < _; decide), rfl, _, rfl, ite2 (fun _ => ?_) fun _ => ?_⟩⟩
      · refine ⟨_, rfl, r, _, rfl, SqL.of h5r, fun r2 hr2 => ?_⟩
        rw [← List.map_reverse]
        have f6 := Same.new (o := .lst ((cas.drop t ++ cas.take t).reverse.map V.ref)) hr2
        exact ⟨r2, _, _, _, _, _, _, _, rfl, g5.rev, e15.trans f6, e15.free hr2, _, upd_same, (C5.rev g5.len).mono f6⟩
      · exact ⟨r, _, _, _, _, _, _, _, rfl, g5, e15, new5, _, h5r, C5⟩
    · rintro σ' H' ⟨r', cs', v0, v1, v3, v4, v5, v6, rfl, g', m'⟩
      exact ⟨_, rfl, q H' r' cs' g' m'⟩
end
end FtW

namespace FtW
open PySem PySem.Spec PyProof.Rows L2 FtR Ft
theorem shp2 (x y : Int) : SeqAt.shaped (.tuple [.int x, .int y]) = true := rfl
theorem shl2 (x y : Int) : SeqAt.shaped (.list [.int x, .int y]) = true := rfl
theorem eqv_t2 (x y u v : Int) : PyData.eqv (.tuple [.int x, .int y]) (.tuple [.int u, .int v]) = decide (x = u ∧ y = v) := by
  simp only [PyData.eqv, PyData.eqvAll, Bool.and_true]
  by_cases h1 : x = u <;> by_cases h2 : y = v <;> simp [h1, h2]
theorem eqv_l2 (x y u v : Int) : PyData.eqv (.list [.int x, .int y]) (.list [.int u, .int v]) = decide (x = u ∧ y = v) := by
  simp only [PyData.eqv, PyData.eqvAll, Bool.and_true]
  by_cases h1 : x = u <;> by_cases h2 : y = v <;> simp [h1, h2]
section
variable {P : Program} {w : World} {K : PySem.W.Frag} {mg : Str → Option Value} {base : Heap}
theorem dp_t2 {H : Hp} {a : Addr} {x y : Int} (h : SqT K H a [.int x, .int y]) : Dp K H (.ref a) (.tuple [.int x, .int y]) := .tup h (.cons (.int x) (.cons (.int y) .nil))
theorem dp_l2 {H : Hp} {a : Addr} {x y : Int} (h : SqL K H a [.int x, .int y]) : Dp K H (.ref a) (.list [.int x, .int y]) := .lst h (.cons (.int x) (.cons (.int y) .nil))
/-! ### what the law asks of two circles -/
theorem wide_sq {a b c d : Int} (ha : a.natAbs < 2 ^ 61) (hb : b.natAbs < 2 ^ 61) (hc : c.natAbs < 2 ^ 61) (hd : d.natAbs < 2 ^ 61) : CMulW (a * b - c * d) (a * b - c * d) := by
  have h1 := wide_lt ha hb
  have h2 := wide_lt hc hd
  have h : (a * b - c * d).natAbs < 2 ^ (61 + 61 + 1) := by
    have e : (2 : Nat) ^ (61 + 61 + 1) = 2 ^ (61 + 61) * 2 := Nat.pow_succ 2 (61 + 61)
    omega
  exact wide_mul h h (by decide) (by decide) (by decide)
def spMeets (K : PySem.W.Frag) (G : Ci → Ci → Prop) : Sp := fun vs H Q _ => ∃ (a b : Addr) (k l : Ci), vs = [.ref a, .ref b] ∧ CirA K H a k ∧ CirA K H b l ∧ G k l ∧ ∀ H' : Hp, Same H H' → Q (.bl (meets k l)) H'
abbrev nMeets : List Str := ["_law_one", "_law_other_here", "_law_b", "_law_c", "_law_x", "_law_y", "_law_far_b", "_law_far_c", "_law_far_x", "_law_far_y", "_law_across", "_law_up"]
theorem scMeets : FnScope nMeets ["_law_one", "_law_other_here"] (defScope sMeets) := ⟨rfl, rfl, rfl, by decide +kernel, rfl, by decide +kernel, by decide +kernel⟩
/-- the body, where the call of itself keeps its promise (if it comes to it) -/
theorem meets_sym {k l : Ci} (h1 : ¬ k.b = 0) (h2 : l.b = 0) : meets l k = meets k l := by
  unfold meets
  rw [if_neg (fun q => h1 q.2), if_pos h2, if_neg (fun q => h1 q.1), if_neg h1, if_pos h2]
theorem body_meets {f : Addr} {fd : FuncData} {j : Nat} {G : Ci → Ci → Prop} (F : Fun K "_law_meets" "_law_meets" sMeets f fd)
    (hrec : (Df P w K mg base j "_law_meets" ["_law_one", "_law_other_here"] (spMeets K fun k l => k.b = 0 ∧ ¬ l.b = 0)) ∨ (j = 0 ∧ ∀ k l, G k l → k.b = 0 ∨ ¬ l.b = 0)) : FnOk P w K mg base CX0 (j + 1) f fd ["_law_one", "_law_other_here"] (spMeets K G) := by
  refine F.ok scMeets (fun vs H Q E h => ?_) (fun cdv A outer s H vs Q E hr h => ?_)
  · obtain ⟨a, b, k, l, rfl, _⟩ := h
    rfl
  · obtain ⟨a, b, k, l, rfl, ck, cl, hG, q⟩ := h
    have nd := scMeets.nd
    have q0 := q H (Same.refl H)
    -- the call of itself: where it is never made, no rule is asked
    obtain ⟨tr, htr, hrd⟩ : ∃ tr : TS, PSs (cxOf CX0 P w K mg base nMeets "_law_meets" (defScope sMeets) f cdv A outer s H E).nox
        (match defBody sMeets with | _ :: _ :: _ :: _ :: .If _ b _ _ :: _ => b | _ => []) tr ∧ (¬ k.b = 0 → l.b = 0 → ∀ (D : Ends) (σ : L2.St), σ[0]? = some (some (.ref a)) → σ[1]? = some (some (.ref b)) → D.rt = Q → tr D σ H) := by
      rcases hrec with D | ⟨_, hno⟩
      · refine ⟨_, pss_one (ps_ret (pe_df D hr (pa_cons (pv 1) (pa_cons (pv 0) pa_nil)) (Nat.le_refl _))), fun h1 h2 D σ s0 s1 hD => ?_⟩
        refine ⟨_, s1, _, s0, b, a, l, k, rfl, cl, ck, ⟨h2, h1⟩, fun H' e => ?_⟩
        rw [meets_sym h1 h2, hD]
        exact q H' e
      · exact ⟨_, pss_never, fun h1 h2 => (hno k l hG).elim (fun z => absurd z h1) fun z => absurd h2 z⟩
    refine ⟨_, pss_cons (ps_asg (pv 0) (pg_tup rfl (pgs_cons (pg_name (i := 2) nd rfl (.inl rfl)) (pgs_cons (pg_name (i := 3) nd rfl (.inl rfl)) (pgs_cons (pg_name (i := 4) nd rfl (.inl rfl)) (pgs_cons (pg_name (i := 5) nd rfl (.inl rfl)) pgs_nil))))))
      (pss_cons (ps_asg (pv 1) (pg_tup rfl (pgs_cons (pg_name (i := 6) nd rfl (.inl rfl)) (pgs_cons (pg_name (i := 7) nd rfl (.inl rfl)) (pgs_cons (pg_name (i := 8) nd rfl (.inl rfl)) (pgs_cons (pg_name (i := 9) nd rfl (.inl rfl)) pgs_nil))))))
      (pss_cons (ps_if (PW.pt (pw_and (pt_cmpR op_eq (pv 2) pe_int (nomark _)) (pw_and1 (pt_cmpR op_eq (pv 6) pe_int (nomark _)))))
        (pss_one (ps_ret (pe_and (pe_cmpR (op_eqD hr.units) (pe_tup (pa_cons (pv 4) (pa_cons (pv 5) pa_nil))) (pe_tup (pa_cons (pe_op op_sub pe_int (pv 8)) (pa_cons (pe_op op_sub pe_int (pv 9)) pa_nil))) (nomark _)) (pe_one (pe_cmpR op_gt (pe_op op_add (pv 3) (pv 7)) pe_int (nomark _)))))) pss_nil)
      (pss_cons (ps_if (pt_cmpR op_eq (pv 2) pe_int (nomark _)) (pss_one (ps_ret (pe_cmpR op_eq (pe_op op_sub (pe_op op_mul pe_int (pe_op op_add (pe_op op_mul (pv 4) (pv 8)) (pe_op op_mul (pv 5) (pv 9)))) (pe_op op_mul (pv 3) (pv 6))) (pe_un un_neg pe_int) (nomark _)))) pss_nil)
      (pss_cons (ps_if (pt_cmpR op_eq (pv 6) pe_int (nomark _)) htr pss_nil)
      (pss_cons (ps_set (i := 10) nd rfl (.inl rfl) (pe_op op_sub (pe_op op_mul (pv 4) (pv 6)) (pe_op op_mul (pv 8) (pv 2))))
      (pss_cons (ps_set (i := 11) nd rfl (.inl rfl) (pe_op op_sub (pe_op op_mul (pv 5) (pv 6)) (pe_op op_mul (pv 9) (pv 2))))
      (pss_one (ps_ret (pe_and (pe_cmpR op_eq (pe_op op_add (pe_op op_mulW (pv 10) (pv 10)) (pe_op op_mulW (pv 11) (pv 11))) (pe_op op_pow (pe_op op_add (pv 2) (pv 6)) pe_int) (nomark _)) (pe_one (pe_cmpR op_gt (pe_op op_add (pv 2) (pv 6)) pe_int (nomark _)))))))))))), ?_⟩
    refine ⟨_, rfl, a, _, rfl, ck.at_, rfl, _, _, rfl, _, _, rfl, _, _, rfl, _, _, rfl, rfl, ?_⟩
    refine ⟨_, rfl, b, _, rfl, cl.at_, rfl, _, _, rfl, _, _, rfl, _, _, rfl, _, _, rfl, rfl, ?_⟩
    obtain ⟨h1, h2, h3, h4, h5, h6, h7, h8⟩ : Sm 1152921504606846976 k := ck.sm
    obtain ⟨g1, g2, g3, g4, g5, g6, g7, g8⟩ : Sm 1152921504606846976 l := cl.sm
    have bk : ∀ {x y : Int}, -1152921504606846976 ≤ x → x ≤ 1152921504606846976 → CMul x y := fun h h' => .inl ⟨by omega, by omega⟩
    refine ⟨_, rfl, rfl, _, rfl, ite2 (fun c1 => ?_) fun c1 => iteF ?_⟩
    · have e1 : k.b = 0 := V.int.inj (of_decide_eq_true c1)
      refine ⟨_, rfl, rfl, _, rfl, ite2 (fun c2 => ?_) fun c2 => ?_⟩
      · -- two lines
        have e2 : l.b = 0 := V.int.inj (of_decide_eq_true c2)
        have em : meets k l = (decide (k.x = 0 - l.x ∧ k.y = 0 - l.y) && decide (0 < k.c + l.c)) := by
          unfold meets
          rw [if_pos ⟨e1, e2⟩]
        refine ⟨_, rfl, _, rfl, by show 2 ≤ sizeLine; decide, fun t ht => ⟨_, rfl, _, _, rfl, rfl, _, rfl, _, _, rfl, rfl, by show 2 ≤ sizeLine; decide, fun u hu => ?_⟩⟩
        have et := Same.new (o := .tup [V.int k.x, V.int k.y]) ht
        have eu := Same.new (o := .tup [V.int (0 - l.x), V.int (0 - l.y)]) hu
        refine ⟨_, _, dp_t2 (SqT.of (eu _ _ upd_same)), dp_t2 (SqT.of upd_same), shp2 _ _, shp2 _ _, _, rfl, ite2 (fun c => ?_) fun c => ?_⟩
        · rw [eqv_t2] at c
          refine ⟨_, rfl, _, rfl, _, _, rfl, rfl, _, _, rfl, rfl, ?_⟩
          have z := q _ (et.trans eu)
          rw [em, c] at z
          exact z
        · rw [eqv_t2] at c
          have z := q _ (et.trans eu)
          rw [em, Bool.eq_false_iff.mpr c] at z
          exact z
      · have e2 : ¬ l.b = 0 := fun z => c2 (decide_eq_true (by rw [z]))
        refine ⟨_, rfl, rfl, _, rfl, ite2 (fun _ => ?_) fun z => absurd c1 z⟩
        have em : meets k l = decide (V.int (2 * (k.x * l.x + k.y * l.y) - k.c * l.b) = V.int (-2)) := by
          unfold meets
          rw [if_neg (fun q => e2 q.2), if_pos e1]
          simp
        rw [em] at q0
        refine ⟨_, rfl, _, rfl, _, _, rfl, rfl, bk h5 h6, _, rfl, _, rfl, _, _, rfl, rfl, bk h7 h8, _, _, rfl, rfl, _, _, rfl, rfl, .inl ⟨by decide, by decide⟩, _, rfl, _, rfl, _, _, rfl, rfl, bk h3 h4, _, _, rfl, rfl, _, rfl, rfl, ?_⟩
        exact q0
    · have e1 : ¬ k.b = 0 := fun z => c1 (decide_eq_true (by rw [z]))
      refine ⟨_, rfl, rfl, _, rfl, ite2 (fun z => absurd z c1) fun _ => ?_⟩
      refine ⟨_, rfl, rfl, _, rfl, ite2 (fun c2 => ?_) fun c2 => ?_⟩
      · exact hrd e1 (V.int.inj (of_decide_eq_true c2)) _ _ rfl rfl rfl
      · have e2 : ¬ l.b = 0 := fun z => c2 (decide_eq_true (by rw [z]))
        have em : meets k l = (decide (V.int ((k.x * l.b - l.x * k.b) * (k.x * l.b - l.x * k.b) + (k.y * l.b - l.y * k.b) * (k.y * l.b - l.y * k.b)) = V.int ((k.b + l.b) ^ 2)) && decide (0 < k.b + l.b)) := by
          unfold meets
          rw [if_neg (fun q => e1 q.1), if_neg e1, if_neg e2]
          simp
        rw [em] at q0
        refine ⟨_, rfl, _, rfl, _, _, rfl, rfl, bk h5 h6, _, rfl, _, rfl, _, _, rfl, rfl, bk g5 g6, _, _, rfl, rfl, ?_⟩
        refine ⟨_, rfl, _, rfl, _, _, rfl, rfl, bk h7 h8, _, rfl, _, rfl, _, _, rfl, rfl, bk g7 g8, _, _, rfl, rfl, ?_⟩
        refine ⟨_, rfl, _, rfl, _, _, rfl, rfl, wide_sq (by omega) (by omega) (by omega) (by omega), _, rfl, _, rfl, _, _, rfl, rfl, wide_sq (by omega) (by omega) (by omega) (by omega), _, _, rfl, rfl, ?_⟩
        refine ⟨_, rfl, _, rfl, _, _, rfl, rfl, _, _, rfl, rfl, ⟨by decide, by decide, by show (k.b + l.b).natAbs < 2 ^ 64; omega⟩, rfl, _, rfl, ite2 (fun c => ?_) fun c => ?_⟩
        · have c' : decide (V.int ((k.x * l.b - l.x * k.b) * (k.x * l.b - l.x * k.b) + (k.y * l.b - l.y * k.b) * (k.y * l.b - l.y * k.b)) = V.int ((k.b + l.b) ^ 2)) = true := c
          rw [c'] at q0
          exact ⟨_, rfl, _, rfl, _, _, rfl, rfl, _, _, rfl, rfl, q0⟩
        · have c' : decide (V.int ((k.x * l.b - l.x * k.b) * (k.x * l.b - l.x * k.b) + (k.y * l.b - l.y * k.b) * (k.y * l.b - l.y * k.b)) = V.int ((k.b + l.b) ^ 2)) = false := Bool.eq_false_iff.mpr c
          rw [c'] at q0
          exact q0
/-- any two circles: it calls itself once at most -/
theorem ok_meets {f : Addr} {fd : FuncData} (F : Fun K "_law_meets" "_law_meets" sMeets f fd) (hm : mg "_law_meets" = some (.ref f)) (b : L2.Binds K fd ["_law_one", "_law_other_here"] []) : FnOk P w K mg base CX0 2 f fd ["_law_one", "_law_other_here"] (spMeets K fun _ _ => True) :=
  body_meets F (.inl (df_mk F hm b (body_meets F (.inr ⟨rfl, fun k l h => .inl h.1⟩))))
end
end FtW

namespace FtW
open PySem PySem.Spec PyProof.Rows L2 FtR Ft
section
variable {P : Program} {w : World} {K : PySem.W.Frag} {mg : Str → Option Value} {base : Heap} {C : Addr}
/-! ### the law -/
theorem good_of {cs : List Ci} (g : G4 505298607407104 cs) : Good cs where
  len := g.len
  at_ := fun k hk => ⟨(g.at_ hk).1, (g.at_ hk).2.mono (by decide)⟩
  two := fun i j k l hi hj hij => g.two hi hj hij
/-- eight circles of a heap -/
structure Found (K : PySem.W.Frag) (H : Hp) (fl : Addr) (as : List Addr) (cs : List Ci) : Prop where
  lst : H fl = some (.lst (as.map V.ref))
  cir : Cirs K H as cs
  len : cs.length = 8
  at_ : ∀ k, k ∈ cs → Valid k ∧ Sm 3537090251849728 k
  pr : ∀ (i j : Nat) (k l : Ci), cs[i]? = some k → cs[j]? = some l → j < i → Pr k l
theorem Found.mono {H H' : Hp} {fl : Addr} {as : List Addr} {cs : List Ci} (h : Found K H fl as cs) (e : Same H H') : Found K H' fl as cs := ⟨e _ _ h.lst, h.cir.mono e, h.len, h.at_, h.pr⟩
theorem Found.cirA {H : Hp} {fl : Addr} {as : List Addr} {cs : List Ci} (h : Found K H fl as cs) {i : Nat} {a : Addr} {k : Ci} (ha : as[i]? = some a) (hk : cs[i]? = some k) : CirA K H a k :=
  h.cir.cirA (fun k hk => ⟨(h.at_ k hk).1, (h.at_ k hk).2.mono (by decide)⟩) ha hk
theorem fnd_pr {cs : List Ci} (h : (fnd cs).Pairwise Pr) : ∀ (i j : Nat) (k l : Ci), (fnd cs)[i]? = some k → (fnd cs)[j]? = some l → j < i → Pr k l := fun i j k l hi hj hij => by
  obtain ⟨hi1, rfl⟩ := List.getElem?_eq_some_iff.mp hi
  obtain ⟨hj1, rfl⟩ := List.getElem?_eq_some_iff.mp hj
  exact (List.pairwise_iff_getElem.mp h j i hj1 hi1 hij).symm
theorem Cirs.app {H : Hp} {as bs : List Addr} {cs ds : List Ci} (h : Cirs K H as cs) (g : Cirs K H bs ds) : Cirs K H (as ++ bs) (cs ++ ds) := by
  refine ⟨by rw [List.length_append, List.length_append, h.1, g.1], fun i a k ha hk => ?_⟩
  rcases Nat.lt_or_ge i as.length with hi | hi
  · rw [List.getElem?_append_left hi] at ha
    rw [List.getElem?_append_left (by rw [← h.1]; exact hi)] at hk
    exact h.2 i a k ha hk
  · rw [List.getElem?_append_right hi] at ha
    rw [List.getElem?_append_right (by rw [← h.1]; exact hi), ← h.1] at hk
    exact g.2 _ a k ha hk
def spLaw (K : PySem.W.Frag) : Sp := fun vs H Q _ => ∃ (a : Addr) (ns : List Int), vs = [.ref a] ∧ SqL K H a (ns.map V.int) ∧ ns.length ≤ 63 ∧ ∀ H', Q (.bl true) H'
abbrev nLaw : List Str := ["_law_script", "_law_numbers_here", "_law_circles", "_law_four_here", "_law_k", "_law_found", "_law_far", "_law_one", "_law_due", "_law_turned", "_law_size", "_law_point", "_law_step", "_law_near"]
theorem scLaw : FnScope nLaw ["_law_script"] (defScope sLaw) := ⟨rfl, rfl, rfl, by decide +kernel, rfl, by decide +kernel, by decide +kernel⟩
/-- the six steps -/
theorem step_at {H : Hp} {t1 t2 t3 t4 t5 t6 : Addr} (h1 : SqT K H t1 [.int 1, .int 0]) (h2 : SqT K H t2 [.int 0, .int 1]) (h3 : SqT K H t3 [.int (-1), .int 0]) (h4 : SqT K H t4 [.int 0, .int (-1)]) (h5 : SqT K H t5 [.int 1, .int 1]) (h6 : SqT K H t6 [.int (-3), .int 2])
    {i : Nat} {x : V} (hx : ([.ref t1, .ref t2, .ref t3, .ref t4, .ref t5, .ref t6] : List V)[i]? = some x) : ∃ (t : Addr) (a b : Int), x = .ref t ∧ SqT K H t [.int a, .int b] ∧ (-3 ≤ a ∧ a ≤ 3) ∧ (-3 ≤ b ∧ b ≤ 3) := by
  match i, hx with
  | 0, hx => cases hx; exact ⟨_, _, _, rfl, h1, by decide, by decide⟩
  | 1, hx => cases hx; exact ⟨_, _, _, rfl, h2, by decide, by decide⟩
  | 2, hx => cases hx; exact ⟨_, _, _, rfl, h3, by decide, by decide⟩
  | 3, hx => cases hx; exact ⟨_, _, _, rfl, h4, by decide, by decide⟩
  | 4, hx => cases hx; exact ⟨_, _, _, rfl, h5, by decide, by decide⟩
  | 5, hx => cases hx; exact ⟨_, _, _, rfl, h6, by decide, by decide⟩
  | i + 6, hx => simp at hx
theorem ok_law {f fI fO : Addr} {fd fdI fdO : FuncData} (F : Fun K "law" "law" sLaw f fd) (T : TxF K mg C) (X : Txt mg) (M : Mk K C fI) (GI : FnOk P w K mg base CX0 5 fI fdI ["self", "circles"] (spInit K C)) (bI : L2.Binds K fdI ["self", "circles"] [])
    (mO : Meth K C "other" fO) (GO : FnOk P w K mg base CX0 3 fO fdO ["self", "number"] (spOther K C)) (bO : L2.Binds K fdO ["self", "number"] [])
    (Dn : Df P w K mg base 2 "_law_numbers" ["_law_script", "_law_many"] (spNums K)) (D4 : Df P w K mg base 3 "_law_four" ["_law_numbers_here", "_law_at"] (spFour K)) (Dm : Df P w K mg base 2 "_law_meets" ["_law_one", "_law_other_here"] (spMeets K fun _ _ => True))
    (Dt : Df P w K mg base 4 "touch" ["one", "other"] (spTch K)) (Do : Df P w K mg base 1 "_law_opposite" ["_law_circle"] (spOpp K)) (Di : Df P w K mg base 4 "_law_insides" ["_law_one", "_law_other_here", "_law_point"] (spIns K)) :
    FnOk P w K mg base CX0 7 f fd ["_law_script"] (spLaw K) := by
  refine F.ok scLaw (fun vs H Q E h => ?_) (fun cdv A outer s H vs Q E hr h => ?_)
  · obtain ⟨a, ns, rfl, _⟩ := h
    rfl
  · obtain ⟨a, zs, rfl, hS, h63, q⟩ := h
    have nd := scLaw.nd
    refine ⟨_, pss_cons (ps_set (i := 1) nd rfl (.inl rfl) (pe_df Dn hr (pa_cons (pv 0) (pa_cons pe_int pa_nil))))
      (pss_cons (ps_set (i := 2) nd rfl (.inl rfl) (pe_df D4 hr (pa_cons (pv 1) (pa_cons pe_int pa_nil))))
      (pss_cons (ps_set (i := 3) nd rfl (.inr rfl) (pe_make M GI hr rfl T.mgC bI .nil pass0 (pa_cons (pv 2) pa_nil)))
      (pss_cons (ps_set (i := 5) nd rfl (.inl rfl) (pe_op op_cat (pv 2) (pe_lc (own := [("_law_k", 4)]) (g := gName 4) (tt := tYes) (te := tMeth C "other" (spOther K C) [] E0 (tVar 3) (tCons (tOp (rI0 fun i j => .int (i + j)) (tVar 4) (tC (.int 1))) tNil)) rfl nd (pi_range1 (by rfl) X.range (pa_cons pe_int pa_nil))
          (blkOk_by (N := nLaw) (sc := defScope sLaw) (by decide +kernel)) (fun _ _ _ _ _ => pg_name (i := 4) nd rfl (.inl rfl)) (fun _ _ _ _ _ => pts_nil) (fun _ _ _ _ _ => pe_meth (pv 3) T.cl mO GO (hr.mono (by decide)) bO .nil pass0 (pa_cons (pe_op op_add (pv 4) pe_int) pa_nil)))))
      (pss_cons (ps_for PassesOwn.never rfl (pi_range1 (by rfl) X.range (pa_cons pe_int pa_nil)) (pg_name (i := 4) nd rfl (.inl rfl))
        (pss_one (ps_for PassesOwn.never rfl (pi_list (pe_slice sl_list (pv 5) po_none (po_some (pv 4)))) (pg_name (i := 6) nd rfl (.inl rfl))
          (pss_cons (ps_set (i := 7) nd rfl (.inl rfl) (pe_ix ix_list (pv 5) (pv 4) (fun _ _ => rfl)))
          (pss_cons (ps_set (i := 8) nd rfl (.inl rfl) (pe_df Dm hr (pa_cons (pv 7) (pa_cons (pv 6) pa_nil))))
          (pss_cons (ps_if (PW.pt (pw_or (pt_cmpR op_ne (pe_df Dt hr (pa_cons (pv 7) (pa_cons (pv 6) pa_nil))) (pv 8) (nomark _)) (pw_or1 (pt_cmpR op_ne (pe_df Dt hr (pa_cons (pv 6) (pa_cons (pv 7) pa_nil))) (pv 8) (nomark _))))) pss_never pss_nil)
          (pss_cons (ps_set (i := 9) nd rfl (.inl rfl) (pe_df Do hr (pa_cons (pv 6) pa_nil)))
          (pss_cons (ps_if (PW.pt (pw_or (pt_cmpR op_ne (pe_df Dt hr (pa_cons (pv 7) (pa_cons (pv 9) pa_nil))) (pe_df Dm hr (pa_cons (pv 7) (pa_cons (pv 9) pa_nil))) (nomark _)) (pw_or1 (pt_cmpR op_ne (pe_df Dt hr (pa_cons (pv 9) (pa_cons (pv 7) pa_nil))) (pe_df Dm hr (pa_cons (pv 7) (pa_cons (pv 9) pa_nil))) (nomark _))))) pss_never pss_nil)
          (pss_cons (ps_set (i := 10) nd rfl (.inl rfl) (pe_op op_add (pe_ix ix_tup (pv 7) pe_int (fun _ _ => rfl)) (pe_ix ix_tup (pv 6) pe_int (fun _ _ => rfl))))
          (pss_one (ps_if (PW.pt (pw_and (pt_val (pv 8)) (pw_and1 (pt_cmpR op_gt (pv 10) pe_int (nomark _)))))
            (pss_cons (ps_set (i := 11) nd rfl (.inl rfl) (pe_tup (pa_cons (pe_tup (pa_cons (pe_op op_add (pe_ix ix_tup (pv 7) pe_int (fun _ _ => rfl)) (pe_ix ix_tup (pv 6) pe_int (fun _ _ => rfl))) (pa_cons (pv 10) pa_nil)))
                (pa_cons (pe_tup (pa_cons (pe_op op_add (pe_ix ix_tup (pv 7) pe_int (fun _ _ => rfl)) (pe_ix ix_tup (pv 6) pe_int (fun _ _ => rfl))) (pa_cons (pv 10) pa_nil))) pa_nil))))
            (pss_cons (ps_if (pt_cmpR (op_neD hr.units) (pe_df Di hr (pa_cons (pv 7) (pa_cons (pv 6) (pa_cons (pv 11) pa_nil)))) (pe_lst (pa_cons pe_int (pa_cons pe_int pa_nil))) (nomark _)) pss_never pss_nil)
            (pss_one (ps_for PassesOwn.never rfl (pi_list (pe_lst (pa_cons (pe_tup (pa_cons pe_int (pa_cons pe_int pa_nil))) (pa_cons (pe_tup (pa_cons pe_int (pa_cons pe_int pa_nil))) (pa_cons (pe_tup (pa_cons (pe_un un_neg pe_int) (pa_cons pe_int pa_nil)))
                (pa_cons (pe_tup (pa_cons pe_int (pa_cons (pe_un un_neg pe_int) pa_nil))) (pa_cons (pe_tup (pa_cons pe_int (pa_cons pe_int pa_nil))) (pa_cons (pe_tup (pa_cons (pe_un un_neg pe_int) (pa_cons pe_int pa_nil))) pa_nil)))))))) (pg_name (i := 12) nd rfl (.inl rfl))
              (pss_cons (ps_set (i := 13) nd rfl (.inl rfl) (pe_tup (pa_cons (pe_tup (pa_cons (pe_op op_add (pe_op op_mul pe_int (pe_ix ix_tup (pe_ix ix_tup (pv 11) pe_int (fun _ _ => rfl)) pe_int (fun _ _ => rfl))) (pe_ix ix_tup (pv 12) pe_int (fun _ _ => rfl))) (pa_cons (pe_op op_mul pe_int (pv 10)) pa_nil)))
                  (pa_cons (pe_tup (pa_cons (pe_op op_add (pe_op op_mul pe_int (pe_ix ix_tup (pe_ix ix_tup (pv 11) pe_int (fun _ _ => rfl)) pe_int (fun _ _ => rfl))) (pe_ix ix_tup (pv 12) pe_int (fun _ _ => rfl))) (pa_cons (pe_op op_mul pe_int (pv 10)) pa_nil))) pa_nil))))
              (pss_one (ps_if (pt_cmpR (op_eqD hr.units) (pe_df Di hr (pa_cons (pv 7) (pa_cons (pv 6) (pa_cons (pv 13) pa_nil)))) (pe_lst (pa_cons pe_int (pa_cons pe_int pa_nil))) (nomark _)) pss_never pss_nil)))))))
            pss_nil)))))))))))
      (pss_one (ps_ret pe_bl)))))), ?_⟩
    -- the numbers, the circles
    refine ⟨_, rfl, a, zs, rfl, hS, h63, fun H1 ln ns e1 _ hln hn => ?_⟩
    refine ⟨_, rfl, ln, ns, rfl, SqL.of hln, hn, fun H2 cl cs g ⟨e2, _, as, hcl, hC⟩ => ?_⟩
    -- the four of them
    refine ⟨_, rfl, fun x dx nx ndx nex => ?_⟩
    have sx : Same H2 (upd (upd H2 dx (.own x)) x (.ins C dx [])) := fun b o e => by
      rw [upd_ne (ne_of_none e nx), upd_ne (ne_of_none e ndx)]
      exact e
    refine ⟨x, dx, cl, as, cs, rfl, upd_same, sx.seq (SqL.of hcl), hC.mono sx, good_of g, fun H3 kp f4 => ⟨rfl, ?_⟩⟩
    have e3 : Same H2 H3 := Same.made nx ndx kp
    -- and the other ones
    refine ⟨_, rfl, 4, rfl, by decide, by decide, fun D hD => lc_acc walk_range hD (fun j acc H' => ∃ bs, acc = bs.map V.ref ∧ Cirs K H' bs ((cs.map (oth cs)).take j)) ⟨[], rfl, rfl, fun i a k ha _ => by simp at ha⟩ (fun _ _ => trivial) ?_ ?_⟩
    · rintro j y acc H4 H4' hj hal e4 eD ⟨bs, rfl, hB⟩ ⟨rfl, rfl⟩
      have hj4 : j < 4 := hj
      have hjc : j < cs.length := by rw [g.len]; exact hj4
      have hk := List.getElem?_eq_getElem hjc
      obtain ⟨dx4, t4, f41, f42⟩ := f4.mono e4
      refine ⟨rfl, _, rfl, x, dx4, _, rfl, f41, ff_no t4 (by decide +kernel), _, rfl, _, _, rfl, rfl, x, j, as, cs, cs[j], (by show [V.ref x, V.int (0 + ((j : Nat) : Int) + 1)] = [V.ref x, V.int (((j : Nat) : Int) + 1)]; rw [Int.zero_add]), hj4, f4.mono e4, hC.mono (e3.trans e4), hk, g.len, fun H5 r e5 hr1 hr2 => ?_⟩
      refine Nxt.mk hD (show 4 < sizeLine by decide) hj4 hal (e4.trans e5) (e5 _ _ eD) ⟨bs ++ [r], by rw [List.map_append]; rfl, ?_⟩
      have hk2 : (cs.map (oth cs))[j]? = some (oth cs cs[j]) := by rw [List.getElem?_map, hk]; rfl
      rw [List.take_succ, hk2]
      refine Cirs.other (ys := bs.map V.ref) (Cirs.app (hB.mono e5) ⟨rfl, fun i b k hb hk' => ?_⟩) (e5 _ _ eD)
      match i, hb, hk' with
      | 0, hb, hk' => cases hb; cases hk'; exact SqT.of hr2
      | i + 1, hb, hk' => simp at hb
    rintro acc H4 hal e4 eD ⟨bs, rfl, hB⟩
    rw [List.take_of_length_le (by rw [List.length_map, g.len]; exact Nat.le_refl _)] at hB
    have hclen : as.length = 4 := by rw [hC.1]; exact g.len
    have hblen : bs.length = 4 := by rw [hB.1, List.length_map]; exact g.len
    have e24 := e3.trans e4
    refine ⟨cl, D, _, _, rfl, rfl, e24 _ _ hcl, eD, by rw [List.length_map, List.length_map, hclen, hblen]; decide, fun fl hfl => ?_⟩
    rw [← List.map_append]
    have ef := Same.new (o := .lst ((as ++ bs).map V.ref)) hfl
    have gf := g.fnd (by decide)
    have F0 : Found K (upd H4 fl (.lst ((as ++ bs).map V.ref))) fl (as ++ bs) (fnd cs) := ⟨upd_same, ((hC.mono e24).app hB).mono ef, gf.1, fun k hk => ⟨(gf.2.1 k hk).1, (gf.2.1 k hk).2.mono (by decide)⟩, fnd_pr gf.2.2⟩
    generalize hH5 : upd H4 fl (.lst ((as ++ bs).map V.ref)) = H5 at F0 ⊢
    generalize as ++ bs = fas at F0 ⊢
    generalize fnd cs = fcs at F0 ⊢
    have hfa : fas.length = 8 := by rw [F0.cir.1]; exact F0.len
    -- each one
    refine ⟨8, rfl, by decide, by decide, for_range (lo := 0) (n := 8) (fun i σ H' => ∃ v4 v6 v7 v8 v9 v10 v11 v12 v13 : Option V, σ = [some (.ref a), some (.ref ln), some (.ref cl), some (.ref x), v4, some (.ref fl), v6, v7, v8, v9, v10, v11, v12, v13] ∧ Same H5 H')
      ⟨none, none, none, none, none, none, none, none, none, rfl, Same.refl _⟩ ?_ ?_⟩
    · rintro k σ H6 hk8 ⟨v4, v6, v7, v8, v9, v10, v11, v12, v13, rfl, e6⟩
      have hk8' : k < 8 := hk8
      obtain ⟨oa, hoa⟩ : ∃ b, fas[k]? = some b := ⟨fas[k]'(by omega), List.getElem?_eq_getElem (by omega)⟩
      obtain ⟨ok, hok⟩ : ∃ c, fcs[k]? = some c := ⟨fcs[k]'(by rw [F0.len]; exact hk8'), List.getElem?_eq_getElem (by rw [F0.len]; exact hk8')⟩
      have F6 := F0.mono e6
      -- each ahead of it
      refine ⟨_, rfl, _, rfl, _, rfl, fl, _, rfl, SqL.of F6.lst, fun sl hsl => ?_⟩
      have ecut : cutV (fas.map V.ref) none (some (0 + ((k : Nat) : Int))) = (fas.map V.ref).take k := by
        rw [Int.zero_add]
        exact cutV_take (by rw [List.length_map, hfa]; omega)
      rw [ecut]
      have es := Same.new (o := .lst ((fas.map V.ref).take k)) hsl
      refine ⟨sl, rfl, ⟨_, SqL.of upd_same⟩, for_list (K := K) (a := sl) (xs := (fas.map V.ref).take k) (fun i σ H' => ∃ v6 v7 v8 v9 v10 v11 v12 v13 : Option V, σ = [some (.ref a), some (.ref ln), some (.ref cl), some (.ref x), some (.int (0 + ((k : Nat) : Int))), some (.ref fl), v6, v7, v8, v9, v10, v11, v12, v13] ∧ Same (upd H6 sl (.lst ((fas.map V.ref).take k))) H')
        ⟨v6, v7, v8, v9, v10, v11, v12, v13, rfl, Same.refl _⟩ (fun i σ H' _ ⟨_, _, _, _, _, _, _, _, _, e⟩ => SqL.of (e _ _ upd_same)) ?_ ?_⟩
      · rintro j y σ H7 hjx ⟨w6, w7, w8, w9, w10, w11, w12, w13, rfl, e7⟩
        have hjk : j < k := by
          have := (List.getElem?_eq_some_iff.mp hjx).1
          rw [List.length_take] at this
          omega
        obtain ⟨fa, hfa2, rfl⟩ : ∃ b, fas[j]? = some b ∧ y = V.ref b := by
          rw [List.getElem?_take_of_lt hjk, List.getElem?_map] at hjx
          cases e : fas[j]? with
          | none => rw [e] at hjx; cases hjx
          | some b => rw [e] at hjx; exact ⟨b, rfl, (Option.some.inj hjx).symm⟩
        obtain ⟨fk, hfk⟩ : ∃ c, fcs[j]? = some c := ⟨fcs[j]'(by rw [F0.len]; omega), List.getElem?_eq_getElem (by rw [F0.len]; omega)⟩
        have F7 := F6.mono (es.trans e7)
        have cO := F7.cirA hoa hok
        have cF := F7.cirA hfa2 hfk
        obtain ⟨vO, sO⟩ := F0.at_ ok (List.mem_of_getElem? hok)
        obtain ⟨vF, sF⟩ := F0.at_ fk (List.mem_of_getElem? hfk)
        have pr := F0.pr k j ok fk hok hfk hjk
        have n1 := L1 vO vF pr
        have n2 := L2 vO vF pr
        have n3 := L3 vO vF pr
        have n4 := L4 vO vF pr
        -- the two of them
        refine ⟨_, rfl, _, rfl, fl, _, _, _, rfl, rfl, SqL.of F7.lst, at_of (j := k) (v := V.ref oa) (Int.zero_add _) (by rw [List.getElem?_map, hoa]; rfl), ?_⟩
        refine ⟨_, rfl, _, rfl, oa, fa, ok, fk, rfl, cO, cF, trivial, fun H8 e8 => ?_⟩
        have cO8 := cO.mono e8
        have cF8 := cF.mono e8
        refine ⟨_, rfl, _, rfl, oa, fa, ok, fk, rfl, cO8, cF8, _, rfl, rfl, _, rfl, iteNS (congrArg V.bl n1) ?_⟩
        refine ⟨_, rfl, _, rfl, fa, oa, fk, ok, rfl, cF8, cO8, _, rfl, rfl, _, rfl, iteNS (congrArg V.bl n2) ?_⟩
        -- the opposite
        refine ⟨_, rfl, fa, fk, rfl, cF8.at_, fun H9 r e9 hr1 hr2 => ?_⟩
        have cO9 := cO8.mono e9
        have cF9 := cF8.mono e9
        have cR9 : CirA K H9 r (opp fk) := ⟨SqT.of hr2, opp_valid vF, cF.sm.opp⟩
        refine ⟨_, rfl, _, rfl, oa, r, ok, opp fk, rfl, cO9, cR9, _, rfl, _, rfl, oa, r, ok, opp fk, rfl, cO9, cR9, trivial, fun H10 e10 => ⟨rfl, _, rfl, iteNS (congrArg V.bl n3) ?_⟩⟩
        have cO10 := cO9.mono e10
        have cF10 := cF9.mono e10
        have cR10 := cR9.mono e10
        refine ⟨_, rfl, _, rfl, r, oa, opp fk, ok, rfl, cR10, cO10, _, rfl, _, rfl, oa, r, ok, opp fk, rfl, cO10, cR10, trivial, fun H11 e11 => ⟨rfl, _, rfl, iteNS (congrArg V.bl n4) ?_⟩⟩
        have cO11 := cO10.mono e11
        have cF11 := cF10.mono e11
        have e7x := e7.trans (((e8.trans e9).trans e10).trans e11)
        -- the size
        refine ⟨_, rfl, oa, _, _, _, rfl, rfl, cO11.at_, at_of (j := 0) rfl rfl, _, rfl, fa, _, _, _, rfl, rfl, cF11.at_, at_of (j := 0) rfl rfl, _, _, rfl, rfl, ?_⟩
        refine ⟨_, rfl, _, rfl, ite2 (fun c1 => ?_) fun c1 => iteF ⟨_, _, _, _, _, _, _, _, rfl, e7x⟩⟩
        refine ⟨_, rfl, _, _, rfl, rfl, _, rfl, ite2 (fun c2 => ?_) fun c2 => ⟨_, _, _, _, _, _, _, _, rfl, e7x⟩⟩
        have hB : 0 < ok.b + fk.b := of_decide_eq_true c2
        have hd : dbl ok fk = -2 := by
          have z : tch ok fk = true := n1.trans c1
          unfold tch at z
          exact of_decide_eq_true (Bool.and_eq_true_iff.mp z).1
        obtain ⟨b0, b1, b2, b3, b4, b5, b6, b7⟩ := sO
        obtain ⟨d0, d1, d2, d3, d4, d5, d6, d7⟩ := sF
        -- the point
        refine ⟨_, rfl, oa, _, _, _, rfl, rfl, cO11.at_, at_of (j := 2) rfl rfl, _, rfl, fa, _, _, _, rfl, rfl, cF11.at_, at_of (j := 2) rfl rfl, _, _, rfl, rfl, _, rfl, by show 2 ≤ sizeLine; decide, fun p1 hp1 => ?_⟩
        have ep1 := Same.new (o := .tup [V.int (ok.x + fk.x), V.int (ok.b + fk.b)]) hp1
        have cO12 := cO11.mono ep1
        have cF12 := cF11.mono ep1
        refine ⟨_, rfl, oa, _, _, _, rfl, rfl, cO12.at_, at_of (j := 3) rfl rfl, _, rfl, fa, _, _, _, rfl, rfl, cF12.at_, at_of (j := 3) rfl rfl, _, _, rfl, rfl, _, rfl, by show 2 ≤ sizeLine; decide, fun p2 hp2 => ⟨by show 2 ≤ sizeLine; decide, fun p hp => ?_⟩⟩
        have ep2 := Same.new (o := .tup [V.int (ok.y + fk.y), V.int (ok.b + fk.b)]) hp2
        have ep := Same.new (o := .tup [V.ref p1, V.ref p2]) hp
        have cO13 := cO12.mono (ep2.trans ep)
        have cF13 := cF12.mono (ep2.trans ep)
        have e7p := e7x.trans ((ep1.trans ep2).trans ep)
        have pt0 := SqT.of (K := K) (upd_same (H := upd (upd H11 p1 (.tup [V.int (ok.x + fk.x), V.int (ok.b + fk.b)])) p2 (.tup [V.int (ok.y + fk.y), V.int (ok.b + fk.b)])) (a := p) (o := .tup [V.ref p1, V.ref p2]))
        have pt1 := SqT.of (K := K) (ep _ _ (ep2 _ _ (upd_same (H := H11) (a := p1) (o := .tup [V.int (ok.x + fk.x), V.int (ok.b + fk.b)]))))
        have pt2 := SqT.of (K := K) (ep _ _ (upd_same (H := upd H11 p1 (.tup [V.int (ok.x + fk.x), V.int (ok.b + fk.b)])) (a := p2) (o := .tup [V.int (ok.y + fk.y), V.int (ok.b + fk.b)])))
        have hpt : PtA K _ p (ok.x + fk.x) (ok.b + fk.b) (ok.y + fk.y) (ok.b + fk.b) := ⟨⟨p1, p2, pt0, pt1, pt2⟩, by omega, by omega, by omega, by omega, by omega, by omega, by omega, by omega⟩
        obtain ⟨s1, s2⟩ := L5 vO vF hd
        refine ⟨_, rfl, _, rfl, _, rfl, oa, fa, p, ok, fk, _, _, _, _, rfl, cO13, cF13, hpt, fun H14 o e14 ho1 ho2 => ⟨by show 2 ≤ sizeLine; decide, fun z hz => ?_⟩⟩
        have ez := Same.new (o := .lst [V.int 0, V.int 0]) hz
        refine ⟨_, _, dp_l2 (SqL.of (ez _ _ ho2)), dp_l2 (SqL.of upd_same), shl2 _ _, shl2 _ _, _, rfl, ?_⟩
        rw [eqv_l2, s1, s2]
        refine iteF ?_
        have e15 := e14.trans ez
        have cO15 := cO13.mono e15
        have cF15 := cF13.mono e15
        have pt0' := Same.tup e15 pt0
        have pt1' := Same.tup e15 pt1
        have pt2' := Same.tup e15 pt2
        have e7q := e7p.trans e15
        generalize upd H14 z (.lst [V.int 0, V.int 0]) = H15 at cO15 cF15 pt0' pt1' pt2' e7q ⊢
        -- the steps
        have two : 2 ≤ sizeLine := by decide
        refine ⟨two, fun t1 h1 => ⟨two, fun t2 h2 => ⟨_, rfl, two, fun t3 h3 => ⟨_, rfl, two, fun t4 h4 => ⟨two, fun t5 h5 => ⟨_, rfl, two, fun t6 h6 => ⟨by show 6 ≤ sizeLine; decide, fun tl htl => ?_⟩⟩⟩⟩⟩⟩⟩
        have f1 := Same.new (o := .tup [V.int 1, V.int 0]) h1
        have f2 := Same.new (o := .tup [V.int 0, V.int 1]) h2
        have f3 := Same.new (o := .tup [V.int (-1), V.int 0]) h3
        have f4' := Same.new (o := .tup [V.int 0, V.int (-1)]) h4
        have f5 := Same.new (o := .tup [V.int 1, V.int 1]) h5
        have f6 := Same.new (o := .tup [V.int (-3), V.int 2]) h6
        have f7 := Same.new (o := .lst [V.ref t1, V.ref t2, V.ref t3, V.ref t4, V.ref t5, V.ref t6]) htl
        have st : ∀ {i : Nat} {x : V}, ([.ref t1, .ref t2, .ref t3, .ref t4, .ref t5, .ref t6] : List V)[i]? = some x → _ := fun {i x} hx =>
          step_at (K := K) (SqT.of (f7 _ _ (f6 _ _ (f5 _ _ (f4' _ _ (f3 _ _ (f2 _ _ upd_same))))))) (SqT.of (f7 _ _ (f6 _ _ (f5 _ _ (f4' _ _ (f3 _ _ upd_same)))))) (SqT.of (f7 _ _ (f6 _ _ (f5 _ _ (f4' _ _ upd_same))))) (SqT.of (f7 _ _ (f6 _ _ (f5 _ _ upd_same)))) (SqT.of (f7 _ _ (f6 _ _ upd_same))) (SqT.of (f7 _ _ upd_same)) hx
        have e16 := (((((f1.trans f2).trans f3).trans f4').trans f5).trans f6).trans f7
        have hlst := SqL.of (K := K) (upd_same (a := tl) (o := .lst [V.ref t1, V.ref t2, V.ref t3, V.ref t4, V.ref t5, V.ref t6]) (H := upd (upd (upd (upd (upd (upd H15 t1 (.tup [V.int 1, V.int 0])) t2 (.tup [V.int 0, V.int 1])) t3 (.tup [V.int (-1), V.int 0])) t4 (.tup [V.int 0, V.int (-1)])) t5 (.tup [V.int 1, V.int 1])) t6 (.tup [V.int (-3), V.int 2])))
        generalize hH16 : upd (upd (upd (upd (upd (upd (upd H15 t1 (.tup [V.int 1, V.int 0])) t2 (.tup [V.int 0, V.int 1])) t3 (.tup [V.int (-1), V.int 0])) t4 (.tup [V.int 0, V.int (-1)])) t5 (.tup [V.int 1, V.int 1])) t6 (.tup [V.int (-3), V.int 2])) tl (.lst [V.ref t1, V.ref t2, V.ref t3, V.ref t4, V.ref t5, V.ref t6]) = H16 at st e16 hlst
        refine ⟨tl, rfl, ⟨_, hlst⟩, for_list (K := K) (a := tl) (xs := [V.ref t1, V.ref t2, V.ref t3, V.ref t4, V.ref t5, V.ref t6]) (fun i σ H' => ∃ v12 v13 : Option V, σ = [some (.ref a), some (.ref ln), some (.ref cl), some (.ref x), some (.int (0 + ((k : Nat) : Int))), some (.ref fl), some (.ref fa), some (.ref oa), some (.bl (meets ok fk)), some (.ref r), some (.int (ok.b + fk.b)), some (.ref p), v12, v13] ∧ Same H16 H')
          ⟨w12, w13, rfl, Same.refl _⟩ (fun i σ H' _ ⟨_, _, _, e⟩ => e.seq hlst) ?_ ?_⟩
        · rintro i y σ H17 hi ⟨v12, v13, rfl, e17⟩
          obtain ⟨t, da, db, rfl, ht, ⟨da0, da1⟩, ⟨db0, db1⟩⟩ := st hi
          have e18 := e16.trans e17
          have S0 := Same.tup e18 pt0'
          have S1 := Same.tup e18 pt1'
          have S2 := Same.tup e18 pt2'
          have St := Same.tup e17 ht
          refine ⟨_, rfl, p, _, _, _, rfl, rfl, S0, at_of (j := 0) rfl rfl, p1, _, _, _, rfl, rfl, S1, at_of (j := 0) rfl rfl, _, _, rfl, rfl, .inl ⟨by decide, by decide⟩, _, rfl, t, _, _, _, rfl, rfl, St, at_of (j := 0) rfl rfl, _, _, rfl, rfl, _, rfl, _, _, rfl, rfl, .inl ⟨by decide, by decide⟩, two, fun m1 hm1 => ?_⟩
          have g1 := Same.new (o := .tup [V.int (9 * (ok.x + fk.x) + da), V.int (9 * (ok.b + fk.b))]) hm1
          refine ⟨_, rfl, p, _, _, _, rfl, rfl, Same.tup g1 S0, at_of (j := 1) rfl rfl, p2, _, _, _, rfl, rfl, Same.tup g1 S2, at_of (j := 0) rfl rfl, _, _, rfl, rfl, .inl ⟨by decide, by decide⟩, _, rfl, t, _, _, _, rfl, rfl, Same.tup g1 St, at_of (j := 1) rfl rfl, _, _, rfl, rfl, _, rfl, _, _, rfl, rfl, .inl ⟨by decide, by decide⟩, two, fun m2 hm2 => ⟨two, fun m hm => ?_⟩⟩
          have g2 := Same.new (o := .tup [V.int (9 * (ok.y + fk.y) + db), V.int (9 * (ok.b + fk.b))]) hm2
          have g3 := Same.new (o := .tup [V.ref m1, V.ref m2]) hm
          have e19 := e18.trans ((g1.trans g2).trans g3)
          have hnear : PtA K _ m (9 * (ok.x + fk.x) + da) (9 * (ok.b + fk.b)) (9 * (ok.y + fk.y) + db) (9 * (ok.b + fk.b)) :=
            ⟨⟨m1, m2, SqT.of upd_same, SqT.of (g3 _ _ (g2 _ _ upd_same)), SqT.of (g3 _ _ upd_same)⟩, by omega, by omega, by omega, by omega, by omega, by omega, by omega, by omega⟩
          refine ⟨_, rfl, _, rfl, _, rfl, oa, fa, m, ok, fk, _, _, _, _, rfl, cO15.mono e19, cF15.mono e19, hnear, fun H20 o2 e20 hp1 hp2 => ⟨two, fun z2 hz2 => ?_⟩⟩
          have ez2 := Same.new (o := .lst [V.int 1, V.int 1]) hz2
          refine ⟨_, _, dp_l2 (SqL.of (ez2 _ _ hp2)), dp_l2 (SqL.of upd_same), shl2 _ _, shl2 _ _, _, rfl, ?_⟩
          rw [eqv_l2, decide_eq_false (L6 vO vF hd hB (9 * (ok.x + fk.x) + da) (9 * (ok.y + fk.y) + db) (q := 9 * (ok.b + fk.b)))]
          exact iteF ⟨_, _, rfl, ((e17.trans ((g1.trans g2).trans g3)).trans e20).trans ez2⟩
        · rintro σ H17 ⟨v12, v13, rfl, e17⟩
          exact ⟨_, _, _, _, _, _, _, _, rfl, e7q.trans (e16.trans e17)⟩
      · rintro σ H7 ⟨w6, w7, w8, w9, w10, w11, w12, w13, rfl, e7⟩
        exact ⟨_, _, _, _, _, _, _, _, _, rfl, e6.trans (es.trans e7)⟩
    · rintro σ H6 ⟨v4, v6, v7, v8, v9, v10, v11, v12, v13, rfl, e6⟩
      exact q H6
end
end FtW

namespace FtW
open PySem PySem.Spec PyProof.Rows L2 FtR Ft
/-! ### what the top has written -/
theorem all_mk {l : PySem.W.OpenLaw} {w : World} {K : PySem.W.Frag} {h : Heap} {mg : Str → Option Value} {fa C N f1 f2 f3 f4 f5 f6 f7 f8 f9 f10 f11 f12 f13 f14 f15 f16 f17 f18 f19 f20 f21 f22 : Addr} (X : K.In h) (G : h.Ns mainGlobals mg) (hfa : mg "law" = some (.ref fa))
    {odN od1 an1 od2 an2 od3 an3 od4 an4 od5 an5 od6 an6 od7 an7 od8 an8 od9 an9 od10 an10 od11 an11 od12 an12 od13 an13 od14 an14 od15 an15 od16 an16 od17 an17 od18 an18 od19 an19 od20 an20 od21 an21 od22 an22 : Option Addr} {slN sl1 sl2 sl3 sl4 sl5 sl6 sl7 sl8 sl9 sl10 sl11 sl12 sl13 sl14 sl15 sl16 sl17 sl18 sl19 sl20 sl21 sl22 : Array (Option Value)} {nN : Nat} {tN1 tN2 tN3 tN4 : Tok} {oc1 kV1 dc1 pm1 cd1 ct1 oc2 kV2 dc2 pm2 cd2 ct2 oc3 kV3 dc3 pm3 cd3 ct3 oc4 kV4 dc4 pm4 cd4 ct4 oc5 kV5 dc5 pm5 cd5 ct5 oc6 kV6 dc6 pm6 cd6 ct6 oc7 kV7 dc7 pm7 cd7 ct7 oc8 kV8 dc8 pm8 cd8 ct8 oc9 kV9 dc9 pm9 cd9 ct9 oc10 kV10 dc10 pm10 cd10 ct10 oc11 kV11 dc11 pm11 cd11 ct11 oc12 kV12 dc12 pm12 cd12 ct12 oc13 kV13 dc13 pm13 cd13 ct13 oc14 kV14 dc14 pm14 cd14 ct14 oc15 kV15 dc15 pm15 cd15 ct15 oc16 kV16 dc16 pm16 cd16 ct16 oc17 kV17 dc17 pm17 cd17 ct17 oc18 kV18 dc18 pm18 cd18 ct18 oc19 kV19 dc19 pm19 cd19 ct19 oc20 kV20 dc20 pm20 cd20 ct20 oc21 kV21 dc21 pm21 cd21 ct21 oc22 kV22 dc22 pm22 cd22 ct22 : Value}
    (aC : PySem.W.nsIn K mainGlobals "Four" = some (some (.ref C)))
    (aN : PySem.W.nsIn K mainGlobals "NUMBERS" = some (some (.ref N)))
    (lN : K.lookup N = some ⟨.type "tuple", odN, .seq #[.int 1 tN1, .int 2 tN2, .int 3 tN3, .int 4 tN4] nN, slN⟩)
    (a1 : PySem.W.nsIn K mainGlobals "is_circle" = some (some (.ref f1)))
    (l1 : K.lookup f1 = some ⟨oc1, od1, .func (PySem.W.fnOf "is_circle" "is_circle" (defArgs sIsC) (defBody sIsC) (defScope sIsC) .none kV1 dc1 pm1 an1 cd1 ct1), sl1⟩)
    (c1 : PySem.W.codeIn K cd1 "is_circle" = true)
    (k1 : PySem.W.keepIn K (.ref f1) = true)
    (a2 : PySem.W.nsIn K mainGlobals "check_circle" = some (some (.ref f2)))
    (l2 : K.lookup f2 = some ⟨oc2, od2, .func (PySem.W.fnOf "check_circle" "check_circle" (defArgs sChk) (defBody sChk) (defScope sChk) .none kV2 dc2 pm2 an2 cd2 ct2), sl2⟩)
    (c2 : PySem.W.codeIn K cd2 "check_circle" = true)
    (k2 : PySem.W.keepIn K (.ref f2) = true)
    (a3 : PySem.W.nsIn K mainGlobals "double" = some (some (.ref f3)))
    (l3 : K.lookup f3 = some ⟨oc3, od3, .func (PySem.W.fnOf "double" "double" (defArgs sDbl) (defBody sDbl) (defScope sDbl) .none kV3 dc3 pm3 an3 cd3 ct3), sl3⟩)
    (c3 : PySem.W.codeIn K cd3 "double" = true)
    (k3 : PySem.W.keepIn K (.ref f3) = true)
    (a4 : PySem.W.nsIn K mainGlobals "are_outward" = some (some (.ref f4)))
    (l4 : K.lookup f4 = some ⟨oc4, od4, .func (PySem.W.fnOf "are_outward" "are_outward" (defArgs sOut) (defBody sOut) (defScope sOut) .none kV4 dc4 pm4 an4 cd4 ct4), sl4⟩)
    (c4 : PySem.W.codeIn K cd4 "are_outward" = true)
    (k4 : PySem.W.keepIn K (.ref f4) = true)
    (a5 : PySem.W.nsIn K mainGlobals "touch" = some (some (.ref f5)))
    (l5 : K.lookup f5 = some ⟨oc5, od5, .func (PySem.W.fnOf "touch" "touch" (defArgs sTch) (defBody sTch) (defScope sTch) .none kV5 dc5 pm5 an5 cd5 ct5), sl5⟩)
    (c5 : PySem.W.codeIn K cd5 "touch" = true)
    (k5 : PySem.W.keepIn K (.ref f5) = true)
    (a6 : PySem.W.nsIn K mainGlobals "side" = some (some (.ref f6)))
    (l6 : K.lookup f6 = some ⟨oc6, od6, .func (PySem.W.fnOf "side" "side" (defArgs sSide) (defBody sSide) (defScope sSide) .none kV6 dc6 pm6 an6 cd6 ct6), sl6⟩)
    (c6 : PySem.W.codeIn K cd6 "side" = true)
    (k6 : PySem.W.keepIn K (.ref f6) = true)
    (a7 : PySem.W.nsIn K mainGlobals "check_number" = some (some (.ref f7)))
    (l7 : K.lookup f7 = some ⟨oc7, od7, .func (PySem.W.fnOf "check_number" "check_number" (defArgs sNum) (defBody sNum) (defScope sNum) .none kV7 dc7 pm7 an7 cd7 ct7), sl7⟩)
    (c7 : PySem.W.codeIn K cd7 "check_number" = true)
    (k7 : PySem.W.keepIn K (.ref f7) = true)
    (a8 : PySem.W.nsIn K mainGlobals "_law_row" = some (some (.ref f8)))
    (l8 : K.lookup f8 = some ⟨oc8, od8, .func (PySem.W.fnOf "_law_row" "_law_row" (defArgs sRow) (defBody sRow) (defScope sRow) .none kV8 dc8 pm8 an8 cd8 ct8), sl8⟩)
    (c8 : PySem.W.codeIn K cd8 "_law_row" = true)
    (k8 : PySem.W.keepIn K (.ref f8) = true)
    (a9 : PySem.W.nsIn K mainGlobals "_law_numbers" = some (some (.ref f9)))
    (l9 : K.lookup f9 = some ⟨oc9, od9, .func (PySem.W.fnOf "_law_numbers" "_law_numbers" (defArgs sNums) (defBody sNums) (defScope sNums) .none kV9 dc9 pm9 an9 cd9 ct9), sl9⟩)
    (c9 : PySem.W.codeIn K cd9 "_law_numbers" = true)
    (k9 : PySem.W.keepIn K (.ref f9) = true)
    (a10 : PySem.W.nsIn K mainGlobals "_law_given" = some (some (.ref f10)))
    (l10 : K.lookup f10 = some ⟨oc10, od10, .func (PySem.W.fnOf "_law_given" "_law_given" (defArgs sGiven) (defBody sGiven) (defScope sGiven) .none kV10 dc10 pm10 an10 cd10 ct10), sl10⟩)
    (c10 : PySem.W.codeIn K cd10 "_law_given" = true)
    (k10 : PySem.W.keepIn K (.ref f10) = true)
    (a11 : PySem.W.nsIn K mainGlobals "_law_moved" = some (some (.ref f11)))
    (l11 : K.lookup f11 = some ⟨oc11, od11, .func (PySem.W.fnOf "_law_moved" "_law_moved" (defArgs sMoved) (defBody sMoved) (defScope sMoved) .none kV11 dc11 pm11 an11 cd11 ct11), sl11⟩)
    (c11 : PySem.W.codeIn K cd11 "_law_moved" = true)
    (k11 : PySem.W.keepIn K (.ref f11) = true)
    (a12 : PySem.W.nsIn K mainGlobals "_law_laid" = some (some (.ref f12)))
    (l12 : K.lookup f12 = some ⟨oc12, od12, .func (PySem.W.fnOf "_law_laid" "_law_laid" (defArgs sLaid) (defBody sLaid) (defScope sLaid) .none kV12 dc12 pm12 an12 cd12 ct12), sl12⟩)
    (c12 : PySem.W.codeIn K cd12 "_law_laid" = true)
    (k12 : PySem.W.keepIn K (.ref f12) = true)
    (a13 : PySem.W.nsIn K mainGlobals "_law_other" = some (some (.ref f13)))
    (l13 : K.lookup f13 = some ⟨oc13, od13, .func (PySem.W.fnOf "_law_other" "_law_other" (defArgs sOth) (defBody sOth) (defScope sOth) .none kV13 dc13 pm13 an13 cd13 ct13), sl13⟩)
    (c13 : PySem.W.codeIn K cd13 "_law_other" = true)
    (k13 : PySem.W.keepIn K (.ref f13) = true)
    (a14 : PySem.W.nsIn K mainGlobals "_law_fallen" = some (some (.ref f14)))
    (l14 : K.lookup f14 = some ⟨oc14, od14, .func (PySem.W.fnOf "_law_fallen" "_law_fallen" (defArgs sFall) (defBody sFall) (defScope sFall) .none kV14 dc14 pm14 an14 cd14 ct14), sl14⟩)
    (c14 : PySem.W.codeIn K cd14 "_law_fallen" = true)
    (k14 : PySem.W.keepIn K (.ref f14) = true)
    (a15 : PySem.W.nsIn K mainGlobals "_law_four" = some (some (.ref f15)))
    (l15 : K.lookup f15 = some ⟨oc15, od15, .func (PySem.W.fnOf "_law_four" "_law_four" (defArgs sFour) (defBody sFour) (defScope sFour) .none kV15 dc15 pm15 an15 cd15 ct15), sl15⟩)
    (c15 : PySem.W.codeIn K cd15 "_law_four" = true)
    (k15 : PySem.W.keepIn K (.ref f15) = true)
    (a16 : PySem.W.nsIn K mainGlobals "_law_opposite" = some (some (.ref f16)))
    (l16 : K.lookup f16 = some ⟨oc16, od16, .func (PySem.W.fnOf "_law_opposite" "_law_opposite" (defArgs sOpp) (defBody sOpp) (defScope sOpp) .none kV16 dc16 pm16 an16 cd16 ct16), sl16⟩)
    (c16 : PySem.W.codeIn K cd16 "_law_opposite" = true)
    (k16 : PySem.W.keepIn K (.ref f16) = true)
    (a17 : PySem.W.nsIn K mainGlobals "_law_meets" = some (some (.ref f17)))
    (l17 : K.lookup f17 = some ⟨oc17, od17, .func (PySem.W.fnOf "_law_meets" "_law_meets" (defArgs sMeets) (defBody sMeets) (defScope sMeets) .none kV17 dc17 pm17 an17 cd17 ct17), sl17⟩)
    (c17 : PySem.W.codeIn K cd17 "_law_meets" = true)
    (k17 : PySem.W.keepIn K (.ref f17) = true)
    (a18 : PySem.W.nsIn K mainGlobals "_law_insides" = some (some (.ref f18)))
    (l18 : K.lookup f18 = some ⟨oc18, od18, .func (PySem.W.fnOf "_law_insides" "_law_insides" (defArgs sIns) (defBody sIns) (defScope sIns) .none kV18 dc18 pm18 an18 cd18 ct18), sl18⟩)
    (c18 : PySem.W.codeIn K cd18 "_law_insides" = true)
    (k18 : PySem.W.keepIn K (.ref f18) = true)
    (a19 : PySem.W.nsIn K mainGlobals "law" = some (some (.ref f19)))
    (l19 : K.lookup f19 = some ⟨oc19, od19, .func (PySem.W.fnOf "law" "law" (defArgs sLaw) (defBody sLaw) (defScope sLaw) .none kV19 dc19 pm19 an19 cd19 ct19), sl19⟩)
    (c19 : PySem.W.codeIn K cd19 "law" = true)
    (k19 : PySem.W.keepIn K (.ref f19) = true)
    (a20 : PySem.W.findIn K (.ref C) "__init__" = some (some (.ref f20)))
    (i20 : PySem.W.isFn K (.ref f20) = true)
    (l20 : K.lookup f20 = some ⟨oc20, od20, .func (PySem.W.fnOf "__init__" "Four.__init__" (defArgs sInit) (defBody sInit) (defScope sInit) .none kV20 dc20 pm20 an20 cd20 ct20), sl20⟩)
    (c20 : PySem.W.codeIn K cd20 "Four.__init__" = true)
    (k20 : PySem.W.keepIn K (.ref f20) = true)
    (a21 : PySem.W.findIn K (.ref C) "circle" = some (some (.ref f21)))
    (i21 : PySem.W.isFn K (.ref f21) = true)
    (l21 : K.lookup f21 = some ⟨oc21, od21, .func (PySem.W.fnOf "circle" "Four.circle" (defArgs sCirc) (defBody sCirc) (defScope sCirc) .none kV21 dc21 pm21 an21 cd21 ct21), sl21⟩)
    (c21 : PySem.W.codeIn K cd21 "Four.circle" = true)
    (k21 : PySem.W.keepIn K (.ref f21) = true)
    (a22 : PySem.W.findIn K (.ref C) "other" = some (some (.ref f22)))
    (i22 : PySem.W.isFn K (.ref f22) = true)
    (l22 : K.lookup f22 = some ⟨oc22, od22, .func (PySem.W.fnOf "other" "Four.other" (defArgs sOther) (defBody sOther) (defScope sOther) .none kV22 dc22 pm22 an22 cd22 ct22), sl22⟩)
    (c22 : PySem.W.codeIn K cd22 "Four.other" = true)
    (k22 : PySem.W.keepIn K (.ref f22) = true)
    (pgC : PySem.W.plainGet K C Str.empty = true)
    (hdC : PySem.W.hasDictIn K C = true)
    (poC : PySem.W.plainOver K C = true)
    (saC : PySem.W.findIn K (.ref C) "__setattr__" = some (some (.builtin "object.__setattr__")))
    (mkC : PySem.W.makesIn K C = true)
    (kcC : PySem.W.keepIn K (.ref C) = true)
    (nCi : PySem.W.findIn K (.ref C) "circles" = some none)
    (z_len : PySem.W.nsIn K mainGlobals "len" = some none)
    (z_range : PySem.W.nsIn K mainGlobals "range" = some none)
    (z_tuple : PySem.W.nsIn K mainGlobals "tuple" = some none)
    (z_list : PySem.W.nsIn K mainGlobals "list" = some none)
    (z_enumerate : PySem.W.nsIn K mainGlobals "enumerate" = some none)
    (z_all : PySem.W.nsIn K mainGlobals "all" = some none)
    (z_sum : PySem.W.nsIn K mainGlobals "sum" = some none)
    (z_zip : PySem.W.nsIn K mainGlobals "zip" = some none)
    (z_abs : PySem.W.nsIn K mainGlobals "abs" = some none)
    (z_int : PySem.W.nsIn K mainGlobals "int" = some none)
    (z_max : PySem.W.nsIn K mainGlobals "max" = some none)
    : ∃ fd : FuncData, (∀ (s : Shared) (v : Value), BindsTo s fd ⟨[v], []⟩ [("_law_script", v)]) ∧ ∀ base : Heap, K.In base → base.Ns mainGlobals mg → FnOk l.prog w K mg base CX0 7 fa fd ["_law_script"] (spLaw K) := by
  have e := hfa.symm.trans (PySem.W.mg_of X G a19)
  cases e
  have TF : TxF K mg C := ⟨⟨pgC, hdC, poC, saC⟩, nCi, PySem.W.mg_of X G aC, N, PySem.W.mg_of X G aN, fun H => .inr ⟨_, _, _, lN, rfl, rfl, (by show 4 ≤ sizeLine; decide), .cons ⟨_, rfl⟩ (.cons ⟨_, rfl⟩ (.cons ⟨_, rfl⟩ (.cons ⟨_, rfl⟩ .nil)))⟩⟩
  have T : Txt mg := ⟨PySem.W.mg_none_of X G z_len, PySem.W.mg_none_of X G z_range, PySem.W.mg_none_of X G z_tuple, PySem.W.mg_none_of X G z_list, PySem.W.mg_none_of X G z_enumerate, PySem.W.mg_none_of X G z_all, PySem.W.mg_none_of X G z_sum, PySem.W.mg_none_of X G z_zip, PySem.W.mg_none_of X G z_abs, PySem.W.mg_none_of X G z_int, PySem.W.mg_none_of X G z_max⟩
  have F1 := fun_mk (st := sIsC) l1 c1 k1
  have b1 := F1.binds (ps := ["circle"]) fun _ _ _ _ _ _ us hl => match us, hl with | [_], _ => rfl
  have F2 := fun_mk (st := sChk) l2 c2 k2
  have b2 := F2.binds (ps := ["circle"]) fun _ _ _ _ _ _ us hl => match us, hl with | [_], _ => rfl
  have F3 := fun_mk (st := sDbl) l3 c3 k3
  have b3 := F3.binds (ps := ["one", "other"]) fun _ _ _ _ _ _ us hl => match us, hl with | [_, _], _ => rfl
  have F4 := fun_mk (st := sOut) l4 c4 k4
  have b4 := F4.binds (ps := ["one", "other"]) fun _ _ _ _ _ _ us hl => match us, hl with | [_, _], _ => rfl
  have F5 := fun_mk (st := sTch) l5 c5 k5
  have b5 := F5.binds (ps := ["one", "other"]) fun _ _ _ _ _ _ us hl => match us, hl with | [_, _], _ => rfl
  have F6 := fun_mk (st := sSide) l6 c6 k6
  have b6 := F6.binds (ps := ["circle", "point"]) fun _ _ _ _ _ _ us hl => match us, hl with | [_, _], _ => rfl
  have F7 := fun_mk (st := sNum) l7 c7 k7
  have b7 := F7.binds (ps := ["number"]) fun _ _ _ _ _ _ us hl => match us, hl with | [_], _ => rfl
  have F8 := fun_mk (st := sRow) l8 c8 k8
  have b8 := F8.binds (ps := ["_law_cell", "_law_many"]) fun _ _ _ _ _ _ us hl => match us, hl with | [_, _], _ => rfl
  have F9 := fun_mk (st := sNums) l9 c9 k9
  have b9 := F9.binds (ps := ["_law_script", "_law_many"]) fun _ _ _ _ _ _ us hl => match us, hl with | [_, _], _ => rfl
  have F10 := fun_mk (st := sGiven) l10 c10 k10
  have b10 := F10.binds (ps := ["_law_number"]) fun _ _ _ _ _ _ us hl => match us, hl with | [_], _ => rfl
  have F11 := fun_mk (st := sMoved) l11 c11 k11
  have b11 := F11.binds (ps := ["_law_circle", "_law_s", "_law_t"]) fun _ _ _ _ _ _ us hl => match us, hl with | [_, _, _], _ => rfl
  have F12 := fun_mk (st := sLaid) l12 c12 k12
  have b12 := F12.binds (ps := ["_law_numbers_here", "_law_at", "_law_circle"]) fun _ _ _ _ _ _ us hl => match us, hl with | [_, _, _], _ => rfl
  have F13 := fun_mk (st := sOth) l13 c13 k13
  have b13 := F13.binds (ps := ["_law_circles", "_law_k"]) fun _ _ _ _ _ _ us hl => match us, hl with | [_, _], _ => rfl
  have F14 := fun_mk (st := sFall) l14 c14 k14
  have b14 := F14.binds (ps := ["_law_circles", "_law_word"]) fun _ _ _ _ _ _ us hl => match us, hl with | [_, _], _ => rfl
  have F15 := fun_mk (st := sFour) l15 c15 k15
  have b15 := F15.binds (ps := ["_law_numbers_here", "_law_at"]) fun _ _ _ _ _ _ us hl => match us, hl with | [_, _], _ => rfl
  have F16 := fun_mk (st := sOpp) l16 c16 k16
  have b16 := F16.binds (ps := ["_law_circle"]) fun _ _ _ _ _ _ us hl => match us, hl with | [_], _ => rfl
  have F17 := fun_mk (st := sMeets) l17 c17 k17
  have b17 := F17.binds (ps := ["_law_one", "_law_other_here"]) fun _ _ _ _ _ _ us hl => match us, hl with | [_, _], _ => rfl
  have F18 := fun_mk (st := sIns) l18 c18 k18
  have b18 := F18.binds (ps := ["_law_one", "_law_other_here", "_law_point"]) fun _ _ _ _ _ _ us hl => match us, hl with | [_, _, _], _ => rfl
  have F19 := fun_mk (st := sLaw) l19 c19 k19
  have b19 := F19.binds (ps := ["_law_script"]) fun _ _ _ _ _ _ us hl => match us, hl with | [_], _ => rfl
  have F20 := fun_mk (st := sInit) l20 c20 k20
  have b20 := F20.binds (ps := ["self", "circles"]) fun _ _ _ _ _ _ us hl => match us, hl with | [_, _], _ => rfl
  have F21 := fun_mk (st := sCirc) l21 c21 k21
  have b21 := F21.binds (ps := ["self", "number"]) fun _ _ _ _ _ _ us hl => match us, hl with | [_, _], _ => rfl
  have F22 := fun_mk (st := sOther) l22 c22 k22
  have b22 := F22.binds (ps := ["self", "number"]) fun _ _ _ _ _ _ us hl => match us, hl with | [_, _], _ => rfl
  refine ⟨PySem.W.fnOf "law" "law" (defArgs sLaw) (defBody sLaw) (defScope sLaw) .none kV19 dc19 pm19 an19 cd19 ct19, fun s v => .of_eq rfl, fun base _ _ => ?_⟩
  have dIsC := df_mk (P := l.prog) (w := w) (base := base) F1 (PySem.W.mg_of X G a1) b1 (ok_isC F1 T)
  have dChk := df_mk (P := l.prog) (w := w) (base := base) F2 (PySem.W.mg_of X G a2) b2 (ok_chk F2 dIsC)
  have dDbl := df_mk (P := l.prog) (w := w) (base := base) F3 (PySem.W.mg_of X G a3) b3 (ok_dbl F3 dChk)
  have dOut := df_mk (P := l.prog) (w := w) (base := base) F4 (PySem.W.mg_of X G a4) b4 (ok_out F4)
  have dTch := df_mk (P := l.prog) (w := w) (base := base) F5 (PySem.W.mg_of X G a5) b5 (ok_tch F5 dDbl dOut)
  have dSide := df_mk (P := l.prog) (w := w) (base := base) F6 (PySem.W.mg_of X G a6) b6 (ok_side F6 dChk)
  have dNum := df_mk (P := l.prog) (w := w) (base := base) F7 (PySem.W.mg_of X G a7) b7 (ok_num F7 TF)
  have dRow := df_mk (P := l.prog) (w := w) (base := base) F8 (PySem.W.mg_of X G a8) b8 (ok_row F8 T)
  have dNums := df_mk (P := l.prog) (w := w) (base := base) F9 (PySem.W.mg_of X G a9) b9 (ok_nums F9 T dRow)
  have dGiven := df_mk (P := l.prog) (w := w) (base := base) F10 (PySem.W.mg_of X G a10) b10 (ok_given F10 T)
  have dMoved := df_mk (P := l.prog) (w := w) (base := base) F11 (PySem.W.mg_of X G a11) b11 (ok_moved F11)
  have dLaid := df_mk (P := l.prog) (w := w) (base := base) F12 (PySem.W.mg_of X G a12) b12 (ok_laid F12 T dMoved)
  have dOth := df_mk (P := l.prog) (w := w) (base := base) F13 (PySem.W.mg_of X G a13) b13 (ok_oth F13 T)
  have dFall := df_mk (P := l.prog) (w := w) (base := base) F14 (PySem.W.mg_of X G a14) b14 (ok_fall F14 T dOth)
  have dFour := df_mk (P := l.prog) (w := w) (base := base) F15 (PySem.W.mg_of X G a15) b15 (ok_four F15 T dGiven dLaid dFall)
  have dOpp := df_mk (P := l.prog) (w := w) (base := base) F16 (PySem.W.mg_of X G a16) b16 (ok_opp F16 T)
  have dMeets := df_mk (P := l.prog) (w := w) (base := base) F17 (PySem.W.mg_of X G a17) b17 (ok_meets F17 (PySem.W.mg_of X G a17) b17)
  have dIns := df_mk (P := l.prog) (w := w) (base := base) F18 (PySem.W.mg_of X G a18) b18 (ok_ins F18 dSide)
  have gCirc := ok_circ (P := l.prog) (w := w) (base := base) F21 TF dNum
  have gOther := ok_other (P := l.prog) (w := w) (base := base) F22 TF T gCirc b21 ⟨a21, i21, k21⟩
  have gInit := ok_init (P := l.prog) (w := w) (base := base) F20 TF T dChk dTch
  exact ok_law F19 TF T ⟨mkC, a20, i20, kcC⟩ gInit b20 ⟨a22, i22, k22⟩ gOther b22 dNums dFour dMeets dTch dOpp dIns
theorem walk {l : PySem.W.OpenLaw} {q : Program} {loose : List Str} {XP : (Str → Option Value) → Heap → Prop} {YP : World → Heap → Prop} {d : DefRec} {K : Params → PySem.W.Frag} (hn : l.most = some 63) (hdf : d.params.defaults = [])
    (hY : ∀ (w : World) (h : Heap), YP w h → (K w.params).In h)
    (F : ∀ (w : World) (mg : Str → Option Value) (fa : Addr) (h : Heap), (K w.params).In h → h.Ns mainGlobals mg → mg d.name = some (.ref fa) →
      ∃ fd : FuncData, (∀ (s : Shared) (u : Value), BindsTo s fd ⟨[u], []⟩ [("_law_script", u)]) ∧ ∀ base : Heap, (K w.params).In base → base.Ns mainGlobals mg → FnOk l.prog w (K w.params) mg base CX0 7 fa fd ["_law_script"] (spLaw (K w.params))) :
    PySem.W.WalkO q loose XP YP l.row.toRowW d [] (fun f vs => PySem.call f vs) :=
  L2.walk_of (n := 63) (k := 7) (x := "_law_script") (CX := fun _ => CX0) (sp := fun w => spLaw (K w.params)) hn (by decide) hdf ⟨rfl, by decide, by decide⟩ hY F (fun _ _ a ns hl _ hS => ⟨a, ns, rfl, hS, hl, fun _ => rfl⟩) fun _ _ _ _ _ z => z
end FtW
open PySem PySem.W PyProof.Rows
set_option maxRecDepth 100000 in
set_option maxHeartbeats 0 in
open_top fthead for PySem.Challenge.rw_fourtouch_k10_whole_touching_in_the_plan
set_option maxRecDepth 100000 in
set_option maxHeartbeats 0 in
theorem PySem.Challenge.cw_fourtouch_k10_whole_touching_in_the_plan_holds : PySem.Challenge.rw_fourtouch_k10_whole_touching_in_the_plan.Holds :=
  fthead (by
    k_fill
    refine FtW.walk (l := PySem.Challenge.rw_fourtouch_k10_whole_touching_in_the_plan) rfl rfl (fun w h Y => PySem.W.kIn_of Y) ?F
    case F =>
      intro w mg fa h KX G hmg
      refine' FtW.all_mk KX G hmg ?aC ?aN ?lN ?a1 ?l1 ?c1 ?k1 ?a2 ?l2 ?c2 ?k2 ?a3 ?l3 ?c3 ?k3 ?a4 ?l4 ?c4 ?k4 ?a5 ?l5 ?c5 ?k5 ?a6 ?l6 ?c6 ?k6 ?a7 ?l7 ?c7 ?k7 ?a8 ?l8 ?c8 ?k8 ?a9 ?l9 ?c9 ?k9 ?a10 ?l10 ?c10 ?k10 ?a11 ?l11 ?c11 ?k11 ?a12 ?l12 ?c12 ?k12 ?a13 ?l13 ?c13 ?k13 ?a14 ?l14 ?c14 ?k14 ?a15 ?l15 ?c15 ?k15 ?a16 ?l16 ?c16 ?k16 ?a17 ?l17 ?c17 ?k17 ?a18 ?l18 ?c18 ?k18 ?a19 ?l19 ?c19 ?k19 ?a20 ?i20 ?l20 ?c20 ?k20 ?a21 ?i21 ?l21 ?c21 ?k21 ?a22 ?i22 ?l22 ?c22 ?k22 ?pgC ?hdC ?poC ?saC ?mkC ?kcC ?nCi ?z_len ?z_range ?z_tuple ?z_list ?z_enumerate ?z_all ?z_sum ?z_zip ?z_abs ?z_int ?z_max
      (case aC => k_is)
      (case aN => k_is)
      (case lN => k_is)
      (case a1 => k_is)
      (case l1 => k_is)
      (case c1 => k_is)
      (case k1 => k_is)
      (case a2 => k_is)
      (case l2 => k_is)
      (case c2 => k_is)
      (case k2 => k_is)
      (case a3 => k_is)
      (case l3 => k_is)
      (case c3 => k_is)
      (case k3 => k_is)
      (case a4 => k_is)
      (case l4 => k_is)
      (case c4 => k_is)
      (case k4 => k_is)
      (case a5 => k_is)
      (case l5 => k_is)
      (case c5 => k_is)
      (case k5 => k_is)
      (case a6 => k_is)
      (case l6 => k_is)
      (case c6 => k_is)
      (case k6 => k_is)
      (case a7 => k_is)
      (case l7 => k_is)
      (case c7 => k_is)
      (case k7 => k_is)
      (case a8 => k_is)
      (case l8 => k_is)
      (case c8 => k_is)
      (case k8 => k_is)
      (case a9 => k_is)
      (case l9 => k_is)
      (case c9 => k_is)
      (case k9 => k_is)
      (case a10 => k_is)
      (case l10 => k_is)
      (case c10 => k_is)
      (case k10 => k_is)
      (case a11 => k_is)
      (case l11 => k_is)
      (case c11 => k_is)
      (case k11 => k_is)
      (case a12 => k_is)
      (case l12 => k_is)
      (case c12 => k_is)
      (case k12 => k_is)
      (case a13 => k_is)
      (case l13 => k_is)
      (case c13 => k_is)
      (case k13 => k_is)
      (case a14 => k_is)
      (case l14 => k_is)
      (case c14 => k_is)
      (case k14 => k_is)
      (case a15 => k_is)
      (case l15 => k_is)
      (case c15 => k_is)
      (case k15 => k_is)
      (case a16 => k_is)
      (case l16 => k_is)
      (case c16 => k_is)
      (case k16 => k_is)
      (case a17 => k_is)
      (case l17 => k_is)
      (case c17 => k_is)
      (case k17 => k_is)
      (case a18 => k_is)
      (case l18 => k_is)
      (case c18 => k_is)
      (case k18 => k_is)
      (case a19 => k_is)
      (case l19 => k_is)
      (case c19 => k_is)
      (case k19 => k_is)
      (case a20 => k_is)
      (case i20 => k_is)
      (case l20 => k_is)
      (case c20 => k_is)
      (case k20 => k_is)
      (case a21 => k_is)
      (case i21 => k_is)
      (case l21 => k_is)
      (case c21 => k_is)
      (case k21 => k_is)
      (case a22 => k_is)
      (case i22 => k_is)
      (case l22 => k_is)
      (case c22 => k_is)
      (case k22 => k_is)
      (case pgC => k_is)
      (case hdC => k_is)
      (case poC => k_is)
      (case saC => k_is)
      (case mkC => k_is)
      (case kcC => k_is)
      (case nCi => k_is)
      (case z_len => k_is)
      (case z_range => k_is)
      (case z_tuple => k_is)
      (case z_list => k_is)
      (case z_enumerate => k_is)
      (case z_all => k_is)
      (case z_sum => k_is)
      (case z_zip => k_is)
      (case z_abs => k_is)
      (case z_int => k_is)
      (case z_max => k_is))
