import PyProof.Rows.All
import HandS.ForMost
import HandS.IsInst
import HandS.Rev
import HandS.Walk
import HandS.Zip
import HandS.Wide
import HandS.Conv
import HandS.Style
import HandS.Flow
import HandS.EndBits
import HandS.More
import HandS.DeepEq
import HandS.NoneIn
import PySem.Challenge.RW_bondroots_k45_whole_roots
import KE.GoesEnumKw
set_option Elab.async false
set_option linter.all false
set_option maxRecDepth 100000
namespace Bd
/-! ## real numbers: Cauchy sequences of fractions -/
structure CS where
  f : Nat → Rat
  cau : ∀ e : Rat, 0 < e → ∃ N : Nat, ∀ m, N ≤ m → ∀ n, N ≤ n → f m - f n < e

theorem mul_bd {B d x y : Rat} (h1 : -B < x) (h2 : x < B) (h3 : -d < y) (h4 : y < d) : x * y < B * d := by
  have a := Rat.mul_pos (a := B - x) (b := d + y) (by grind) (by grind)
  have b := Rat.mul_pos (a := B + x) (b := d - y) (by grind) (by grind)
  grind

theorem CS.bdN (f : Nat → Rat) : ∀ N : Nat, ∃ B : Rat, 0 < B ∧ ∀ n, n < N → -B < f n ∧ f n < B
  | 0 => ⟨1, by decide, fun n h => absurd h (Nat.not_lt_zero n)⟩
  | N + 1 => by
    obtain ⟨B, h0, h⟩ := CS.bdN f N
    refine ⟨B + (if 0 ≤ f N then f N else - f N), by split <;> grind, fun n hn => ?_⟩
    by_cases e : n = N
    · subst e; split <;> grind
    · have := h n (by omega)
      split <;> grind

theorem CS.bd (x : CS) : ∃ B : Rat, 0 < B ∧ ∀ n, -B < x.f n ∧ x.f n < B := by
  obtain ⟨N, hN⟩ := x.cau 1 (by decide)
  obtain ⟨B, h0, h⟩ := CS.bdN x.f (N + 1)
  refine ⟨B + 1, by grind, fun n => ?_⟩
  have hb := h N (by omega)
  by_cases e : N ≤ n
  · have h1 := hN N (Nat.le_refl _) n e
    have h2 := hN n e N (Nat.le_refl _)
    grind
  · have := h n (by omega)
    grind

def CS.eqv (x y : CS) : Prop := ∀ e : Rat, 0 < e → ∃ N : Nat, ∀ n, N ≤ n → x.f n - y.f n < e ∧ y.f n - x.f n < e

theorem half_pos {e : Rat} (h : 0 < e) : 0 < e / 2 := by grind

theorem CS.eqv_refl (x : CS) : x.eqv x := fun e h => ⟨0, fun n _ => by grind⟩
theorem CS.eqv_symm {x y : CS} (h : x.eqv y) : y.eqv x := fun e he => by
  obtain ⟨N, hN⟩ := h e he
  exact ⟨N, fun n hn => ⟨(hN n hn).2, (hN n hn).1⟩⟩
theorem CS.eqv_trans {x y z : CS} (h : x.eqv y) (k : y.eqv z) : x.eqv z := fun e he => by
  obtain ⟨N, hN⟩ := h (e / 2) (half_pos he)
  obtain ⟨M, hM⟩ := k (e / 2) (half_pos he)
  refine ⟨max N M, fun n hn => ?_⟩
  have a := hN n (by omega)
  have b := hM n (by omega)
  grind

instance CS.setoid : Setoid CS := ⟨CS.eqv, CS.eqv_refl, CS.eqv_symm, CS.eqv_trans⟩
theorem CS.of_eq {x y : CS} (h : ∀ n, x.f n = y.f n) : CS.setoid.r x y := fun e he => ⟨0, fun n _ => by rw [h n]; grind⟩

def CS.const (q : Rat) : CS := ⟨fun _ => q, fun e he => ⟨0, fun m _ n _ => by grind⟩⟩
def CS.add (x y : CS) : CS := ⟨fun n => x.f n + y.f n, fun e he => by
  obtain ⟨N, hN⟩ := x.cau (e / 2) (half_pos he)
  obtain ⟨M, hM⟩ := y.cau (e / 2) (half_pos he)
  refine ⟨max N M, fun m hm n hn => ?_⟩
  have a := hN m (by omega) n (by omega)
  have b := hM m (by omega) n (by omega)
  grind⟩
def CS.neg (x : CS) : CS := ⟨fun n => - x.f n, fun e he => by
  obtain ⟨N, hN⟩ := x.cau e he
  refine ⟨N, fun m hm n hn => ?_⟩
  have a := hN n hn m hm
  grind⟩
theorem div_pos' {a b : Rat} (ha : 0 < a) (hb : 0 < b) : 0 < a / b := by
  rw [Rat.div_def]; exact Rat.mul_pos ha (Rat.inv_pos.mpr hb)
theorem mul_div_self' {a b : Rat} (hb : 0 < b) : b * (a / b) = a := by
  rw [Rat.mul_comm]; exact Rat.div_mul_cancel (Rat.ne_of_gt hb)
theorem CS.mul_cau (x y : CS) : ∀ e : Rat, 0 < e → ∃ N : Nat, ∀ m, N ≤ m → ∀ n, N ≤ n → x.f m * y.f m - x.f n * y.f n < e := fun e he => by
  obtain ⟨B, hB, hx⟩ := x.bd
  obtain ⟨C, hC, hy⟩ := y.bd
  obtain ⟨N, hN⟩ := x.cau (e / 2 / C) (div_pos' (half_pos he) hC)
  obtain ⟨M, hM⟩ := y.cau (e / 2 / B) (div_pos' (half_pos he) hB)
  refine ⟨max N M, fun m hm n hn => ?_⟩
  have a1 := hN m (by omega) n (by omega)
  have a2 := hN n (by omega) m (by omega)
  have b1 := hM m (by omega) n (by omega)
  have b2 := hM n (by omega) m (by omega)
  have p := mul_bd (hx m).1 (hx m).2 (y := y.f m - y.f n) (d := e / 2 / B) (by grind) (by grind)
  have q := mul_bd (hy n).1 (hy n).2 (y := x.f m - x.f n) (d := e / 2 / C) (by grind) (by grind)
  rw [mul_div_self' hB] at p
  rw [mul_div_self' hC] at q
  grind
def CS.mul (x y : CS) : CS := ⟨fun n => x.f n * y.f n, CS.mul_cau x y⟩

theorem CS.add_congr {x x' y y' : CS} (h : x.eqv x') (k : y.eqv y') : (x.add y).eqv (x'.add y') := fun e he => by
  obtain ⟨N, hN⟩ := h (e / 2) (half_pos he)
  obtain ⟨M, hM⟩ := k (e / 2) (half_pos he)
  refine ⟨max N M, fun n hn => ?_⟩
  have a := hN n (by omega)
  have b := hM n (by omega)
  simp only [CS.add]
  grind
theorem CS.neg_congr {x x' : CS} (h : x.eqv x') : x.neg.eqv x'.neg := fun e he => by
  obtain ⟨N, hN⟩ := h e he
  refine ⟨N, fun n hn => ?_⟩
  have a := hN n hn
  simp only [CS.neg]
  grind
theorem CS.mul_congr {x x' y y' : CS} (h : x.eqv x') (k : y.eqv y') : (x.mul y).eqv (x'.mul y') := fun e he => by
  obtain ⟨B, hB, hx⟩ := x.bd
  obtain ⟨C, hC, hy⟩ := y'.bd
  obtain ⟨N, hN⟩ := h (e / 2 / C) (div_pos' (half_pos he) hC)
  obtain ⟨M, hM⟩ := k (e / 2 / B) (div_pos' (half_pos he) hB)
  refine ⟨max N M, fun n hn => ?_⟩
  have a := hN n (by omega)
  have b := hM n (by omega)
  have p1 := mul_bd (hx n).1 (hx n).2 (y := y.f n - y'.f n) (d := e / 2 / B) (by grind) (by grind)
  have p2 := mul_bd (hx n).1 (hx n).2 (y := y'.f n - y.f n) (d := e / 2 / B) (by grind) (by grind)
  have q1 := mul_bd (hy n).1 (hy n).2 (y := x.f n - x'.f n) (d := e / 2 / C) (by grind) (by grind)
  have q2 := mul_bd (hy n).1 (hy n).2 (y := x'.f n - x.f n) (d := e / 2 / C) (by grind) (by grind)
  rw [mul_div_self' hB] at p1 p2
  rw [mul_div_self' hC] at q1 q2
  simp only [CS.mul]
  grind

def CS.pos (x : CS) : Prop := ∃ d : Rat, 0 < d ∧ ∃ N : Nat, ∀ n, N ≤ n → d < x.f n
theorem CS.pos_congr1 {x y : CS} (h : x.eqv y) : x.pos → y.pos := fun ⟨d, hd, N, hN⟩ => by
  obtain ⟨M, hM⟩ := h (d / 2) (half_pos hd)
  refine ⟨d / 2, half_pos hd, max N M, fun n hn => ?_⟩
  have a := hN n (by omega)
  have b := hM n (by omega)
  grind
theorem CS.pos_asymm {x : CS} : x.pos → ¬ x.neg.pos := fun ⟨d, hd, N, hN⟩ ⟨e, he, M, hM⟩ => by
  have a := hN (max N M) (by omega)
  have b := hM (max N M) (by omega)
  simp only [CS.neg] at b
  grind
theorem CS.pos_add {x y : CS} : (x.add y).pos → x.pos ∨ y.pos := fun ⟨d, hd, N, hN⟩ => by
  have h4 : 0 < d / 4 := by grind
  obtain ⟨M, hM⟩ := x.cau (d / 4) h4
  obtain ⟨L, hL⟩ := y.cau (d / 4) h4
  have s := hN (max N (max M L)) (by omega)
  simp only [CS.add] at s
  by_cases h : d / 2 < x.f (max N (max M L))
  · refine .inl ⟨d / 4, h4, max N (max M L), fun n hn => ?_⟩
    have := hM (max N (max M L)) (by omega) n (by omega)
    grind
  · refine .inr ⟨d / 4, h4, max N (max M L), fun n hn => ?_⟩
    have := hL (max N (max M L)) (by omega) n (by omega)
    grind
theorem CS.pos_mul {x y : CS} : x.pos → y.pos → (x.mul y).pos := fun ⟨d, hd, N, hN⟩ ⟨e, he, M, hM⟩ => by
  refine ⟨d * e, Rat.mul_pos hd he, max N M, fun n hn => ?_⟩
  have a := hN n (by omega)
  have b := hM n (by omega)
  simp only [CS.mul]
  have := Rat.mul_pos (a := x.f n - d) (b := y.f n - e) (by grind) (by grind)
  have h1 := Rat.mul_pos (a := x.f n - d) (b := e) (by grind) (by grind)
  have h2 := Rat.mul_pos (a := d) (b := y.f n - e) (by grind) (by grind)
  grind
theorem CS.tri {x : CS} (h : ¬ x.pos) (k : ¬ x.neg.pos) : x.eqv (CS.const 0) := fun e he => by
  obtain ⟨N, hN⟩ := x.cau (e / 2) (half_pos he)
  refine ⟨N, fun n hn => ?_⟩
  simp only [CS.const]
  constructor
  · refine Rat.not_le.mp fun hle => h ⟨e / 4, by grind, N, fun m hm => ?_⟩
    have := hN n hn m hm
    grind
  · refine Rat.not_le.mp fun hle => k ⟨e / 4, by grind, N, fun m hm => ?_⟩
    have := hN m hm n hn
    simp only [CS.neg]
    grind
theorem inv_mul_self' {a : Rat} (h : a ≠ 0) : a * a⁻¹ = 1 := Rat.mul_inv_cancel a h
theorem CS.inv_ex {x : CS} (h : x.pos) : ∃ y : CS, (x.mul y).eqv (CS.const 1) := by
  obtain ⟨d, hd, N, hN⟩ := h
  have hdd : 0 < d * d := Rat.mul_pos hd hd
  refine ⟨⟨fun n => (x.f n)⁻¹, fun e he => ?_⟩, fun e he => ⟨N, fun n hn => ?_⟩⟩
  · obtain ⟨M, hM⟩ := x.cau (e * (d * d)) (Rat.mul_pos he hdd)
    refine ⟨max N M, fun m hm n hn => ?_⟩
    have a := hN m (by omega)
    have b := hN n (by omega)
    have c := hM n (by omega) m (by omega)
    have pm : 0 < x.f m := by grind
    have pn : 0 < x.f n := by grind
    have im := inv_mul_self' (Rat.ne_of_gt pm)
    have iN := inv_mul_self' (Rat.ne_of_gt pn)
    have pp := Rat.mul_pos pm pn
    refine Rat.lt_of_mul_lt_mul_left (c := x.f m * x.f n) ?_ (Rat.le_of_lt pp)
    have e1 : x.f m * x.f n * ((x.f m)⁻¹ - (x.f n)⁻¹) = x.f n * (x.f m * (x.f m)⁻¹) - x.f m * (x.f n * (x.f n)⁻¹) := by grind
    rw [e1, im, iN]
    have h1 := Rat.mul_pos (a := x.f m - d) (b := x.f n - d) (by grind) (by grind)
    have h2 := Rat.mul_pos (a := x.f m - d) (b := d) (by grind) (by grind)
    have h3 := Rat.mul_pos (a := d) (b := x.f n - d) (by grind) (by grind)
    have h4 : d * d < x.f m * x.f n := by grind
    have h5 := Rat.mul_lt_mul_of_pos_right h4 he
    grind
  · have b := hN n hn
    have pn : 0 < x.f n := by grind
    have iN := inv_mul_self' (Rat.ne_of_gt pn)
    simp only [CS.mul, CS.const]
    rw [iN]
    grind

/-- the reals -/
def Re : Type := Quotient CS.setoid
namespace Re
def mk (x : CS) : Re := Quotient.mk _ x
def ofRat (q : Rat) : Re := mk (CS.const q)
def add : Re → Re → Re := Quotient.lift₂ (fun x y => mk (x.add y)) fun _ _ _ _ h k => Quotient.sound (CS.add_congr h k)
def mul : Re → Re → Re := Quotient.lift₂ (fun x y => mk (x.mul y)) fun _ _ _ _ h k => Quotient.sound (CS.mul_congr h k)
def neg : Re → Re := Quotient.lift (fun x => mk x.neg) fun _ _ h => Quotient.sound (CS.neg_congr h)
def pos : Re → Prop := Quotient.lift CS.pos fun _ _ h => propext ⟨CS.pos_congr1 h, CS.pos_congr1 (CS.eqv_symm h)⟩
instance : Add Re := ⟨add⟩
instance : Mul Re := ⟨mul⟩
instance : Neg Re := ⟨neg⟩
instance : Sub Re := ⟨fun a b => add a (neg b)⟩
instance : NatCast Re := ⟨fun n => ofRat n⟩
instance : IntCast Re := ⟨fun n => ofRat n⟩
instance (n : Nat) : OfNat Re n := ⟨ofRat n⟩
instance : SMul Nat Re := ⟨fun n a => mul (ofRat n) a⟩
instance : SMul Int Re := ⟨fun n a => mul (ofRat n) a⟩
def npow (a : Re) : Nat → Re
  | 0 => ofRat (1 : Nat)
  | n + 1 => mul (npow a n) a
instance : Pow Re Nat := ⟨npow⟩
instance : LT Re := ⟨fun a b => pos (b - a)⟩
instance : LE Re := ⟨fun a b => ¬ pos (a - b)⟩
theorem ind {p : Re → Prop} (h : ∀ x, p (mk x)) (a : Re) : p a := Quotient.ind h a
theorem add_mk (x y : CS) : mk x + mk y = mk (x.add y) := rfl
theorem mul_mk (x y : CS) : mk x * mk y = mk (x.mul y) := rfl
theorem neg_mk (x : CS) : - mk x = mk x.neg := rfl
theorem sub_mk (x y : CS) : mk x - mk y = mk (x.add y.neg) := rfl
theorem mk_eq {x y : CS} (h : ∀ n, x.f n = y.f n) : mk x = mk y := Quotient.sound (CS.of_eq h)
theorem ofRat_add (a b : Rat) : ofRat (a + b) = ofRat a + ofRat b := rfl
theorem ofRat_mul (a b : Rat) : ofRat (a * b) = ofRat a * ofRat b := rfl
theorem ofRat_neg (a : Rat) : ofRat (-a) = - ofRat a := rfl
theorem ofRat_sub (a b : Rat) : ofRat (a - b) = ofRat a - ofRat b := mk_eq fun n => by simp only [CS.const, CS.add, CS.neg]; grind

instance ring : Lean.Grind.CommRing Re where
  add_assoc a b c := by
    induction a using ind; induction b using ind; induction c using ind
    exact mk_eq fun n => by simp only [CS.add]; grind
  add_comm a b := by
    induction a using ind; induction b using ind
    exact mk_eq fun n => by simp only [CS.add]; grind
  add_zero a := by
    induction a using ind
    exact mk_eq fun n => by simp only [CS.add, CS.const]; grind
  neg_add_cancel a := by
    induction a using ind
    exact mk_eq fun n => by simp only [CS.add, CS.neg, CS.const]; grind
  mul_assoc a b c := by
    induction a using ind; induction b using ind; induction c using ind
    exact mk_eq fun n => by simp only [CS.mul]; grind
  mul_comm a b := by
    induction a using ind; induction b using ind
    exact mk_eq fun n => by simp only [CS.mul]; grind
  mul_one a := by
    induction a using ind
    exact mk_eq fun n => by simp only [CS.mul, CS.const]; grind
  one_mul a := by
    induction a using ind
    exact mk_eq fun n => by simp only [CS.mul, CS.const]; grind
  left_distrib a b c := by
    induction a using ind; induction b using ind; induction c using ind
    exact mk_eq fun n => by simp only [CS.mul, CS.add]; grind
  right_distrib a b c := by
    induction a using ind; induction b using ind; induction c using ind
    exact mk_eq fun n => by simp only [CS.mul, CS.add]; grind
  zero_mul a := by
    induction a using ind
    exact mk_eq fun n => by simp only [CS.mul, CS.const]; grind
  mul_zero a := by
    induction a using ind
    exact mk_eq fun n => by simp only [CS.mul, CS.const]; grind
  pow_zero a := rfl
  pow_succ a n := rfl
  ofNat_succ n := mk_eq fun _ => by
    show ((n + 1 : Nat) : Rat) = (n : Rat) + ((1 : Nat) : Rat)
    exact Rat.natCast_add n 1
  ofNat_eq_natCast n := rfl
  nsmul_eq_natCast_mul n a := rfl
  sub_eq_add_neg a b := rfl
  neg_zsmul i a := by
    induction a using ind
    exact mk_eq fun n => by simp only [CS.mul, CS.neg, CS.const]; grind
  zsmul_natCast_eq_nsmul n a := rfl
  intCast_ofNat n := rfl
  intCast_neg i := mk_eq fun _ => by simp only [CS.const, CS.neg]; grind

theorem pos_asymm {a : Re} (h : pos a) : ¬ pos (-a) := by
  induction a using ind; exact CS.pos_asymm h
theorem pos_add {a b : Re} (h : pos (a + b)) : pos a ∨ pos b := by
  induction a using ind; induction b using ind; exact CS.pos_add h
theorem pos_mul {a b : Re} (h : pos a) (k : pos b) : pos (a * b) := by
  induction a using ind; induction b using ind; exact CS.pos_mul h k
theorem tri {a : Re} (h : ¬ pos a) (k : ¬ pos (-a)) : a = 0 := by
  induction a using ind; exact Quotient.sound (CS.tri h k)
theorem lt_def {a b : Re} : a < b ↔ pos (b - a) := Iff.rfl
theorem le_def {a b : Re} : a ≤ b ↔ ¬ pos (a - b) := Iff.rfl
theorem not_pos_zero : ¬ pos (0 : Re) := fun ⟨d, hd, N, hN⟩ => by
  have := hN N (Nat.le_refl _)
  simp only [CS.const] at this
  have e : ((0 : Nat) : Rat) = 0 := rfl
  grind

instance : Std.IsLinearOrder Re where
  le_refl a := by
    rw [le_def, show a - a = 0 by grind]
    exact not_pos_zero
  le_trans a b c h k := fun hp => by
    rw [show a - c = (a - b) + (b - c) by grind] at hp
    rcases pos_add hp with z | z
    · exact h z
    · exact k z
  le_antisymm a b h k := by
    have := tri (a := a - b) h (by rw [show -(a - b) = b - a by grind]; exact k)
    grind
  le_total a b := by
    by_cases h : pos (a - b)
    · refine .inr ?_
      have := pos_asymm h
      rw [show -(a - b) = b - a by grind] at this
      exact this
    · exact .inl h
instance : Std.LawfulOrderLT Re where
  lt_iff a b := by
    constructor
    · intro h
      refine ⟨?_, fun k => k h⟩
      have := pos_asymm (lt_def.mp h)
      rw [show -(b - a) = a - b by grind] at this
      exact this
    · rintro ⟨_, k⟩
      exact Classical.not_not.mp k
instance : Lean.Grind.OrderedAdd Re where
  add_le_left_iff {a b} c := by
    rw [le_def, le_def, show a + c - (b + c) = a - b by grind]
instance : Lean.Grind.OrderedRing Re where
  zero_lt_one := by
    rw [lt_def]
    refine ⟨1 / 2, by grind, 0, fun n _ => ?_⟩
    simp only [CS.const, CS.add, CS.neg]
    have e : ((0 : Nat) : Rat) = 0 := rfl
    have e1 : ((1 : Nat) : Rat) = 1 := rfl
    grind
  mul_lt_mul_of_pos_left {a b c} h k := by
    rw [lt_def] at *
    rw [show c * b - c * a = c * (b - a) by grind]
    rw [show c - 0 = c by grind] at k
    exact pos_mul k h
  mul_lt_mul_of_pos_right {a b c} h k := by
    rw [lt_def] at *
    rw [show b * c - a * c = (b - a) * c by grind]
    rw [show c - 0 = c by grind] at k
    exact pos_mul h k

theorem ofRat_lt {a b : Rat} : ofRat a < ofRat b ↔ a < b := by
  constructor
  · rintro ⟨d, hd, N, h⟩
    have := h N (Nat.le_refl _)
    simp only [CS.const, CS.add, CS.neg] at this
    grind
  · intro h
    refine ⟨(b - a) / 2, by grind, 0, fun n _ => ?_⟩
    simp only [CS.const, CS.add, CS.neg]
    grind
theorem ofRat_le {a b : Rat} : ofRat a ≤ ofRat b ↔ a ≤ b := by
  have h := @ofRat_lt b a
  constructor
  · intro k
    refine Rat.not_lt.mp fun z => ?_
    have := h.mpr z
    grind
  · intro k
    have : ¬ ofRat b < ofRat a := fun z => by
      have := h.mp z
      grind
    grind
theorem ofRat_inj {a b : Rat} (h : ofRat a = ofRat b) : a = b := by
  refine Rat.le_antisymm (ofRat_le.mp ?_) (ofRat_le.mp ?_) <;> grind
theorem ofRat_zero : ofRat 0 = 0 := rfl
theorem ofRat_one : ofRat 1 = 1 := rfl
theorem ofRat_nat (n : Nat) : ofRat (n : Rat) = (n : Re) := rfl
theorem ofRat_pow (a : Rat) : ∀ n : Nat, ofRat (a ^ n) = ofRat a ^ n
  | 0 => by rw [Rat.pow_zero]; rfl
  | n + 1 => by
    rw [Rat.pow_succ, ofRat_mul, ofRat_pow a n]
    rfl
/-- below every positive real lies a positive fraction -/
theorem arch {e : Re} (h : 0 < e) : ∃ d : Rat, 0 < d ∧ ofRat d < e := by
  rw [lt_def, show e - 0 = e by grind] at h
  induction e using ind with | _ x =>
  obtain ⟨d, hd, N, hN⟩ := h
  refine ⟨d / 2, by grind, d / 2, by grind, N, fun n hn => ?_⟩
  have := hN n hn
  simp only [CS.const, CS.add, CS.neg]
  grind
theorem inv_ex {a : Re} (h : a ≠ 0) : ∃ b : Re, a * b = 1 := by
  by_cases p : pos a
  · induction a using ind with | _ x =>
    obtain ⟨y, hy⟩ := CS.inv_ex p
    exact ⟨mk y, Quotient.sound hy⟩
  · by_cases q : pos (-a)
    · induction a using ind with | _ x =>
      obtain ⟨y, hy⟩ := CS.inv_ex (x := x.neg) q
      refine ⟨- mk y, ?_⟩
      have : (- mk x) * mk y = 1 := Quotient.sound hy
      grind
    · exact absurd (tri p q) h
theorem zero_ne_one : (0 : Re) ≠ 1 := fun h => by
  have := ofRat_inj (a := 0) (b := 1) h
  grind
theorem mul_pos {a b : Re} (h : 0 < a) (k : 0 < b) : 0 < a * b := by
  have := Lean.Grind.OrderedRing.mul_lt_mul_of_pos_left h k
  grind
theorem mul_nonneg {a b : Re} (h : 0 ≤ a) (k : 0 ≤ b) : 0 ≤ a * b := by
  by_cases h1 : a = 0
  · rw [h1, show (0 : Re) * b = 0 by grind]; grind
  · by_cases k1 : b = 0
    · rw [k1, show a * (0 : Re) = 0 by grind]; grind
    · have := mul_pos (a := a) (b := b) (by grind) (by grind)
      grind
theorem mul_eq_zero {a b : Re} (h : a * b = 0) : a = 0 ∨ b = 0 := by
  by_cases h1 : a = 0
  · exact .inl h1
  · obtain ⟨c, hc⟩ := inv_ex h1
    refine .inr ?_
    have : c * (a * b) = 0 := by rw [h]; grind
    grind
theorem mul_ne_zero {a b : Re} (h : a ≠ 0) (k : b ≠ 0) : a * b ≠ 0 := fun z => (mul_eq_zero z).elim h k
theorem mul_neg' {a b : Re} (h : 0 < a) (k : b < 0) : a * b < 0 := by
  have := mul_pos h (b := -b) (by grind)
  grind

/-- the limit of nested intervals -/
theorem nested (a b : Nat → Rat) (ha : ∀ n, a n ≤ a (n + 1)) (hb : ∀ n, b (n + 1) ≤ b n) (hab : ∀ n, a n ≤ b n) (hw : ∀ e : Rat, 0 < e → ∃ n, b n - a n < e) :
    ∃ c : Re, ∀ n, ofRat (a n) ≤ c ∧ c ≤ ofRat (b n) := by
  have ma : ∀ n k, a n ≤ a (n + k) := fun n k => by
    induction k with
    | zero => exact Rat.le_refl
    | succ k ih => exact Rat.le_trans ih (ha _)
  have mb : ∀ n k, b (n + k) ≤ b n := fun n k => by
    induction k with
    | zero => exact Rat.le_refl
    | succ k ih => exact Rat.le_trans (hb _) ih
  have inn : ∀ n m, n ≤ m → a n ≤ a m ∧ b m ≤ b n := fun n m h => by
    obtain ⟨k, rfl⟩ := Nat.le.dest h
    exact ⟨ma n k, mb n k⟩
  refine ⟨mk ⟨a, fun e he => ?_⟩, fun n => ⟨?_, ?_⟩⟩
  · obtain ⟨N, hN⟩ := hw e he
    refine ⟨N, fun m hm n hn => ?_⟩
    have h1 := inn N m hm
    have h2 := inn N n hn
    have h3 := hab m
    grind
  · rintro ⟨d, hd, N, h⟩
    have h1 := h (max N n) (by omega)
    have h2 := inn n (max N n) (by omega)
    simp only [CS.const, CS.add, CS.neg] at h1
    grind
  · rintro ⟨d, hd, N, h⟩
    have h1 := h (max N n) (by omega)
    have h2 := inn n (max N n) (by omega)
    have h3 := hab (max N n)
    simp only [CS.const, CS.add, CS.neg] at h1
    grind

open Classical in
/-- bisection: a fault of intervals that goes on to one half goes on to a point -/
noncomputable def bis (bad : Rat → Rat → Prop) (a b : Rat) : Nat → Rat × Rat
  | 0 => (a, b)
  | n + 1 =>
    let p := bis bad a b n
    if bad p.1 ((p.1 + p.2) / 2) then (p.1, (p.1 + p.2) / 2) else ((p.1 + p.2) / 2, p.2)

theorem big_nat (q : Rat) : ∃ n : Nat, q < (n : Rat) + 1 := by
  refine ⟨q.floor.toNat, ?_⟩
  have h := Rat.lt_floor_add_one q
  have k : q.floor ≤ (q.floor.toNat : Int) := Int.self_le_toNat _
  have k2 := Rat.intCast_le_intCast.mpr k
  have e : ((q.floor + 1 : Int) : Rat) = (q.floor : Rat) + 1 := by rw [Rat.intCast_add]; rfl
  rw [e] at h
  have e2 : (((q.floor.toNat : Nat) : Int) : Rat) = ((q.floor.toNat : Nat) : Rat) := Rat.intCast_natCast _
  grind
section
variable {bad : Rat → Rat → Prop} {a b : Rat}
theorem bis_lt (hab : a < b) : ∀ n, (bis bad a b n).1 < (bis bad a b n).2
  | 0 => hab
  | n + 1 => by
    have ih := bis_lt hab n
    unfold bis
    dsimp only
    split <;> dsimp only <;> grind
theorem bis_1 (hab : a < b) (n : Nat) : (bis bad a b n).1 ≤ (bis bad a b (n + 1)).1 := by
  have ih := bis_lt (bad := bad) hab n
  rw [bis]
  split <;> dsimp only <;> grind
theorem bis_2 (hab : a < b) (n : Nat) : (bis bad a b (n + 1)).2 ≤ (bis bad a b n).2 := by
  have ih := bis_lt (bad := bad) hab n
  rw [bis]
  split <;> dsimp only <;> grind
theorem bis_bad (hab : a < b) (h0 : bad a b) (hs : ∀ a b, a < b → bad a b → bad a ((a + b) / 2) ∨ bad ((a + b) / 2) b) : ∀ n, bad (bis bad a b n).1 (bis bad a b n).2
  | 0 => h0
  | n + 1 => by
    have ih := bis_bad hab h0 hs n
    have l := bis_lt (bad := bad) hab n
    rw [bis]
    split
    · assumption
    · exact (hs _ _ l ih).resolve_left (by assumption)
theorem bis_w (hab : a < b) : ∀ n : Nat, ((bis bad a b n).2 - (bis bad a b n).1) * ((n : Rat) + 1) ≤ b - a
  | 0 => by
    show (b - a) * (((0 : Nat) : Rat) + 1) ≤ b - a
    have e : ((0 : Nat) : Rat) = 0 := rfl
    grind
  | n + 1 => by
    have ih := bis_w hab n
    have l := bis_lt (bad := bad) hab n
    have hn : (0 : Rat) ≤ (n : Rat) := Rat.natCast_nonneg
    have e : ((n + 1 : Nat) : Rat) = (n : Rat) + 1 := Rat.natCast_add n 1
    rw [e, bis]
    have hp := Rat.mul_nonneg (a := (bis bad a b n).2 - (bis bad a b n).1) (b := (n : Rat)) (by grind) hn
    split <;> dsimp only <;> grind
theorem bisect (hab : a < b) (h0 : bad a b) (hs : ∀ a b, a < b → bad a b → bad a ((a + b) / 2) ∨ bad ((a + b) / 2) b) :
    ∃ c : Re, ofRat a ≤ c ∧ c ≤ ofRat b ∧ ∀ e : Re, 0 < e → ∃ x y : Rat, a ≤ x ∧ x < y ∧ y ≤ b ∧ bad x y ∧ ofRat x ≤ c ∧ c ≤ ofRat y ∧ ofRat y - ofRat x < e := by
  have hw : ∀ e : Rat, 0 < e → ∃ n, (bis bad a b n).2 - (bis bad a b n).1 < e := fun e he => by
    obtain ⟨n, hn⟩ := big_nat ((b - a) / e)
    refine ⟨n, ?_⟩
    have h1 := bis_w (bad := bad) hab n
    have hn0 : (0 : Rat) ≤ (n : Rat) := Rat.natCast_nonneg
    refine Rat.lt_of_mul_lt_mul_right (c := (n : Rat) + 1) ?_ (by grind)
    have h2 := (Rat.div_lt_iff he).mp hn
    grind
  obtain ⟨c, hc⟩ := nested (fun n => (bis bad a b n).1) (fun n => (bis bad a b n).2) (bis_1 hab) (bis_2 hab) (fun n => Rat.le_of_lt (bis_lt hab n)) hw
  have inn : ∀ n, a ≤ (bis bad a b n).1 ∧ (bis bad a b n).2 ≤ b := fun n => by
    induction n with
    | zero => exact ⟨Rat.le_refl, Rat.le_refl⟩
    | succ n ih => exact ⟨Rat.le_trans ih.1 (bis_1 hab n), Rat.le_trans (bis_2 hab n) ih.2⟩
  refine ⟨c, (hc 0).1, (hc 0).2, fun e he => ?_⟩
  obtain ⟨d, hd, hde⟩ := arch he
  obtain ⟨n, hn⟩ := hw d hd
  refine ⟨_, _, (inn n).1, bis_lt hab n, (inn n).2, bis_bad hab h0 hs n, (hc n).1, (hc n).2, ?_⟩
  rw [← ofRat_sub]
  have := ofRat_lt.mpr hn
  grind
end
end Re
end Bd

namespace Bd
open Re
/-! ## polynomials over the reals, as lists -/
abbrev P := List Re
def ev : P → Re → Re
  | [], _ => 0
  | a :: p, x => a + x * ev p x
def dev : P → Re → Re
  | [], _ => 0
  | _ :: p, x => ev p x + x * dev p x
/-- (p - p(a)) / (x - a) -/
def sd : P → Re → P
  | [], _ => []
  | [_], _ => []
  | _ :: b :: p, a => ev (b :: p) a :: sd (b :: p) a
theorem ev_nil (x : Re) : ev [] x = 0 := rfl
theorem ev_cons (a : Re) (p : P) (x : Re) : ev (a :: p) x = a + x * ev p x := rfl
theorem sd_len : ∀ (p : P) (a : Re), (sd p a).length = p.length - 1
  | [], _ => rfl
  | [_], _ => rfl
  | _ :: b :: p, a => by
    have := sd_len (b :: p) a
    simp only [sd, List.length_cons] at *
    omega
theorem ev_sd : ∀ (p : P) (a x : Re), ev p x = ev p a + (x - a) * ev (sd p a) x
  | [], a, x => by simp only [ev, sd]; grind
  | [c], a, x => by simp only [ev, sd]; grind
  | c :: b :: p, a, x => by
    have h := ev_sd (b :: p) a x
    rw [ev_cons c, ev_cons c, show sd (c :: b :: p) a = ev (b :: p) a :: sd (b :: p) a from rfl, ev_cons (ev (b :: p) a), h]
    generalize ev (sd (b :: p) a) x = s
    generalize ev (b :: p) a = v
    grind
theorem sd_dev : ∀ (p : P) (a : Re), ev (sd p a) a = dev p a
  | [], a => rfl
  | [c], a => by simp only [ev, sd, dev]; grind
  | c :: b :: p, a => by
    have h := sd_dev (b :: p) a
    rw [show sd (c :: b :: p) a = ev (b :: p) a :: sd (b :: p) a from rfl, ev_cons, h]
    rfl

theorem mul_bdR {B d x y : Re} (h1 : -B < x) (h2 : x < B) (h3 : -d < y) (h4 : y < d) : x * y < B * d ∧ -(B * d) < x * y := by
  have a := mul_pos (a := B - x) (b := d + y) (by grind) (by grind)
  have b := mul_pos (a := B + x) (b := d - y) (by grind) (by grind)
  have c := mul_pos (a := B - x) (b := d - y) (by grind) (by grind)
  have e := mul_pos (a := B + x) (b := d + y) (by grind) (by grind)
  have h2 : (0 : Re) < 2 := by grind
  constructor
  · grind
  · grind
/-- bounded near a point -/
theorem ev_bd : ∀ (p : P) (c : Re), ∃ B : Re, 0 < B ∧ ∀ x, c - 1 < x → x < c + 1 → -B < ev p x ∧ ev p x < B
  | [], c => ⟨1, by grind, fun x _ _ => by simp only [ev]; grind⟩
  | a :: p, c => by
    obtain ⟨B, hB, h⟩ := ev_bd p c
    have hM : ∃ M : Re, 0 < M ∧ -M < a ∧ a < M ∧ -M < c - 1 ∧ c + 1 < M := by
      have t : ∀ x : Re, ∃ M : Re, 0 < M ∧ -M < x ∧ x < M := fun x => by
        by_cases h : 0 ≤ x
        · exact ⟨x + 1, by grind, by grind, by grind⟩
        · exact ⟨1 - x, by grind, by grind, by grind⟩
      obtain ⟨M1, a1, b1, c1⟩ := t a
      obtain ⟨M2, a2, b2, c2⟩ := t c
      exact ⟨M1 + M2 + 1, by grind, by grind, by grind, by grind, by grind⟩
    obtain ⟨M, hM, m1, m2, m3, m4⟩ := hM
    refine ⟨M + M * B, ?_, fun x h1 h2 => ?_⟩
    · have := mul_pos hM hB
      grind
    · have := h x h1 h2
      have := mul_bdR (B := M) (x := x) (by grind) (by grind) this.1 this.2
      rw [ev_cons]
      grind
theorem small {v B : Re} (hv : 0 < v) (hB : 0 < B) : ∃ d : Re, 0 < d ∧ d < 1 ∧ d * B < v := by
  obtain ⟨b, hb⟩ := inv_ex (a := B) (by grind)
  have b0 : 0 < b := by
    have h1 : ¬ b = 0 := fun e => by rw [e] at hb; have := zero_ne_one; grind
    have h2 : ¬ b < 0 := fun e => by
      have := mul_neg' hB e
      grind
    grind
  have vb := mul_pos hv b0
  obtain ⟨d, hd, hd2⟩ := arch vb
  have hd3 : (0 : Re) < ofRat d := ofRat_lt.mpr hd
  by_cases h : ofRat d < 1
  · refine ⟨ofRat d, hd3, h, ?_⟩
    have := Lean.Grind.OrderedRing.mul_lt_mul_of_pos_right hd2 hB
    have e : v * b * B = v := by rw [show v * b * B = v * (B * b) by grind, hb]; grind
    grind
  · refine ⟨ofRat (1/2), ofRat_lt.mpr (by grind), ofRat_lt.mpr (by grind), ?_⟩
    have h3 : ofRat (1/2) < v * b := by
      have : ofRat (1/2) < 1 := ofRat_lt.mpr (by grind)
      grind
    have := Lean.Grind.OrderedRing.mul_lt_mul_of_pos_right h3 hB
    have e : v * b * B = v := by rw [show v * b * B = v * (B * b) by grind, hb]; grind
    grind
/-- the sign stays near a point -/
theorem ev_near_pos (p : P) (c : Re) (h : 0 < ev p c) : ∃ e : Re, 0 < e ∧ ∀ x, c - e < x → x < c + e → 0 < ev p x := by
  obtain ⟨B, hB, hb⟩ := ev_bd (sd p c) c
  obtain ⟨d, d0, d1, d2⟩ := small h hB
  refine ⟨d, d0, fun x h1 h2 => ?_⟩
  have := hb x (by grind) (by grind)
  have := mul_bdR (B := d) (x := x - c) (by grind) (by grind) this.1 this.2
  rw [ev_sd p c x]
  grind
theorem ev_neg (p : P) : ∀ x, ev (p.map (- ·)) x = - ev p x := by
  intro x
  induction p with
  | nil => simp only [List.map, ev]; grind
  | cons a p ih => simp only [List.map, ev, ih]; grind
theorem ev_near_neg (p : P) (c : Re) (h : ev p c < 0) : ∃ e : Re, 0 < e ∧ ∀ x, c - e < x → x < c + e → ev p x < 0 := by
  obtain ⟨e, e0, he⟩ := ev_near_pos (p.map (- ·)) c (by rw [ev_neg]; grind)
  refine ⟨e, e0, fun x h1 h2 => ?_⟩
  have := he x h1 h2
  rw [ev_neg] at this
  grind
theorem ev_near (p : P) (c : Re) (h : ev p c ≠ 0) : ∃ e : Re, 0 < e ∧ ∀ x, c - e < x → x < c + e → ev p x ≠ 0 ∧ (ev p x < 0 ↔ ev p c < 0) := by
  by_cases k : ev p c < 0
  · obtain ⟨e, e0, he⟩ := ev_near_neg p c k
    exact ⟨e, e0, fun x h1 h2 => by have := he x h1 h2; grind⟩
  · obtain ⟨e, e0, he⟩ := ev_near_pos p c (by grind)
    exact ⟨e, e0, fun x h1 h2 => by have := he x h1 h2; grind⟩

/-! ### functions that are polynomials -/
def IsP (F : Re → Re) : Prop := ∃ p : P, ∀ x, F x = ev p x
theorem IsP.ev (p : P) : IsP (ev p) := ⟨p, fun _ => rfl⟩
theorem IsP.const (c : Re) : IsP fun _ => c := ⟨[c], fun x => by simp only [Bd.ev]; grind⟩
theorem IsP.id : IsP fun x => x := ⟨[0, 1], fun x => by simp only [Bd.ev]; grind⟩
def padd : P → P → P
  | [], q => q
  | a :: p, [] => a :: p
  | a :: p, b :: q => (a + b) :: padd p q
theorem ev_padd : ∀ (p q : P) (x : Re), ev (padd p q) x = ev p x + ev q x
  | [], q, x => by simp only [padd, ev]; grind
  | a :: p, [], x => by simp only [padd, ev]; grind
  | a :: p, b :: q, x => by simp only [padd, ev, ev_padd p q x]; grind
theorem ev_smul (c : Re) (p : P) (x : Re) : ev (p.map (c * ·)) x = c * ev p x := by
  induction p with
  | nil => simp only [List.map, ev]; grind
  | cons a p ih => simp only [List.map, ev, ih]; grind
def pmul : P → P → P
  | [], _ => []
  | a :: p, q => padd (q.map (a * ·)) (0 :: pmul p q)
theorem ev_pmul : ∀ (p q : P) (x : Re), ev (pmul p q) x = ev p x * ev q x
  | [], q, x => by simp only [pmul, ev]; grind
  | a :: p, q, x => by
    rw [pmul, ev_padd, ev_smul, ev_cons, ev_pmul p q x, ev_cons]
    grind
theorem IsP.add {F G : Re → Re} (f : IsP F) (g : IsP G) : IsP fun x => F x + G x :=
  let ⟨p, hp⟩ := f; let ⟨q, hq⟩ := g; ⟨padd p q, fun x => by rw [ev_padd, ← hp, ← hq]⟩
theorem IsP.mul {F G : Re → Re} (f : IsP F) (g : IsP G) : IsP fun x => F x * G x :=
  let ⟨p, hp⟩ := f; let ⟨q, hq⟩ := g; ⟨pmul p q, fun x => by rw [ev_pmul, ← hp, ← hq]⟩
theorem IsP.neg {F : Re → Re} (f : IsP F) : IsP fun x => - F x :=
  let ⟨p, hp⟩ := f; ⟨p.map (- ·), fun x => by rw [ev_neg, ← hp]⟩
theorem IsP.sub {F G : Re → Re} (f : IsP F) (g : IsP G) : IsP fun x => F x - G x :=
  let ⟨p, hp⟩ := f.add g.neg; ⟨p, fun x => by rw [← hp]; grind⟩
theorem IsP.pow {F : Re → Re} (f : IsP F) : ∀ n : Nat, IsP fun x => F x ^ n
  | 0 => ⟨[1], fun x => by simp only [Bd.ev]; grind⟩
  | n + 1 => by
    obtain ⟨q, hq⟩ := (IsP.pow f n).mul f
    exact ⟨q, fun x => by rw [← hq]; exact Lean.Grind.Semiring.pow_succ _ _⟩
theorem IsP.dev (p : P) : IsP (dev p) := by
  induction p with
  | nil => exact ⟨[], fun _ => rfl⟩
  | cons a p ih =>
    obtain ⟨q, hq⟩ := (IsP.ev p).add (IsP.id.mul ih)
    exact ⟨q, fun x => hq x⟩
theorem IsP.near {F : Re → Re} (f : IsP F) (c : Re) (h : F c ≠ 0) : ∃ e : Re, 0 < e ∧ ∀ x, c - e < x → x < c + e → F x ≠ 0 ∧ (F x < 0 ↔ F c < 0) := by
  obtain ⟨p, hp⟩ := f
  rw [hp] at h
  obtain ⟨e, e0, he⟩ := ev_near p c h
  exact ⟨e, e0, fun x h1 h2 => by rw [hp, hp]; exact he x h1 h2⟩
/-- a polynomial that is 0 about a point, the point left out, is 0 there -/
theorem IsP.fill {F : Re → Re} (f : IsP F) (c : Re) {e : Re} (e0 : 0 < e) (h : ∀ x, c - e < x → x < c + e → x ≠ c → F x = 0) : F c = 0 := by
  refine Classical.not_not.mp fun n => ?_
  obtain ⟨d, d0, hd⟩ := f.near c n
  obtain ⟨q, q0, q1⟩ := arch e0
  obtain ⟨r, r0, r1⟩ := arch d0
  have hq : (0 : Re) < ofRat q := ofRat_lt.mpr q0
  have hr : (0 : Re) < ofRat r := ofRat_lt.mpr r0
  by_cases z : ofRat q < ofRat r
  · exact (hd (c + ofRat q) (by grind) (by grind)).1 (h _ (by grind) (by grind) (by grind))
  · exact (hd (c + ofRat r) (by grind) (by grind)).1 (h _ (by grind) (by grind) (by grind))
/-- the order of a root -/
theorem ord : ∀ (n : Nat) (p : P) (a : Re), p.length ≤ n → (∃ x, ev p x ≠ 0) → ∃ (k : Nat) (s : P), (∀ x, ev p x = (x - a) ^ k * ev s x) ∧ ev s a ≠ 0 ∧ k + s.length ≤ p.length
  | 0, p, a, hl, ⟨x, hx⟩ => by
    have : p = [] := List.length_eq_zero_iff.mp (by omega)
    subst this
    exact absurd rfl hx
  | n + 1, p, a, hl, ⟨x, hx⟩ => by
    by_cases h : ev p a = 0
    · have e : ∀ y, ev p y = (y - a) * ev (sd p a) y := fun y => by rw [ev_sd p a y, h]; grind
      have pl : p.length ≠ 0 := fun z => by
        have : p = [] := List.length_eq_zero_iff.mp z
        subst this
        exact hx rfl
      have l := sd_len p a
      obtain ⟨k, s, h1, h2, h3⟩ := ord n (sd p a) a (by omega) ⟨x, fun z => hx (by rw [e, z]; grind)⟩
      refine ⟨k + 1, s, fun y => ?_, h2, by omega⟩
      rw [e, h1, Lean.Grind.Semiring.pow_succ]
      grind
    · exact ⟨0, p, fun y => by rw [Lean.Grind.Semiring.pow_zero]; grind, h, by omega⟩
theorem pow_ne {a : Re} (h : a ≠ 0) : ∀ n : Nat, a ^ n ≠ 0
  | 0 => by rw [Lean.Grind.Semiring.pow_zero]; exact fun z => zero_ne_one z.symm
  | n + 1 => by rw [Lean.Grind.Semiring.pow_succ]; exact mul_ne_zero (pow_ne h n) h
/-- roots stand alone -/
theorem IsP.alone {F : Re → Re} (f : IsP F) (c : Re) (h : ∃ x, F x ≠ 0) : ∃ e : Re, 0 < e ∧ ∀ x, c - e < x → x < c + e → x ≠ c → F x ≠ 0 := by
  obtain ⟨p, hp⟩ := f
  obtain ⟨x, hx⟩ := h
  obtain ⟨k, s, h1, h2, _⟩ := ord _ p c (Nat.le_refl _) ⟨x, by rw [← hp]; exact hx⟩
  obtain ⟨e, e0, he⟩ := ev_near s c h2
  refine ⟨e, e0, fun y y1 y2 y3 => ?_⟩
  rw [hp, h1]
  exact mul_ne_zero (pow_ne (by grind) k) (he y y1 y2).1
/-- no divisors of 0 -/
theorem IsP.cancel {F G : Re → Re} (f : IsP F) (g : IsP G) (h : ∃ x, G x ≠ 0) (z : ∀ x, G x * F x = 0) : ∀ x, F x = 0 := fun c => by
  obtain ⟨e, e0, he⟩ := g.alone c h
  exact f.fill c e0 fun x h1 h2 h3 => (mul_eq_zero (z x)).resolve_left (he x h1 h2 h3)
theorem IsP.cancel_lin {F G : Re → Re} (f : IsP F) (g : IsP G) (a : Re) (z : ∀ x, (x - a) * F x = (x - a) * G x) : ∀ x, F x = G x := fun x => by
  have := (f.sub g).cancel (IsP.id.sub (IsP.const a)) ⟨a + 1, by grind⟩ (fun x => by have := z x; grind) x
  grind
theorem IsP.cancel_pow {F G : Re → Re} (f : IsP F) (g : IsP G) (a : Re) (k : Nat) (z : ∀ x, (x - a) ^ k * F x = (x - a) ^ k * G x) : ∀ x, F x = G x := fun x => by
  have := (f.sub g).cancel ((IsP.id.sub (IsP.const a)).pow k) ⟨a + 1, pow_ne (by grind) k⟩ (fun x => by have := z x; grind) x
  grind
/-- a polynomial function that is 0 everywhere has no coefficients but 0 -/
theorem ev_zero : ∀ (p : P), (∀ x, ev p x = 0) → ∀ a ∈ p, a = 0
  | [], _, a, h => by cases h
  | b :: p, h, a, ha => by
    have hb : b = 0 := by
      have := h 0
      rw [ev_cons] at this
      grind
    have hp : ∀ x, ev p x = 0 := (IsP.ev p).cancel IsP.id ⟨1, by grind⟩ fun x => by
      have := h x
      rw [ev_cons] at this
      grind
    rcases List.mem_cons.mp ha with e | e
    · rw [e, hb]
    · exact ev_zero p hp a e

/-! ### derivatives -/
def D (F : Re → Re) (x d : Re) : Prop := ∃ S : Re → Re, IsP S ∧ (∀ y, F y = F x + (y - x) * S y) ∧ S x = d
theorem D.ev (p : P) (x : Re) : D (ev p) x (dev p x) := ⟨_, IsP.ev (sd p x), ev_sd p x, sd_dev p x⟩
theorem D.uniq {F : Re → Re} {x d e : Re} (h : D F x d) (k : D F x e) : d = e := by
  obtain ⟨S, hS, h1, rfl⟩ := h
  obtain ⟨T, hT, k1, rfl⟩ := k
  refine IsP.cancel_lin hS hT x (fun y => ?_) x
  have := h1 y
  have := k1 y
  grind
theorem D.mul {F G : Re → Re} {x d e : Re} (g : IsP G) (h : D F x d) (k : D G x e) : D (fun y => F y * G y) x (d * G x + F x * e) := by
  obtain ⟨S, hS, h1, rfl⟩ := h
  obtain ⟨T, hT, k1, rfl⟩ := k
  refine ⟨fun y => S y * G y + F x * T y, (hS.mul g).add ((IsP.const _).mul hT), fun y => ?_, rfl⟩
  have := h1 y
  have := k1 y
  grind
theorem D.add {F G : Re → Re} {x d e : Re} (h : D F x d) (k : D G x e) : D (fun y => F y + G y) x (d + e) := by
  obtain ⟨S, hS, h1, rfl⟩ := h
  obtain ⟨T, hT, k1, rfl⟩ := k
  refine ⟨fun y => S y + T y, hS.add hT, fun y => ?_, rfl⟩
  have := h1 y
  have := k1 y
  grind
theorem D.const (c x : Re) : D (fun _ => c) x 0 := ⟨fun _ => 0, IsP.const 0, fun y => by grind, rfl⟩
theorem D.id (x : Re) : D (fun y => y) x 1 := ⟨fun _ => 1, IsP.const 1, fun y => by grind, rfl⟩
theorem D.smul {F : Re → Re} {x d : Re} (c : Re) (h : D F x d) : D (fun y => c * F y) x (c * d) := by
  obtain ⟨S, hS, h1, rfl⟩ := h
  exact ⟨fun y => c * S y, (IsP.const c).mul hS, fun y => by have := h1 y; grind, rfl⟩
theorem D.congr {F G : Re → Re} {x d : Re} (h : D F x d) (e : ∀ y, F y = G y) : D G x d := by
  have : F = G := funext e
  rw [← this]; exact h
theorem dev_mul {p f g : P} (h : ∀ x, ev p x = ev f x * ev g x) (x : Re) : dev p x = dev f x * ev g x + ev f x * dev g x :=
  D.uniq (D.ev p x) (((D.ev f x).mul (IsP.ev g) (D.ev g x)).congr fun y => (h y).symm)
/-- the derivative about a root of order k -/
theorem dev_pow : ∀ (k : Nat) (g s : P) (a : Re), (∀ x, ev g x = (x - a) ^ k * ev s x) → ∀ x, (x - a) * dev g x = (x - a) ^ k * ((k : Re) * ev s x + (x - a) * dev s x)
  | 0, g, s, a, h, x => by
    have e : dev g x = dev s x := D.uniq (D.ev g x) ((D.ev s x).congr fun y => by rw [h y, Lean.Grind.Semiring.pow_zero]; grind)
    rw [e, Lean.Grind.Semiring.pow_zero, show ((0 : Nat) : Re) = 0 from rfl]
    grind
  | k + 1, g, s, a, h, x => by
    have h2 : ∀ y, ev g y = (y - a) ^ k * ev (pmul [-a, 1] s) y := fun y => by
      rw [h y, ev_pmul, Lean.Grind.Semiring.pow_succ]
      simp only [ev]
      grind
    have ih := dev_pow k g _ a h2 x
    have e : dev (pmul [-a, 1] s) x = ev s x + (x - a) * dev s x := by
      rw [dev_mul (f := [-a, 1]) (g := s) (fun y => ev_pmul _ _ _) x]
      simp only [ev, dev]
      grind
    rw [ih, e, ev_pmul, Lean.Grind.Semiring.pow_succ, show ((k + 1 : Nat) : Re) = (k : Re) + 1 from (Lean.Grind.Semiring.natCast_succ k)]
    simp only [ev]
    grind
end Bd

namespace Bd
open Re
/-! ## the part without repeated roots -/
/-- p = f g, p' = h g, g = u p + v p': f has the roots of p, all simple; the value of h at a root is a multiple of f' -/
theorem simple_part {p f g h u v : P} (nz : ∃ x, ev p x ≠ 0) (h1 : ∀ x, ev p x = ev f x * ev g x) (h2 : ∀ x, dev p x = ev h x * ev g x)
    (h3 : ∀ x, ev g x = ev u x * ev p x + ev v x * dev p x) :
    (∀ x, ev u x * ev f x + ev v x * ev h x = 1) ∧ (∀ a, ev p a = 0 → ev f a = 0) ∧
    ∀ a, ev f a = 0 → dev f a ≠ 0 ∧ ∃ k : Nat, k ≤ g.length ∧ ev h a = ((k : Re) + 1) * dev f a := by
  have gz : ∃ x, ev g x ≠ 0 := let ⟨x, hx⟩ := nz; ⟨x, fun z => hx (by rw [h1, z]; grind)⟩
  have bez : ∀ x, ev u x * ev f x + ev v x * ev h x = 1 := fun x => by
    have := IsP.cancel ((((IsP.ev u).mul (IsP.ev f)).add ((IsP.ev v).mul (IsP.ev h))).sub (IsP.const 1)) (IsP.ev g) gz (fun y => by
      have a := h3 y
      rw [h1, h2] at a
      grind) x
    grind
  have key : ∀ a, ∃ (k : Nat) (s : P), k ≤ g.length ∧ (∀ x, ev g x = (x - a) ^ k * ev s x) ∧ ev s a ≠ 0 ∧
      ∀ x, (x - a) * (ev h x - dev f x) * ev s x = ev f x * ((k : Re) * ev s x + (x - a) * dev s x) := fun a => by
    obtain ⟨k, s, e, n, l⟩ := ord _ g a (Nat.le_refl _) gz
    refine ⟨k, s, by omega, e, n, ?_⟩
    refine IsP.cancel_pow ((((IsP.id.sub (IsP.const a)).mul ((IsP.ev h).sub (IsP.dev f))).mul (IsP.ev s)))
      ((IsP.ev f).mul (((IsP.const (k : Re)).mul (IsP.ev s)).add ((IsP.id.sub (IsP.const a)).mul (IsP.dev s)))) a k fun x => ?_
    have d := dev_pow k g s a e x
    have q := dev_mul h1 x
    rw [h2] at q
    have e := e x
    generalize (x - a) ^ k = w at *
    generalize (k : Re) * ev s x + (x - a) * dev s x = t at *
    have q2 : ev f x * (w * t) = ev f x * ((x - a) * dev g x) := by rw [d]
    have q3 : ev f x * ((x - a) * dev g x) = (x - a) * (ev h x * ev g x - dev f x * ev g x) := by rw [q]; grind
    rw [show w * (ev f x * t) = ev f x * (w * t) by grind, q2, q3, e]
    grind
  refine ⟨bez, fun a ha => ?_, fun a ha => ?_⟩
  · obtain ⟨k, s, _, e, n, z⟩ := key a
    rw [h1] at ha
    rcases mul_eq_zero ha with q | q
    · exact q
    · have hk : (k : Re) ≠ 0 := fun hk => by
        have : k = 0 := by
          have := ofRat_inj (a := (k : Rat)) (b := ((0 : Nat) : Rat)) hk
          exact Rat.natCast_inj.mp this
        subst this
        rw [e, Lean.Grind.Semiring.pow_zero] at q
        exact n (by grind)
      have := z a
      have h0 : ev f a * ((k : Re) * ev s a) = 0 := by grind
      exact (mul_eq_zero h0).resolve_right (mul_ne_zero hk n)
  · obtain ⟨k, s, l, e, n, z⟩ := key a
    have ef : ∀ x, ev f x = (x - a) * ev (sd f a) x := fun x => by rw [ev_sd f a x, ha]; grind
    have z2 := IsP.cancel_lin (((IsP.ev h).sub (IsP.dev f)).mul (IsP.ev s)) ((IsP.ev (sd f a)).mul (((IsP.const (k : Re)).mul (IsP.ev s)).add ((IsP.id.sub (IsP.const a)).mul (IsP.dev s)))) a (fun x => by
      have := z x
      rw [ef] at this
      grind) a
    rw [sd_dev] at z2
    have z3 : (ev h a - dev f a - (k : Re) * dev f a) * ev s a = 0 := by grind
    have z4 := (mul_eq_zero z3).resolve_right n
    have eh : ev h a = ((k : Re) + 1) * dev f a := by grind
    refine ⟨fun q => ?_, k, l, eh⟩
    have b := bez a
    rw [ha, eh, q] at b
    have := zero_ne_one
    grind

/-! ## the roots, as a list -/
theorem roots_ex : ∀ (n : Nat) (p : P), p.length ≤ n → (∃ x, ev p x ≠ 0) → ∃ L : List Re, L.Nodup ∧ (∀ x, x ∈ L ↔ ev p x = 0) ∧ L.length < p.length
  | 0, p, hl, ⟨x, hx⟩ => by
    have : p = [] := List.length_eq_zero_iff.mp (by omega)
    subst this
    exact absurd rfl hx
  | n + 1, p, hl, ⟨x, hx⟩ => by
    have pl : p.length ≠ 0 := fun z => by
      have : p = [] := List.length_eq_zero_iff.mp z
      subst this
      exact hx rfl
    by_cases h : ∃ a, ev p a = 0
    · obtain ⟨a, ha⟩ := h
      have e : ∀ y, ev p y = (y - a) * ev (sd p a) y := fun y => by rw [ev_sd p a y, ha]; grind
      have l := sd_len p a
      obtain ⟨L, h1, h2, h3⟩ := roots_ex n (sd p a) (by omega) ⟨x, fun z => hx (by rw [e, z]; grind)⟩
      by_cases hm : a ∈ L
      · refine ⟨L, h1, fun y => ?_, by omega⟩
        rw [h2, e]
        constructor
        · intro z; rw [z]; grind
        · intro z
          rcases mul_eq_zero z with q | q
          · have : y = a := by grind
            rw [this]; exact (h2 a).mp hm
          · exact q
      · refine ⟨a :: L, List.nodup_cons.mpr ⟨hm, h1⟩, fun y => ?_, by rw [List.length_cons]; omega⟩
        rw [List.mem_cons, h2, e]
        constructor
        · rintro (q | q)
          · rw [q]; grind
          · rw [q]; grind
        · intro z
          rcases mul_eq_zero z with q | q
          · exact .inl (by grind)
          · exact .inr q
    · refine ⟨[], List.nodup_nil, fun y => ?_, by rw [List.length_nil]; omega⟩
      constructor
      · intro z; cases z
      · intro z; exact absurd ⟨y, z⟩ h

open Classical in
/-- the number of x with ev p x = 0 in (a, b] -/
noncomputable def cnt (L : List Re) (a b : Rat) : Nat := (L.filter fun x => ofRat a < x ∧ x ≤ ofRat b).length
open Classical in
theorem cnt_add (L : List Re) {a b c : Rat} (h1 : a ≤ b) (h2 : b ≤ c) : cnt L a c = cnt L a b + cnt L b c := by
  have k1 := ofRat_le.mpr h1
  have k2 := ofRat_le.mpr h2
  unfold cnt
  induction L with
  | nil => rfl
  | cons x L ih =>
    by_cases p : ofRat a < x ∧ x ≤ ofRat c
    · rw [List.filter_cons_of_pos (by simpa using p)]
      by_cases q : x ≤ ofRat b
      · rw [List.filter_cons_of_pos (by simpa using ⟨p.1, q⟩), List.filter_cons_of_neg (a := x) (p := fun x => decide (ofRat b < x ∧ x ≤ ofRat c)) (by simp; intro; grind)]
        simp only [List.length_cons]
        omega
      · rw [List.filter_cons_of_neg (a := x) (p := fun x => decide (ofRat a < x ∧ x ≤ ofRat b)) (by simp; intro; grind), List.filter_cons_of_pos (a := x) (p := fun x => decide (ofRat b < x ∧ x ≤ ofRat c)) (by simp; grind)]
        simp only [List.length_cons]
        omega
    · rw [List.filter_cons_of_neg (by simpa using p), List.filter_cons_of_neg (a := x) (p := fun x => decide (ofRat a < x ∧ x ≤ ofRat b)) (by simp; intro; grind),
        List.filter_cons_of_neg (a := x) (p := fun x => decide (ofRat b < x ∧ x ≤ ofRat c)) (by simp; intro; grind)]
      exact ih
open Classical in
theorem cnt_zero (L : List Re) {a b : Rat} (h : ∀ x ∈ L, ofRat a < x → x ≤ ofRat b → False) : cnt L a b = 0 := by
  unfold cnt
  rw [List.length_eq_zero_iff, List.filter_eq_nil_iff]
  intro x hx
  simp
  intro p
  have := h x hx p
  grind
open Classical in
theorem cnt_one (L : List Re) (nd : L.Nodup) {a b : Rat} {c : Re} (hc : c ∈ L) (h1 : ofRat a < c) (h2 : c ≤ ofRat b) (h : ∀ x ∈ L, ofRat a < x → x ≤ ofRat b → x = c) : cnt L a b = 1 := by
  unfold cnt
  induction L with
  | nil => cases hc
  | cons x L ih =>
    have nd' := List.nodup_cons.mp nd
    by_cases e : x = c
    · subst e
      rw [List.filter_cons_of_pos (by simpa using ⟨h1, h2⟩)]
      have : (L.filter fun y => decide (ofRat a < y ∧ y ≤ ofRat b)) = [] := by
        rw [List.filter_eq_nil_iff]
        intro y hy
        simp
        intro p
        refine Classical.byContradiction fun q => nd'.1 ?_
        have := h y (List.mem_cons_of_mem _ hy) p (by grind)
        rw [← this]; exact hy
      rw [this]
      rfl
    · rw [List.filter_cons_of_neg (by simp; intro p; refine Classical.byContradiction fun q => e (h x List.mem_cons_self p (by grind)))]
      exact ih nd'.2 ((List.mem_cons.mp hc).resolve_left (fun z => e z.symm)) fun y hy => h y (List.mem_cons_of_mem _ hy)
open Classical in
theorem cnt_pos (L : List Re) {a b : Rat} {c : Re} (hc : c ∈ L) (h1 : ofRat a < c) (h2 : c ≤ ofRat b) : 1 ≤ cnt L a b := by
  unfold cnt
  exact List.length_pos_of_mem (List.mem_filter.mpr ⟨hc, by simpa using ⟨h1, h2⟩⟩)
end Bd

namespace Bd
open Re
/-! ## Sturm's theorem -/
/-- changes of sign along signs (none: 0), the sign before told -/
def cvs : Option Bool → List (Option Bool) → Nat
  | _, [] => 0
  | s, none :: l => cvs s l
  | none, some b :: l => cvs (some b) l
  | some c, some b :: l => (if c = b then 0 else 1) + cvs (some b) l
open Classical in
noncomputable def sgn (a : Re) : Option Bool := if a = 0 then none else some (decide (a < 0))
theorem sgn_zero {a : Re} (h : a = 0) : sgn a = none := if_pos h
theorem sgn_ne {a : Re} (h : a ≠ 0) : ∃ b, sgn a = some b := ⟨_, if_neg h⟩
theorem sgn_eq {a b : Re} (ha : a ≠ 0) (hb : b ≠ 0) (h : a < 0 ↔ b < 0) : sgn a = sgn b := by
  unfold sgn
  rw [if_neg ha, if_neg hb]
  congr 1
  exact decide_eq_decide.mpr h
theorem sgn_opp {a b : Re} (h : a * b < 0) : ∃ c, sgn a = some c ∧ sgn b = some (!c) := by
  have ha : a ≠ 0 := fun e => by rw [e] at h; grind
  have hb : b ≠ 0 := fun e => by rw [e] at h; grind
  refine ⟨_, if_neg ha, ?_⟩
  unfold sgn
  rw [if_neg hb]
  congr 1
  by_cases k : a < 0
  · have : ¬ b < 0 := fun z => by
      have := mul_pos (a := -a) (b := -b) (by grind) (by grind)
      grind
    simp [k, this]
  · have : b < 0 := by
      refine Classical.byContradiction fun z => ?_
      have := mul_pos (a := a) (b := b) (by grind) (by grind)
      grind
    simp [k, this]
/-- a chain: where a row is 0, the next one is there and has the other sign than the one before; the last is never 0 -/
inductive Ch : P → List P → Prop
  | last (r : P) (h : ∀ x, ev r x ≠ 0) : Ch r []
  | step (r s : P) (l : List P) (h : ∀ x, ev s x = 0 → ∃ t m, l = t :: m ∧ ev r x * ev t x < 0) (k : Ch s l) : Ch r (s :: l)
noncomputable def sgs (l : List P) (x : Re) : List (Option Bool) := l.map fun r => sgn (ev r x)
noncomputable def V (l : List P) (x : Re) : Nat := cvs none (sgs l x)

theorem ch_near (c : Re) : ∀ (n : Nat) (l : List P), l.length ≤ n → ∀ r : P, Ch r l → ev r c ≠ 0 →
    ∃ e : Re, 0 < e ∧ ∀ x, c - e < x → x < c + e → sgn (ev r x) = sgn (ev r c) ∧ cvs (sgn (ev r x)) (sgs l x) = cvs (sgn (ev r c)) (sgs l c) := by
  intro n
  induction n with
  | zero =>
    intro l hl r hr hn
    have : l = [] := List.length_eq_zero_iff.mp (by omega)
    subst this
    obtain ⟨e, e0, he⟩ := ev_near r c hn
    exact ⟨e, e0, fun x h1 h2 => ⟨sgn_eq (he x h1 h2).1 hn (he x h1 h2).2, rfl⟩⟩
  | succ n ih =>
    intro l hl r hr hn
    obtain ⟨e, e0, he⟩ := ev_near r c hn
    cases hr with
    | last _ h => exact ⟨e, e0, fun x h1 h2 => ⟨sgn_eq (he x h1 h2).1 hn (he x h1 h2).2, rfl⟩⟩
    | step _ s l h k =>
      by_cases hs : ev s c = 0
      · obtain ⟨t, m, rfl, neg⟩ := h c hs
        have ht : ev t c ≠ 0 := fun z => by rw [z] at neg; grind
        cases k with
        | step _ _ _ h2 k2 =>
          simp only [List.length_cons] at hl
          obtain ⟨d, d0, hd⟩ := ih m (by omega) t k2 ht
          obtain ⟨w, w0, w1, w2⟩ : ∃ w : Re, 0 < w ∧ w ≤ e ∧ w ≤ d := by
            by_cases z : e ≤ d
            · exact ⟨e, e0, by grind, z⟩
            · exact ⟨d, d0, by grind, by grind⟩
          refine ⟨w, w0, fun x h1 h2 => ?_⟩
          have a1 := he x (by grind) (by grind)
          have a2 := hd x (by grind) (by grind)
          have q := sgn_eq a1.1 hn a1.2
          refine ⟨q, ?_⟩
          obtain ⟨b, b1, b2⟩ := sgn_opp neg
          rw [q, b1]
          simp only [sgs, List.map_cons]
          rw [a2.1, sgn_zero hs, b2]
          have a22 := a2.2
          rw [a2.1, b2] at a22
          simp only [sgs] at a22
          cases z : sgn (ev s x) with
          | none => simp only [cvs, a22]
          | some f => cases b <;> cases f <;> simp only [Bool.not_false, Bool.not_true] at a22 ⊢ <;> simp [cvs, a22]
      · simp only [List.length_cons] at hl
        obtain ⟨d, d0, hd⟩ := ih l (by omega) s k hs
        obtain ⟨w, w0, w1, w2⟩ : ∃ w : Re, 0 < w ∧ w ≤ e ∧ w ≤ d := by
          by_cases z : e ≤ d
          · exact ⟨e, e0, by grind, z⟩
          · exact ⟨d, d0, by grind, by grind⟩
        refine ⟨w, w0, fun x h1 h2 => ?_⟩
        have a1 := he x (by grind) (by grind)
        have a2 := hd x (by grind) (by grind)
        have q := sgn_eq a1.1 hn a1.2
        refine ⟨q, ?_⟩
        obtain ⟨b, b1⟩ := sgn_ne hn
        obtain ⟨f, f1⟩ := sgn_ne hs
        rw [q, b1]
        simp only [sgs, List.map_cons]
        have a22 := a2.2
        rw [a2.1, f1] at a22
        simp only [sgs] at a22
        rw [a2.1, f1]
        simp only [cvs, a22]

/-- about a point -/
theorem sturm_near {r : P} {l : List P} (hc : Ch r l) (hs : ∀ x, ev r x = 0 → ∃ t m, l = t :: m ∧ 0 < ev t x * dev r x) (c : Re) :
    ∃ e : Re, 0 < e ∧ ∀ x, c - e < x → x < c + e → (x ≠ c → ev r x ≠ 0) ∧ (c ≤ x → V (r :: l) x = V (r :: l) c) ∧
      (x < c → (ev r c = 0 → V (r :: l) x = V (r :: l) c + 1) ∧ (ev r c ≠ 0 → V (r :: l) x = V (r :: l) c)) := by
  by_cases h : ev r c = 0
  · obtain ⟨t, m, rfl, pos⟩ := hs c h
    have ht : ev t c ≠ 0 := fun z => by rw [z] at pos; grind
    have hd : dev r c ≠ 0 := fun z => by rw [z] at pos; grind
    cases hc with
    | step _ _ _ _ k =>
      obtain ⟨d, d0, hd2⟩ := ch_near c _ m (Nat.le_refl _) t k ht
      obtain ⟨e, e0, he⟩ := ev_near (sd r c) c (by rw [sd_dev]; exact hd)
      obtain ⟨w, w0, w1, w2⟩ : ∃ w : Re, 0 < w ∧ w ≤ e ∧ w ≤ d := by
        by_cases z : e ≤ d
        · exact ⟨e, e0, by grind, z⟩
        · exact ⟨d, d0, by grind, by grind⟩
      have er : ∀ x, ev r x = (x - c) * ev (sd r c) x := fun x => by rw [ev_sd r c x, h]; grind
      have sg : ev (sd r c) c < 0 ↔ ev t c < 0 := by
        rw [sd_dev]
        constructor
        · intro z
          refine Classical.byContradiction fun q => ?_
          have := mul_neg' (a := ev t c) (b := dev r c) (by grind) z
          grind
        · intro z
          refine Classical.byContradiction fun q => ?_
          have := mul_neg' (a := dev r c) (b := ev t c) (by grind) z
          grind
      refine ⟨w, w0, fun x h1 h2 => ?_⟩
      have a1 := he x (by grind) (by grind)
      have a2 := hd2 x (by grind) (by grind)
      obtain ⟨f, f1⟩ := sgn_ne ht
      have a22 := a2.2
      rw [a2.1, f1] at a22
      simp only [sgs] at a22
      refine ⟨fun ne => ?_, fun le => ?_, fun lt => ⟨fun _ => ?_, fun z => absurd h z⟩⟩
      · rw [er]
        exact mul_ne_zero (by grind) a1.1
      · by_cases xc : x = c
        · rw [xc]
        · have : sgn (ev r x) = some f := by
            rw [← f1, er]
            refine sgn_eq (mul_ne_zero (by grind) a1.1) ht ?_
            rw [← sg, ← a1.2]
            constructor
            · intro z
              refine Classical.byContradiction fun q => ?_
              have := mul_pos (a := x - c) (b := ev (sd r c) x) (by grind) (by have := a1.1; grind)
              grind
            · intro z
              exact mul_neg' (by grind) z
          simp only [V, sgs, List.map_cons]
          rw [this, a2.1, sgn_zero h, f1]
          simp [cvs, a22]
      · have : ev r x * ev t c < 0 := by
          rw [er]
          by_cases z : ev t c < 0
          · have s := a1.2.mpr (sg.mpr z)
            have q := mul_pos (a := c - x) (b := - ev (sd r c) x) (by grind) (by grind)
            have := mul_neg' q z
            grind
          · have s : 0 < ev (sd r c) x := by
              have := a1.1
              have := mt a1.2.mp (mt sg.mp z)
              grind
            have q := mul_pos (a := c - x) (b := ev (sd r c) x) (by grind) (by grind)
            have := mul_pos q (b := ev t c) (by grind)
            grind
        obtain ⟨b, b1, b2⟩ := sgn_opp this
        simp only [V, sgs, List.map_cons]
        rw [a2.1, sgn_zero h, b1, b2]
        rw [b2] at f1
        rw [← Option.some.inj f1] at a22
        cases b <;> simp only [Bool.not_false, Bool.not_true] at a22 ⊢ <;> simp [cvs, a22] <;> omega
  · obtain ⟨d, d0, hd2⟩ := ch_near c _ l (Nat.le_refl _) r hc h
    obtain ⟨e, e0, he⟩ := ev_near r c h
    obtain ⟨w, w0, w1, w2⟩ : ∃ w : Re, 0 < w ∧ w ≤ e ∧ w ≤ d := by
      by_cases z : e ≤ d
      · exact ⟨e, e0, by grind, z⟩
      · exact ⟨d, d0, by grind, by grind⟩
    refine ⟨w, w0, fun x h1 h2 => ?_⟩
    have a1 := he x (by grind) (by grind)
    have a2 := hd2 x (by grind) (by grind)
    obtain ⟨f, f1⟩ := sgn_ne h
    have a22 := a2.2
    rw [a2.1, f1] at a22
    simp only [sgs] at a22
    have same : V (r :: l) x = V (r :: l) c := by
      simp only [V, sgs, List.map_cons]
      rw [a2.1, f1]
      simp [cvs, a22]
    exact ⟨fun _ => a1.1, fun _ => same, fun _ => ⟨fun z => absurd z h, fun _ => same⟩⟩

theorem sturm {r : P} {l : List P} (hc : Ch r l) (hs : ∀ x, ev r x = 0 → ∃ t m, l = t :: m ∧ 0 < ev t x * dev r x) {L : List Re} (nd : L.Nodup) (hL : ∀ x, x ∈ L ↔ ev r x = 0)
    {a b : Rat} (hab : a < b) : V (r :: l) (ofRat a) = V (r :: l) (ofRat b) + cnt L a b := by
  refine Classical.byContradiction fun bad => ?_
  obtain ⟨c, _, _, h⟩ := bisect (bad := fun x y => ¬ V (r :: l) (ofRat x) = V (r :: l) (ofRat y) + cnt L x y) hab bad fun x y hxy hb => by
    refine Classical.byContradiction fun q => hb ?_
    have q := not_or.mp q
    have q1 := Classical.not_not.mp q.1
    have q2 := Classical.not_not.mp q.2
    rw [cnt_add L (b := (x + y) / 2) (by grind) (by grind)]
    omega
  obtain ⟨e, e0, he⟩ := sturm_near hc hs c
  obtain ⟨x, y, _, hxy, _, hb, h1, h2, h3⟩ := h e e0
  have lxy := ofRat_lt.mpr hxy
  refine hb ?_
  have hy := he (ofRat y) (by grind) (by grind)
  have hx := he (ofRat x) (by grind) (by grind)
  have no : ∀ z ∈ L, ofRat x < z → z ≤ ofRat y → z = c := fun z hz z1 z2 => by
    refine Classical.byContradiction fun ne => ?_
    exact (he z (by grind) (by grind)).1 ne ((hL z).mp hz)
  rw [hy.2.1 h2]
  by_cases xc : ofRat x < c
  · by_cases z : ev r c = 0
    · rw [(hx.2.2 xc).1 z, cnt_one L nd ((hL c).mpr z) xc h2 no]
    · rw [(hx.2.2 xc).2 z, cnt_zero L fun w hw w1 w2 => by
        have := no w hw w1 w2
        rw [this] at hw
        exact z ((hL c).mp hw)]
      rfl
  · have xe : ofRat x = c := by grind
    rw [hx.2.1 (by grind), cnt_zero L fun w hw w1 w2 => by
      have := no w hw w1 w2
      grind]
    rfl

/-- a root between two values of unlike sign -/
theorem ivt (p : P) {a b : Rat} (hab : a < b) (h : ev p (ofRat a) * ev p (ofRat b) < 0) : ∃ c : Re, ofRat a < c ∧ c < ofRat b ∧ ev p c = 0 := by
  obtain ⟨c, c1, c2, hc⟩ := bisect (bad := fun x y => ev p (ofRat x) * ev p (ofRat y) ≤ 0) hab (by grind) fun x y hxy hb => by
    refine Classical.byContradiction fun q => ?_
    have q := not_or.mp q
    have q1 : 0 < ev p (ofRat x) * ev p (ofRat ((x + y) / 2)) := by have := q.1; grind
    have q2 : 0 < ev p (ofRat ((x + y) / 2)) * ev p (ofRat y) := by have := q.2; grind
    have q3 := mul_pos q1 q2
    have sq : 0 ≤ ev p (ofRat ((x + y) / 2)) * ev p (ofRat ((x + y) / 2)) := by
      by_cases z : 0 ≤ ev p (ofRat ((x + y) / 2))
      · exact mul_nonneg z z
      · have := mul_nonneg (a := - ev p (ofRat ((x + y) / 2))) (b := - ev p (ofRat ((x + y) / 2))) (by grind) (by grind)
        grind
    have := mul_nonneg sq (b := - (ev p (ofRat x) * ev p (ofRat y))) (by grind)
    grind
  have z : ev p c = 0 := by
    refine Classical.byContradiction fun n => ?_
    obtain ⟨e, e0, he⟩ := ev_near p c n
    obtain ⟨x, y, _, hxy, _, hb, h1, h2, h3⟩ := hc e e0
    have lxy := ofRat_lt.mpr hxy
    have hy := he (ofRat y) (by grind) (by grind)
    have hx := he (ofRat x) (by grind) (by grind)
    by_cases k : ev p c < 0
    · have := mul_pos (a := - ev p (ofRat x)) (b := - ev p (ofRat y)) (by have := hx.2.mpr k; grind) (by have := hy.2.mpr k; grind)
      grind
    · have := mul_pos (a := ev p (ofRat x)) (b := ev p (ofRat y)) (by have := hx.1; have := mt hx.2.mp k; grind) (by have := hy.1; have := mt hy.2.mp k; grind)
      grind
  refine ⟨c, ?_, ?_, z⟩
  · refine Classical.byContradiction fun n => ?_
    have : ofRat a = c := by grind
    rw [this, z] at h
    grind
  · refine Classical.byContradiction fun n => ?_
    have : ofRat b = c := by grind
    rw [this, z] at h
    grind
end Bd

namespace Bd
open Re
/-! ## Descartes' rule -/
/-- the coefficients of the quotient by x - a, turned -/
def gq : P → Re → P
  | [], _ => []
  | _ :: p, a => (- ev p a) :: gq p a
theorem sgn_neg_eq (a : Re) : sgn (-a) = (sgn a).map (!·) := by
  unfold sgn
  by_cases h : a = 0
  · rw [if_pos h, if_pos (by grind)]; rfl
  · rw [if_neg h, if_neg (by grind)]
    simp only [Option.map_some]
    congr 1
    by_cases k : a < 0
    · have : ¬ -a < 0 := by grind
      simp [k, this]
    · have : -a < 0 := by grind
      simp [k, this]
theorem cvs_flip : ∀ (l : List (Option Bool)) (s : Option Bool), cvs (s.map (!·)) (l.map fun o => o.map (!·)) = cvs s l
  | [], s => by cases s <;> rfl
  | none :: l, s => by
    have := cvs_flip l s
    cases s <;> simpa [cvs] using this
  | some b :: l, s => by
    have := cvs_flip l (some b)
    cases s with
    | none => simpa [cvs] using this
    | some c => cases b <;> cases c <;> simpa [cvs] using this
theorem gq_sd : ∀ (p : P) (a : Re) (s : Option Bool), cvs s ((gq p a).map sgn) = cvs s (((sd p a).map sgn).map fun o => o.map (!·))
  | [], a, s => by cases s <;> rfl
  | [c], a, s => by
    have e : sgn (-(0 : Re)) = none := sgn_zero (by grind)
    cases s <;> simp [gq, ev, sd, cvs, e]
  | c :: b :: p, a, s => by
    have ih := gq_sd (b :: p) a
    rw [gq, sd]
    simp only [List.map_cons]
    rw [sgn_neg_eq]
    cases z : sgn (ev (b :: p) a) with
    | none => cases s <;> simp only [Option.map_none, cvs, ih]
    | some d => cases s <;> simp only [Option.map_some, cvs, ih]
theorem gq_cvs (p : P) (a : Re) : cvs none ((gq p a).map sgn) = cvs none ((sd p a).map sgn) := by
  rw [gq_sd]
  exact cvs_flip _ none
theorem sgn_pos_mul {a b : Re} (h : 0 < a) : sgn (a * b) = sgn b := by
  by_cases k : b = 0
  · rw [sgn_zero k, sgn_zero (by rw [k]; grind)]
  · refine sgn_eq (mul_ne_zero (by grind) k) k ⟨fun z => ?_, fun z => mul_neg' h z⟩
    refine Classical.byContradiction fun q => ?_
    have := mul_pos h (b := b) (by grind)
    grind
open Classical in
theorem sgn_some {a : Re} {b : Bool} (h : sgn a = some b) : a ≠ 0 ∧ (b = true ↔ a < 0) := by
  unfold sgn at h
  by_cases k : a = 0
  · rw [if_pos k] at h; cases h
  · rw [if_neg k] at h
    refine ⟨k, ?_⟩
    have := Option.some.inj h
    rw [← this]
    exact decide_eq_true_iff
theorem sgn_none {a : Re} (h : sgn a = none) : a = 0 := by
  unfold sgn at h
  by_cases k : a = 0
  · exact k
  · rw [if_neg k] at h; cases h
theorem desc_core {α : Re} (ha : 0 < α) : ∀ (p : P) (u v : Bool), (ev p α ≠ 0 → sgn (- ev p α) = some v) → (ev p α = 0 → u ≠ v) →
    cvs (some v) ((gq p α).map sgn) + 1 ≤ cvs (some u) (p.map sgn) + (if u = v then 0 else 1)
  | [], u, v, h1, h2 => by
    have := h2 rfl
    simp [gq, cvs, this]
  | a :: p, u, v, h1, h2 => by
    have ih := desc_core ha p
    rw [ev_cons] at h1 h2
    simp only [gq, List.map_cons]
    cases za : sgn a with
    | none =>
      have a0 := sgn_none za
      have es : sgn (-(a + α * ev p α)) = sgn (- ev p α) := by
        rw [show -(a + α * ev p α) = α * (- ev p α) by grind, sgn_pos_mul ha]
      cases zw : sgn (- ev p α) with
      | none =>
        have w0 := sgn_none zw
        simp only [cvs]
        exact ih u v (fun z => absurd (show ev p α = 0 by grind) z) fun z => h2 (by rw [a0, z]; grind)
      | some b =>
        have w0 := (sgn_some zw).1
        have hn : a + α * ev p α ≠ 0 := by
          have := mul_ne_zero (a := α) (b := ev p α) (by grind) (by grind)
          grind
        have := h1 hn
        rw [es, zw] at this
        obtain rfl := Option.some.inj this
        simp only [cvs, if_true]
        have := ih u b (fun _ => zw) (fun z => absurd (show - ev p α = 0 by grind) w0)
        omega
    | some t =>
      have a0 := sgn_some za
      cases zw : sgn (- ev p α) with
      | none =>
        have w0 := sgn_none zw
        have hn : a + α * ev p α ≠ 0 := by
          have : ev p α = 0 := by grind
          rw [this]; have := a0.1; grind
        have hv := h1 hn
        have hv2 := sgn_some hv
        have e : α * ev p α = 0 := by
          have : ev p α = 0 := by grind
          rw [this]; grind
        have tv : t ≠ v := fun z => by
          subst z
          have := a0.2
          have := hv2.2
          have := a0.1
          grind
        have := ih t v (fun z => absurd (show ev p α = 0 by grind) z) (fun _ => tv)
        simp only [cvs]
        rw [if_neg tv] at this
        have : (if u = t then 0 else 1) + (if u = v then 0 else 1) ≥ 1 := by
          by_cases k : u = t
          · subst k; rw [if_neg tv]; omega
          · rw [if_neg k]; omega
        omega
      | some t' =>
        have w0 := sgn_some zw
        have := ih t t' (fun _ => zw) (fun z => absurd (show - ev p α = 0 by grind) w0.1)
        simp only [cvs]
        by_cases tt : t = t'
        · subst tt
          rw [if_pos rfl] at this
          have : (if v = t then 0 else 1) ≤ (if u = t then 0 else 1) + (if u = v then 0 else 1) := by
            cases u <;> cases v <;> cases t <;> decide
          omega
        · have vt : v = t' := by
            have hh : sgn (-(a + α * ev p α)) = some t' := by
              rw [← zw]
              have pw : (- ev p α < 0 ∧ 0 < a) ∨ (0 < - ev p α ∧ a < 0) := by
                cases t <;> cases t'
                · exact absurd rfl tt
                · exact .inl ⟨w0.2.mp rfl, by have := a0.1; have := a0.2; grind⟩
                · exact .inr ⟨by have := w0.1; have := w0.2; grind, a0.2.mp rfl⟩
                · exact absurd rfl tt
              rcases pw with ⟨z1, z2⟩ | ⟨z1, z2⟩
              · have := mul_neg' ha z1
                exact sgn_eq (by grind) (by grind) (by grind)
              · have := mul_pos ha z1
                exact sgn_eq (by grind) (by grind) (by grind)
            have hn : a + α * ev p α ≠ 0 := by
              have := (sgn_some hh).1
              grind
            have := h1 hn
            rw [hh] at this
            exact (Option.some.inj this).symm
          subst vt
          rw [if_neg tt] at this
          have : (if u = t then 0 else 1) + (if u = v then 0 else 1) ≥ 1 := by
            by_cases k : u = t
            · subst k; rw [if_neg tt]; omega
            · rw [if_neg k]; omega
          rw [if_pos rfl]
          omega
theorem desc_step {α : Re} (ha : 0 < α) : ∀ (p : P), ev p α = 0 → (∃ a ∈ p, a ≠ 0) → cvs none ((gq p α).map sgn) + 1 ≤ cvs none (p.map sgn)
  | [], _, ⟨a, h, _⟩ => by cases h
  | a :: p, h0, ⟨b, hb, bn⟩ => by
    rw [ev_cons] at h0
    simp only [gq, List.map_cons]
    cases za : sgn a with
    | none =>
      have a0 := sgn_none za
      have w0 : ev p α = 0 := by
        have : α * ev p α = 0 := by grind
        exact (mul_eq_zero this).resolve_left (by grind)
      have : sgn (- ev p α) = none := sgn_zero (by grind)
      rw [this]
      simp only [cvs]
      refine desc_step ha p w0 ?_
      rcases List.mem_cons.mp hb with e | e
      · exact absurd (e.trans a0) bn
      · exact ⟨b, e, bn⟩
    | some t =>
      have e : sgn (- ev p α) = some t := by
        rw [← za, ← sgn_pos_mul ha (b := - ev p α)]
        congr 1
        grind
      have w0 := sgn_some e
      have := desc_core ha p t t (fun _ => e) (fun z => absurd (show - ev p α = 0 by grind) w0.1)
      rw [e]
      simp only [cvs]
      rw [if_pos rfl] at this
      omega
theorem descartes : ∀ (K : List Re) (p : P), K.Nodup → (∀ x ∈ K, 0 < x ∧ ev p x = 0) → (∃ a ∈ p, a ≠ 0) → K.length ≤ cvs none (p.map sgn)
  | [], p, _, _, _ => Nat.zero_le _
  | α :: K, p, nd, h, nz => by
    have hα := h α List.mem_cons_self
    have nd' := List.nodup_cons.mp nd
    have e : ∀ y, ev p y = (y - α) * ev (sd p α) y := fun y => by rw [ev_sd p α y, hα.2]; grind
    have k := desc_step hα.1 p hα.2 nz
    rw [gq_cvs] at k
    have nz' : ∃ a ∈ sd p α, a ≠ 0 := by
      refine Classical.byContradiction fun z => ?_
      have z' : ∀ a ∈ sd p α, a = 0 := fun a ha => Classical.byContradiction fun q => z ⟨a, ha, q⟩
      have ez : ∀ (l : P), (∀ a ∈ l, a = 0) → ∀ y, ev l y = 0 := fun l hl y => by
        induction l with
        | nil => rfl
        | cons a l ih =>
          rw [ev_cons, hl a List.mem_cons_self, ih fun b hb => hl b (List.mem_cons_of_mem _ hb)]
          grind
      obtain ⟨a, ha, an⟩ := nz
      exact an (ev_zero p (fun y => by rw [e, ez _ z']; grind) a ha)
    have ih := descartes K (sd p α) nd'.2 (fun x hx => by
      have hx' := h x (List.mem_cons_of_mem _ hx)
      refine ⟨hx'.1, ?_⟩
      rw [e] at hx'
      refine (mul_eq_zero hx'.2).resolve_left fun z => nd'.1 ?_
      have : x = α := by grind
      rw [← this]; exact hx) nz'
    rw [List.length_cons]
    omega

/-! ## changes of sign between places -/
theorem samp {p : P} {L : List Re} (hL : ∀ x, x ∈ L ↔ ev p x = 0) (z : Rat) : ∀ (xs : List Rat) (x0 : Rat) (b : Bool), sgn (ev p (ofRat x0)) = some b → (x0 :: xs).Pairwise (· < ·) → (∀ x ∈ x0 :: xs, x ≤ z) →
    cvs (some b) (xs.map fun x => sgn (ev p (ofRat x))) ≤ cnt L x0 z
  | [], _, _, _, _, _ => Nat.zero_le _
  | y :: ys, x0, b, hb, pw, hz => by
    have pw1 := List.pairwise_cons.mp pw
    have lt := pw1.1 y List.mem_cons_self
    have yz := hz y (by simp)
    simp only [List.map_cons]
    cases hy : sgn (ev p (ofRat y)) with
    | none =>
      simp only [cvs]
      refine samp hL z ys x0 b hb ?_ fun x hx => hz x ?_
      · exact List.pairwise_cons.mpr ⟨fun w hw => pw1.1 w (List.mem_cons_of_mem _ hw), (List.pairwise_cons.mp pw1.2).2⟩
      · rcases List.mem_cons.mp hx with e | e
        · rw [e]; exact List.mem_cons_self
        · exact List.mem_cons_of_mem _ (List.mem_cons_of_mem _ e)
    | some c =>
      have ih := samp hL z ys y c hy pw1.2 fun x hx => hz x (List.mem_cons_of_mem _ hx)
      simp only [cvs]
      rw [cnt_add L (Rat.le_of_lt lt) yz]
      by_cases e : b = c
      · rw [if_pos e]; omega
      · rw [if_neg e]
        have s1 := sgn_some hb
        have s2 := sgn_some hy
        have neg : ev p (ofRat x0) * ev p (ofRat y) < 0 := by
          cases b <;> cases c
          · exact absurd rfl e
          · have := mul_neg' (a := ev p (ofRat x0)) (b := ev p (ofRat y)) (by have := s1.1; have := s1.2; grind) (s2.2.mp rfl)
            grind
          · have := mul_neg' (a := ev p (ofRat y)) (b := ev p (ofRat x0)) (by have := s2.1; have := s2.2; grind) (s1.2.mp rfl)
            grind
          · exact absurd rfl e
        obtain ⟨r, r1, r2, r3⟩ := ivt p lt neg
        have := cnt_pos L ((hL r).mpr r3) r1 (by grind : r ≤ ofRat y)
        omega
theorem samples {p : P} {L : List Re} (hL : ∀ x, x ∈ L ↔ ev p x = 0) {a z : Rat} : ∀ (xs : List Rat), xs.Pairwise (· < ·) → (∀ x ∈ xs, a ≤ x ∧ x ≤ z) →
    cvs none (xs.map fun x => sgn (ev p (ofRat x))) ≤ cnt L a z
  | [], _, _ => Nat.zero_le _
  | y :: ys, pw, hz => by
    have pw1 := List.pairwise_cons.mp pw
    simp only [List.map_cons]
    cases hy : sgn (ev p (ofRat y)) with
    | none =>
      simp only [cvs]
      exact samples hL ys pw1.2 fun x hx => hz x (List.mem_cons_of_mem _ hx)
    | some c =>
      simp only [cvs]
      have h1 := samp hL z ys y c hy pw fun x hx => (hz x hx).2
      have h2 := hz y List.mem_cons_self
      rw [cnt_add L h2.1 h2.2]
      omega
end Bd

namespace Bd
open Re
/-! ## drawers -/
theorem cls_len (b : Nat) : ∀ (K : Nat) (g : Nat → Nat) (T : List Nat), (∀ t ∈ T, g t < K) → (∀ c, c < K → (T.filter fun t => g t == c).length ≤ b) → T.length ≤ K * b
  | 0, g, T, h, _ => by
    cases T with
    | nil => simp
    | cons t T => exact absurd (h t List.mem_cons_self) (Nat.not_lt_zero _)
  | K + 1, g, T, h, k => by
    have h1 := cls_len b K g (T.filter fun t => !(g t == K)) (fun t ht => by
      have := List.mem_filter.mp ht
      have h2 := h t this.1
      have h3 : g t ≠ K := by simpa using this.2
      omega) fun c hc => by
        refine Nat.le_trans ?_ (k c (by omega))
        rw [List.filter_filter]
        refine Nat.le_of_eq (congrArg List.length ?_)
        refine List.filter_congr fun t ht => ?_
        by_cases e : g t = c
        · have : ¬ g t = K := by omega
          simp [e]; omega
        · simp [e]
    have h2 := k K (by omega)
    have h3 : T.length = (T.filter fun t => g t == K).length + (T.filter fun t => !(g t == K)).length := by
      clear h k h1 h2
      induction T with
      | nil => rfl
      | cons t T ih =>
        by_cases e : g t = K
        · simp [e]; omega
        · simp [e]; omega
    rw [Nat.succ_mul]
    omega
theorem drawers (H : Nat) (f : Nat → Nat → Int) : ∀ (m : Nat) (T : List Nat), T.Nodup → (∀ i, i < m → ∀ t ∈ T, (f i t).natAbs ≤ H) → (2 * H + 1) ^ m < T.length →
    ∃ t u, t ∈ T ∧ u ∈ T ∧ t ≠ u ∧ ∀ i, i < m → f i t = f i u
  | 0, T, nd, _, hl => by
    match T, nd, hl with
    | [], _, hl => simp at hl
    | [t], _, hl => simp at hl
    | t :: u :: T, nd, _ =>
      refine ⟨t, u, by simp, by simp, fun e => ?_, fun i hi => absurd hi (Nat.not_lt_zero _)⟩
      exact (List.nodup_cons.mp nd).1 (by rw [e]; exact List.mem_cons_self)
  | m + 1, T, nd, hf, hl => by
    have hx : ∃ c, c < 2 * H + 1 ∧ (2 * H + 1) ^ m < (T.filter fun t => (f m t + (H : Int)).toNat == c).length := by
      refine Classical.byContradiction fun n => ?_
      have := cls_len ((2 * H + 1) ^ m) (2 * H + 1) (fun t => (f m t + (H : Int)).toNat) T (fun t ht => by
        have := hf m (by omega) t ht
        omega) fun c hc => by
          refine Nat.le_of_not_lt fun z => n ⟨c, hc, z⟩
      rw [Nat.pow_succ, Nat.mul_comm] at hl
      omega
    obtain ⟨c, hc, hlen⟩ := hx
    obtain ⟨t, u, ht, hu, ne, e⟩ := drawers H f m _ (nd.sublist List.filter_sublist) (fun i hi t ht => hf i (by omega) t (List.mem_filter.mp ht).1) hlen
    have ht' := List.mem_filter.mp ht
    have hu' := List.mem_filter.mp hu
    refine ⟨t, u, ht'.1, hu'.1, ne, fun i hi => ?_⟩
    by_cases k : i < m
    · exact e i k
    · have : i = m := by omega
      subst this
      have h1 := hf i (by omega) t ht'.1
      have h2 := hf i (by omega) u hu'.1
      have h3 : (f i t + (H : Int)).toNat = c := by simpa using ht'.2
      have h4 : (f i u + (H : Int)).toNat = c := by simpa using hu'.2
      omega

/-! ## polynomials with whole coefficients -/
abbrev Z := List Int
def toR (n : Int) : Re := ofRat n
def cZ (p : Z) : P := p.map toR
theorem toR_add (a b : Int) : toR (a + b) = toR a + toR b := by unfold toR; rw [Rat.intCast_add]; rfl
theorem toR_mul (a b : Int) : toR (a * b) = toR a * toR b := by unfold toR; rw [Rat.intCast_mul]; rfl
theorem toR_sub (a b : Int) : toR (a - b) = toR a - toR b := by unfold toR; rw [Rat.intCast_sub, ofRat_sub]
theorem toR_neg (a : Int) : toR (-a) = - toR a := by unfold toR; rw [Rat.intCast_neg]; rfl
theorem toR_zero : toR 0 = 0 := rfl
theorem toR_one : toR 1 = 1 := rfl
theorem toR_inj {a b : Int} (h : toR a = toR b) : a = b := Rat.intCast_inj.mp (ofRat_inj h)
theorem toR_lt {a b : Int} : toR a < toR b ↔ a < b := by unfold toR; rw [ofRat_lt, Rat.intCast_lt_intCast]
theorem toR_le {a b : Int} : toR a ≤ toR b ↔ a ≤ b := by unfold toR; rw [ofRat_le, Rat.intCast_le_intCast]
def zadd : Z → Z → Z
  | [], q => q
  | a :: p, [] => a :: p
  | a :: p, b :: q => (a + b) :: zadd p q
def zmul : Z → Z → Z
  | [], _ => []
  | a :: p, q => zadd (q.map (a * ·)) (0 :: zmul p q)
theorem ev_zadd : ∀ (p q : Z) (x : Re), ev (cZ (zadd p q)) x = ev (cZ p) x + ev (cZ q) x
  | [], q, x => by simp only [zadd, cZ, List.map, ev]; grind
  | a :: p, [], x => by simp only [zadd, cZ, List.map, ev]; grind
  | a :: p, b :: q, x => by
    have ih := ev_zadd p q x
    simp only [cZ] at ih
    simp only [zadd, cZ, List.map, ev, ih, toR_add]; grind
theorem ev_zsmul (c : Int) (p : Z) (x : Re) : ev (cZ (p.map (c * ·))) x = toR c * ev (cZ p) x := by
  induction p with
  | nil => simp only [cZ, List.map, ev]; grind
  | cons a p ih =>
    simp only [cZ] at ih
    simp only [cZ, List.map, ev, ih, toR_mul]; grind
theorem ev_zmul : ∀ (p q : Z) (x : Re), ev (cZ (zmul p q)) x = ev (cZ p) x * ev (cZ q) x
  | [], q, x => by simp only [zmul, cZ, List.map, ev]; grind
  | a :: p, q, x => by
    have ih := ev_zmul p q x
    rw [zmul, ev_zadd, ev_zsmul]
    simp only [cZ] at ih
    simp only [cZ, List.map, ev, ih, toR_zero]
    grind
def zsub (p q : Z) : Z := zadd p (q.map ((-1) * ·))
theorem ev_zsub (p q : Z) (x : Re) : ev (cZ (zsub p q)) x = ev (cZ p) x - ev (cZ q) x := by
  unfold zsub
  rw [ev_zadd, ev_zsmul, toR_neg, toR_one]
  grind
theorem zadd_get : ∀ (p q : Z) (i : Nat), (zadd p q).getD i 0 = p.getD i 0 + q.getD i 0
  | [], q, i => by simp [zadd]
  | a :: p, [], i => by simp [zadd]
  | a :: p, b :: q, 0 => by simp [zadd]
  | a :: p, b :: q, i + 1 => by
    have := zadd_get p q i
    simpa [zadd] using this
theorem zsmul_get (c : Int) : ∀ (p : Z) (i : Nat), (p.map (c * ·)).getD i 0 = c * p.getD i 0
  | [], i => by simp
  | a :: p, 0 => by simp
  | a :: p, i + 1 => by
    have := zsmul_get c p i
    simpa using this
theorem zsub_get (p q : Z) (i : Nat) : (zsub p q).getD i 0 = p.getD i 0 - q.getD i 0 := by
  unfold zsub
  rw [zadd_get, zsmul_get]
  omega
theorem zadd_len : ∀ (p q : Z), (zadd p q).length = max p.length q.length
  | [], q => by simp [zadd]
  | a :: p, [] => by simp [zadd]
  | a :: p, b :: q => by
    have := zadd_len p q
    simp only [zadd, List.length_cons, this]
    omega
theorem zsub_len (p q : Z) : (zsub p q).length = max p.length q.length := by
  unfold zsub
  rw [zadd_len, List.length_map]
theorem zmul_len : ∀ (p q : Z), q ≠ [] → (zmul p q).length ≤ p.length + q.length - 1
  | [], q, _ => by simp [zmul]
  | a :: p, q, h => by
    have := zmul_len p q h
    have : 0 < q.length := List.length_pos_iff.mpr h
    simp only [zmul, zadd_len, List.length_map, List.length_cons]
    omega
def pre (A : Z) : Nat → Nat
  | 0 => (A.getD 0 0).natAbs
  | i + 1 => pre A i + (A.getD (i + 1) 0).natAbs
def l1 : Z → Nat
  | [] => 0
  | a :: p => a.natAbs + l1 p
theorem pre_le : ∀ (A : Z) (i : Nat), pre A i ≤ l1 A
  | [], i => by
    have : ∀ i, pre [] i = 0 := fun i => by
      induction i with
      | zero => rfl
      | succ i ih => rw [pre, ih]; rfl
    rw [this]; exact Nat.zero_le _
  | a :: p, 0 => by simp [pre, l1]
  | a :: p, i + 1 => by
    have e : ∀ i, pre (a :: p) (i + 1) = a.natAbs + pre p i := fun i => by
      induction i with
      | zero => simp [pre]
      | succ i ih =>
        rw [pre, ih, pre]
        simp
        omega
    rw [e, l1]
    have := pre_le p i
    omega
theorem zmul_bound (X : Nat) (A : Z) : ∀ (u : Z), (∀ c ∈ u, c.natAbs ≤ X) → ∀ i, ((zmul u A).getD i 0).natAbs ≤ X * pre A i
  | [], _, i => by simp [zmul]
  | a :: u, h, i => by
    have ih := zmul_bound X A u fun c hc => h c (List.mem_cons_of_mem _ hc)
    have ha := h a List.mem_cons_self
    rw [zmul, zadd_get, zsmul_get]
    have m : (a * A.getD i 0).natAbs ≤ X * (A.getD i 0).natAbs := by
      rw [Int.natAbs_mul]
      exact Nat.mul_le_mul_right _ ha
    cases i with
    | zero =>
      simp only [List.getD_cons_zero, Int.add_zero]
      rw [pre]
      exact m
    | succ i =>
      have := ih i
      simp only [List.getD_cons_succ]
      rw [pre, Nat.mul_add]
      have := Int.natAbs_add_le (a * A.getD (i + 1) 0) ((zmul u A).getD i 0)
      omega
/-! ## digits -/
def dig (B : Nat) : Nat → Nat → Z
  | 0, _ => []
  | n + 1, t => ((t % B : Nat) : Int) :: dig B n (t / B)
theorem dig_len (B : Nat) : ∀ (n t : Nat), (dig B n t).length = n
  | 0, _ => rfl
  | n + 1, t => by rw [dig, List.length_cons, dig_len B n]
theorem dig_bd {B : Nat} (hB : 0 < B) : ∀ (n t : Nat), ∀ c ∈ dig B n t, 0 ≤ c ∧ c < B
  | 0, _, c, h => by cases h
  | n + 1, t, c, h => by
    rcases List.mem_cons.mp h with e | e
    · subst e
      have := Nat.mod_lt t hB
      omega
    · exact dig_bd hB n _ c e
theorem dig_inj {B : Nat} (hB : 0 < B) : ∀ (n t u : Nat), t < B ^ n → u < B ^ n → dig B n t = dig B n u → t = u
  | 0, t, u, ht, hu, _ => by simp at ht hu; omega
  | n + 1, t, u, ht, hu, h => by
    rw [dig, dig] at h
    have h1 := (List.cons.inj h).1
    have h2 := dig_inj hB n (t / B) (u / B) (by rw [Nat.pow_succ] at ht; exact Nat.div_lt_of_lt_mul (by rw [Nat.mul_comm]; exact ht)) (by rw [Nat.pow_succ] at hu; exact Nat.div_lt_of_lt_mul (by rw [Nat.mul_comm]; exact hu)) (List.cons.inj h).2
    have h3 : t % B = u % B := by omega
    rw [← Nat.div_add_mod t B, ← Nat.div_add_mod u B, h2, h3]
/-! ## Siegel: small multipliers -/
theorem ev_short : ∀ (w : Z) (d : Nat), (∀ i, d ≤ i → w.getD i 0 = 0) → ∀ x, ev (cZ w) x = ev (cZ (w.take d)) x
  | [], d, _, x => by simp
  | a :: w, 0, h, x => by
    have h0 := h 0 (Nat.zero_le _)
    have ih := ev_short w 0 (fun i _ => by have := h (i + 1) (Nat.zero_le _); simpa using this) x
    simp only [List.getD_cons_zero] at h0
    simp only [List.take_zero] at ih ⊢
    simp only [cZ, List.map, ev] at ih ⊢
    rw [ih, h0, toR_zero]
    grind
  | a :: w, d + 1, h, x => by
    have ih := ev_short w d (fun i hi => by have := h (i + 1) (by omega); simpa using this) x
    simp only [cZ] at ih
    simp only [List.take_succ_cons, cZ, List.map, ev, ih]
theorem getD_of_lt {l : Z} {i : Nat} (h : i < l.length) : l.getD i 0 = l[i] := by
  rw [List.getD_eq_getElem?_getD, List.getElem?_eq_getElem h]; rfl
theorem getD_of_le {l : Z} {i : Nat} (h : l.length ≤ i) : l.getD i 0 = 0 := by
  rw [List.getD_eq_getElem?_getD, List.getElem?_eq_none h]; rfl
theorem zsub_mem {p q : Z} {X : Nat} (hl : p.length = q.length) (hp : ∀ c ∈ p, 0 ≤ c ∧ c < X + 1) (hq : ∀ c ∈ q, 0 ≤ c ∧ c < X + 1) : ∀ c ∈ zsub p q, c.natAbs ≤ X := by
  intro c hc
  obtain ⟨i, hi, rfl⟩ := List.getElem_of_mem hc
  have g := zsub_get p q i
  have hi' := hi
  rw [zsub_len, ← hl, Nat.max_self] at hi'
  rw [getD_of_lt hi, getD_of_lt hi', getD_of_lt (by omega)] at g
  rw [g]
  have h1 := hp p[i] (List.getElem_mem _)
  have h2 := hq q[i] (List.getElem_mem _)
  omega
theorem zsub_zero {p q : Z} (hl : p.length = q.length) (h : ∀ c ∈ zsub p q, c = 0) : p = q := by
  refine List.ext_getElem hl fun i h1 h2 => ?_
  have g := zsub_get p q i
  have hi : i < (zsub p q).length := by rw [zsub_len, ← hl, Nat.max_self]; exact h1
  rw [getD_of_lt hi, getD_of_lt h1, getD_of_lt h2, h _ (List.getElem_mem _)] at g
  omega
theorem siegel (A B : Z) (a b d m S : Nat) (hS0 : 0 < S) (hS : l1 A + l1 B ≤ S) (nA : A ≠ []) (nB : B ≠ []) (h1 : a + A.length ≤ d + m + 1) (h2 : b + B.length ≤ d + m + 1) (hn : m < a + b) :
    ∃ u v w : Z, u.length = a ∧ v.length = b ∧ w.length ≤ d ∧ (∀ c ∈ u, c.natAbs ≤ (2 * S) ^ m) ∧ (∀ c ∈ v, c.natAbs ≤ (2 * S) ^ m) ∧ (∃ c ∈ u ++ v, c ≠ 0) ∧
      ∀ x, ev (cZ u) x * ev (cZ A) x + ev (cZ v) x * ev (cZ B) x = ev (cZ w) x := by
  have X0 : ∃ X, X = (2 * S) ^ m := ⟨_, rfl⟩
  obtain ⟨X, hX⟩ := X0
  let N := (X + 1) ^ (a + b)
  let U : Nat → Z := fun t => dig (X + 1) a (t % (X + 1) ^ a)
  let Vv : Nat → Z := fun t => dig (X + 1) b (t / (X + 1) ^ a)
  let W : Nat → Z := fun t => zadd (zmul (U t) A) (zmul (Vv t) B)
  have ub : ∀ t, ∀ c ∈ U t, c.natAbs ≤ X := fun t c hc => by
    have := dig_bd (B := X + 1) (by omega) _ _ c hc
    omega
  have vb : ∀ t, ∀ c ∈ Vv t, c.natAbs ≤ X := fun t c hc => by
    have := dig_bd (B := X + 1) (by omega) _ _ c hc
    omega
  have wb : ∀ t i, ((W t).getD i 0).natAbs ≤ S * X := fun t i => by
    show ((zadd (zmul (U t) A) (zmul (Vv t) B)).getD i 0).natAbs ≤ S * X
    rw [zadd_get]
    have p1 := zmul_bound X A (U t) (ub t) i
    have p2 := zmul_bound X B (Vv t) (vb t) i
    have q1 := Nat.mul_le_mul_left X (pre_le A i)
    have q2 := Nat.mul_le_mul_left X (pre_le B i)
    have q3 := Nat.mul_le_mul_left X hS
    rw [Nat.mul_add] at q3
    have := Int.natAbs_add_le ((zmul (U t) A).getD i 0) ((zmul (Vv t) B).getD i 0)
    rw [Nat.mul_comm S X]
    omega
  have big : (2 * (S * X) + 1) ^ m < (List.range N).length := by
    rw [List.length_range]
    show _ < (X + 1) ^ (a + b)
    by_cases hm : m = 0
    · subst hm
      rw [Nat.pow_zero]
      have : 1 ≤ X := by rw [hX]; simp
      refine Nat.one_lt_pow (by omega) (by omega)
    · have s1 : 2 * (S * X) + 1 < 2 * S * (X + 1) := by
        rw [Nat.mul_add, Nat.mul_assoc]
        omega
      have s2 := Nat.pow_lt_pow_left s1 hm
      rw [Nat.mul_pow, ← hX] at s2
      have s3 : X * (X + 1) ^ m ≤ (X + 1) ^ (m + 1) := by
        rw [Nat.pow_succ, Nat.mul_comm]
        exact Nat.mul_le_mul_left _ (by omega)
      have s4 : (X + 1) ^ (m + 1) ≤ (X + 1) ^ (a + b) := Nat.pow_le_pow_right (by omega) (by omega)
      omega
  obtain ⟨t, r, ht, hr, ne, e⟩ := drawers (S * X) (fun i t => (W t).getD (d + i) 0) m (List.range N) List.nodup_range (fun i _ t _ => wb t (d + i)) big
  rw [List.mem_range] at ht hr
  refine ⟨zsub (U t) (U r), zsub (Vv t) (Vv r), (zsub (W t) (W r)).take d, ?_, ?_, ?_, ?_, ?_, ?_, fun x => ?_⟩
  · rw [zsub_len, dig_len, dig_len, Nat.max_self]
  · rw [zsub_len, dig_len, dig_len, Nat.max_self]
  · rw [List.length_take]; omega
  · rw [← hX]
    exact zsub_mem (by rw [dig_len, dig_len]) (fun c hc => by have := dig_bd (B := X + 1) (by omega) _ _ c hc; omega) (fun c hc => by have := dig_bd (B := X + 1) (by omega) _ _ c hc; omega)
  · rw [← hX]
    exact zsub_mem (by rw [dig_len, dig_len]) (fun c hc => by have := dig_bd (B := X + 1) (by omega) _ _ c hc; omega) (fun c hc => by have := dig_bd (B := X + 1) (by omega) _ _ c hc; omega)
  · refine Classical.byContradiction fun n => ne ?_
    have n' : ∀ c ∈ zsub (U t) (U r) ++ zsub (Vv t) (Vv r), c = 0 := fun c hc => Classical.byContradiction fun q => n ⟨c, hc, q⟩
    have e1 := zsub_zero (p := U t) (q := U r) (by rw [dig_len, dig_len]) fun c hc => n' c (List.mem_append_left _ hc)
    have e2 := zsub_zero (p := Vv t) (q := Vv r) (by rw [dig_len, dig_len]) fun c hc => n' c (List.mem_append_right _ hc)
    have p0 : 0 < (X + 1) ^ a := Nat.pow_pos (by omega)
    have f1 := dig_inj (B := X + 1) (by omega) a _ _ (Nat.mod_lt t p0) (Nat.mod_lt r p0) e1
    have dv : ∀ y, y < N → y / (X + 1) ^ a < (X + 1) ^ b := fun y hy => by
      refine Nat.div_lt_of_lt_mul ?_
      rw [← Nat.pow_add]
      exact hy
    have f2 := dig_inj (B := X + 1) (by omega) b _ _ (dv t ht) (dv r hr) e2
    rw [← Nat.div_add_mod t ((X + 1) ^ a), ← Nat.div_add_mod r ((X + 1) ^ a), f1, f2]
  · have hw : ∀ i, d ≤ i → (zsub (W t) (W r)).getD i 0 = 0 := fun i hi => by
      rw [zsub_get]
      by_cases k : i < d + m
      · have := e (i - d) (by omega)
        rw [show d + (i - d) = i by omega] at this
        omega
      · have lw : ∀ t, (W t).length ≤ d + m := fun t => by
          show (zadd (zmul (U t) A) (zmul (Vv t) B)).length ≤ _
          rw [zadd_len]
          have p1 := zmul_len (U t) A nA
          have p2 := zmul_len (Vv t) B nB
          rw [dig_len] at p1 p2
          omega
        rw [getD_of_le (by have := lw t; omega), getD_of_le (by have := lw r; omega)]
        rfl
    rw [← ev_short _ d hw x, ev_zsub, ev_zsub, ev_zsub, ev_zadd, ev_zadd, ev_zmul, ev_zmul, ev_zmul, ev_zmul]
    grind
end Bd

namespace Bd
open Re
/-! ## degrees -/
theorem padd_snoc : ∀ (p q : P) (c : Re), q.length ≤ p.length → ∃ s : P, padd (p ++ [c]) q = s ++ [c] ∧ s.length = p.length
  | [], [], c, _ => ⟨[], rfl, rfl⟩
  | a :: p, [], c, _ => ⟨a :: p, rfl, rfl⟩
  | a :: p, b :: q, c, h => by
    obtain ⟨s, e, l⟩ := padd_snoc p q c (by simpa using h)
    exact ⟨(a + b) :: s, by simp only [List.cons_append, padd, e], by simp [l]⟩
theorem padd_snoc' : ∀ (p q : P) (c : Re), q.length ≤ p.length → ∃ s : P, padd q (p ++ [c]) = s ++ [c] ∧ s.length = p.length
  | p, [], c, _ => ⟨p, rfl, rfl⟩
  | a :: p, b :: q, c, h => by
    obtain ⟨s, e, l⟩ := padd_snoc' p q c (by simpa using h)
    exact ⟨(b + a) :: s, by simp only [List.cons_append, padd, e], by simp [l]⟩
theorem pmul_snoc : ∀ (s t : P) (a b : Re), ∃ z : P, pmul (s ++ [a]) (t ++ [b]) = z ++ [a * b] ∧ z.length = s.length + t.length
  | [], [], a, b => ⟨[], by simp only [List.nil_append, pmul, List.map, padd]; congr 1; grind, rfl⟩
  | [], c :: t, a, b => by
    obtain ⟨z, e, l⟩ := padd_snoc ((c :: t).map (a * ·)) [0] (a * b) (by simp)
    refine ⟨z, ?_, by simpa using l⟩
    rw [← e]
    simp only [List.nil_append, pmul, List.map_append, List.map_cons, List.map_nil]
  | c :: s, t, a, b => by
    obtain ⟨z, e, l⟩ := pmul_snoc s t a b
    obtain ⟨z2, e2, l2⟩ := padd_snoc' (0 :: z) ((t ++ [b]).map (c * ·)) (a * b) (by simp [l] <;> omega)
    refine ⟨z2, ?_, by rw [l2]; simp [l]; omega⟩
    rw [← e2]
    simp only [List.cons_append, pmul, e]
theorem trimR : ∀ c : P, (∀ x, ev c x = 0) ∨ ∃ t b, b ≠ 0 ∧ (∀ x, ev c x = ev (t ++ [b]) x) ∧ t.length < c.length
  | [] => .inl fun _ => rfl
  | a :: c => by
    rcases trimR c with h | ⟨t, b, h1, h2, h3⟩
    · by_cases k : a = 0
      · exact .inl fun x => by rw [ev_cons, h, k]; grind
      · exact .inr ⟨[], a, k, fun x => by rw [ev_cons, h]; simp only [List.nil_append, ev], by simp⟩
    · exact .inr ⟨a :: t, b, h1, fun x => by rw [List.cons_append, ev_cons, ev_cons, h2], by simp; omega⟩
theorem deg_zero {s v c : P} {φ : Re} (hφ : φ ≠ 0) (hl : v.length ≤ s.length) (h : ∀ x, ev v x = ev (s ++ [φ]) x * ev c x) : ∀ x, ev v x = 0 := by
  rcases trimR c with z | ⟨t, b, h1, h2, h3⟩
  · intro x; rw [h, z]; grind
  · obtain ⟨z, e, l⟩ := pmul_snoc s t φ b
    obtain ⟨w, e2, l2⟩ := padd_snoc z (v.map (- ·)) (φ * b) (by rw [List.length_map]; omega)
    have := ev_zero (padd (z ++ [φ * b]) (v.map (- ·))) (fun x => by
      rw [ev_padd, ← e, ev_pmul, ev_neg, h, h2]
      grind) (φ * b) (by rw [e2]; simp)
    exact absurd this (mul_ne_zero hφ h1)
theorem ev_all_zero : ∀ (l : P), (∀ a ∈ l, a = 0) → ∀ y, ev l y = 0
  | [], _, y => rfl
  | a :: l, h, y => by
    rw [ev_cons, h a List.mem_cons_self, ev_all_zero l (fun b hb => h b (List.mem_cons_of_mem _ hb)) y]
    grind
/-- equal values: equal coefficients -/
theorem ev_inj {p q : P} (hl : p.length = q.length) (h : ∀ x, ev p x = ev q x) : p = q := by
  induction p generalizing q with
  | nil => exact (List.length_eq_zero_iff.mp hl.symm).symm
  | cons a p ih =>
    cases q with
    | nil => simp at hl
    | cons b q =>
      have e : a = b := by
        have := h 0
        rw [ev_cons, ev_cons] at this
        grind
      subst e
      congr 1
      refine ih (by simpa using hl) ?_
      refine IsP.cancel_lin (IsP.ev p) (IsP.ev q) 0 fun x => ?_
      have := h x
      rw [ev_cons, ev_cons] at this
      grind

/-- p = f g without repeated roots -/
structure SP (p f g h u v : P) : Prop where
  nz : ∃ x, ev p x ≠ 0
  pf : ∀ x, ev p x = ev f x * ev g x
  dp : ∀ x, dev p x = ev h x * ev g x
  bz : ∀ x, ev g x = ev u x * ev p x + ev v x * dev p x
theorem SP.gz {p f g h u v : P} (H : SP p f g h u v) : ∃ x, ev g x ≠ 0 := let ⟨x, hx⟩ := H.nz; ⟨x, fun z => hx (by rw [H.pf, z]; grind)⟩
theorem SP.one {p f g h u v : P} (H : SP p f g h u v) : ∀ x, ev u x * ev f x + ev v x * ev h x = 1 := (simple_part H.nz H.pf H.dp H.bz).1
theorem SP.root {p f g h u v : P} (H : SP p f g h u v) (a : Re) : ev p a = 0 ↔ ev f a = 0 :=
  ⟨(simple_part H.nz H.pf H.dp H.bz).2.1 a, fun z => by rw [H.pf, z]; grind⟩
theorem SP.simple {p f g h u v : P} (H : SP p f g h u v) {a : Re} (z : ev f a = 0) : dev f a ≠ 0 ∧ ∃ k : Nat, k ≤ g.length ∧ ev h a = ((k : Re) + 1) * dev f a := (simple_part H.nz H.pf H.dp H.bz).2.2 a z
/-- u f + v h = 0 with v short: v is 0 -/
theorem SP.cop {p s g h u v a b : P} {φ : Re} (hφ : φ ≠ 0) (H : SP p (s ++ [φ]) g h u v) (z : ∀ x, ev a x * ev (s ++ [φ]) x + ev b x * ev h x = 0) :
    ∃ c : P, ∀ x, ev b x = ev (s ++ [φ]) x * ev c x := by
  refine ⟨padd (pmul u b) ((pmul v a).map (- ·)), fun x => ?_⟩
  have h1 := H.one x
  have h2 := z x
  rw [ev_padd, ev_pmul, ev_neg, ev_pmul]
  have : ev b x = ev b x * (ev u x * ev (s ++ [φ]) x + ev v x * ev h x) := by rw [h1]; grind
  grind
theorem cZ_len (p : Z) : (cZ p).length = p.length := List.length_map _
theorem cZ_zero {p : Z} (h : ∀ x, ev (cZ p) x = 0) : ∀ c ∈ p, c = 0 := fun c hc => toR_inj (ev_zero _ h (toR c) (List.mem_map_of_mem hc))
theorem const_mul_zero {F G : P} (hG : ∃ x, ev G x ≠ 0) (h : ∀ x, ev F x * ev G x = 0) : ∀ x, ev F x = 0 :=
  (IsP.ev F).cancel (IsP.ev G) hG fun x => by rw [← h x]; grind
theorem snoc_nz {s : P} {φ : Re} (hφ : φ ≠ 0) : ∃ x, ev (s ++ [φ]) x ≠ 0 := by
  refine Classical.byContradiction fun n => hφ ?_
  exact ev_zero (s ++ [φ]) (fun x => Classical.byContradiction fun q => n ⟨x, q⟩) φ (by simp)
theorem ev_csmul (c : Re) (p : P) (x : Re) : ev (p.map (c * ·)) x = c * ev p x := ev_smul c p x

/-- the simple part has small whole coefficients, up to a factor -/
theorem SP.small {p s t h u v : P} {φ D : Re} {A B : Z} {r e S : Nat} (hφ : φ ≠ 0) (H : SP p (s ++ [φ]) (t ++ [1]) h u v) (hs : s.length = r) (ht : t.length = e)
    (eA : ∀ x, ev (cZ A) x = D * ev p x) (eB : ∀ x, ev (cZ B) x = D * dev p x) (lA : A.length = r + e + 1) (lB : B.length = r + e) (hr : 0 < r)
    (S0 : 0 < S) (hS : l1 A + l1 B ≤ S) (hD : D ≠ 0) :
    ∃ (w : Z) (c : Int), c ≠ 0 ∧ c.natAbs ≤ (2 * S) ^ (2 * r) ∧ w.length = r + 1 ∧ (∀ k ∈ w, k.natAbs ≤ (2 * S) ^ (2 * r)) ∧ (w.map fun k => φ * toR k) = (s ++ [φ]).map (toR c * ·) := by
  obtain ⟨a, b, w, la, lb, lw, ba, bb, ⟨k, hk, kn⟩, eq⟩ := siegel A B r (r + 1) e (2 * r) S S0 hS (fun z => by rw [z] at lA; simp at lA) (fun z => by rw [z] at lB; simp at lB; omega) (by omega) (by omega) (by omega)
  have w0 : ∀ x, ev (cZ w) x = 0 := by
    refine deg_zero (s := t) (c := (padd (pmul (cZ a) (s ++ [φ])) (pmul (cZ b) h)).map (D * ·)) (fun z => zero_ne_one z.symm) (by rw [cZ_len]; omega) fun x => ?_
    rw [← eq, eA, eB, ev_smul, ev_padd, ev_pmul, ev_pmul, H.pf, H.dp]
    grind
  have z : ∀ x, ev (cZ a) x * ev (s ++ [φ]) x + ev (cZ b) x * ev h x = 0 := fun x => by
    have := const_mul_zero (F := padd (pmul (cZ a) (s ++ [φ])) (pmul (cZ b) h)) H.gz (fun y => by
      have := eq y
      rw [w0, eA, eB, H.pf, H.dp] at this
      rw [ev_padd, ev_pmul, ev_pmul]
      have q : D * ((ev (cZ a) y * ev (s ++ [φ]) y + ev (cZ b) y * ev h y) * ev (t ++ [1]) y) = 0 := by grind
      exact (mul_eq_zero q).resolve_left hD) x
    rw [ev_padd, ev_pmul, ev_pmul] at this
    exact this
  obtain ⟨c, hc⟩ := H.cop hφ z
  obtain ⟨b', l, rfl⟩ : ∃ b' l, b = b' ++ [l] := by
    have : b ≠ [] := fun z => by rw [z] at lb; simp at lb
    exact ⟨b.dropLast, b.getLast this, (List.dropLast_concat_getLast this).symm⟩
  have lb' : b'.length = r := by simpa using lb
  have key : ∀ x, ev ((cZ (b' ++ [l])).map (φ * ·)) x = ev ((s ++ [φ]).map (toR l * ·)) x := fun x => by
    have : ∀ x, ev (padd ((cZ b').map (φ * ·)) ((s.map (toR l * ·)).map (- ·))) x = 0 := by
      have sn : ∀ (q : P) (c x : Re), ev (q ++ [c]) x = ev q x + ev (q.map (fun _ => 0) ++ [c]) x := fun q c x => by
        induction q with
        | nil => simp only [List.nil_append, List.map, ev]; grind
        | cons a q ih => simp only [List.cons_append, List.map, ev, ih]; grind
      refine deg_zero (s := s) (c := padd (c.map (φ * ·)) [- toR l]) hφ ?_ fun x => ?_
      · have : ∀ (p q : P), (padd p q).length ≤ max p.length q.length := fun p => by
          induction p with
          | nil => intro q; simp [padd]
          | cons a p ih =>
            intro q
            cases q with
            | nil => simp [padd]
            | cons b q => have := ih q; simp [padd]; omega
        refine Nat.le_trans (this _ _) ?_
        simp [cZ_len]
        omega
      · rw [ev_padd, ev_neg, ev_smul, ev_smul, ev_padd, ev_smul]
        have h1 := hc x
        have hz : (cZ b').map (fun _ => (0 : Re)) = s.map (fun _ => 0) := by
          refine List.ext_getElem (by simp [cZ_len]; omega) fun i h1 h2 => by simp
        have e1 : ev (cZ (b' ++ [l])) x = ev (cZ b') x + ev ((cZ b').map (fun _ => 0) ++ [toR l]) x := by
          rw [show cZ (b' ++ [l]) = cZ b' ++ [toR l] by simp [cZ]]
          exact sn _ _ _
        have e2 := sn s φ x
        have lin : ∀ (q : P) (c d : Re), c * ev (q.map (fun _ => 0) ++ [d]) x = d * ev (q.map (fun _ => 0) ++ [c]) x := fun q c d => by
          induction q with
          | nil => simp only [List.map, List.nil_append, ev]; grind
          | cons a q ih => simp only [List.map, List.cons_append, ev]; grind
        have e3 := lin s φ (toR l)
        rw [hz] at e1
        simp only [ev]
        generalize ev (s.map (fun _ => 0) ++ [toR l]) x = m1 at *
        generalize ev (s.map (fun _ => 0) ++ [φ]) x = m2 at *
        generalize ev (s ++ [φ]) x = f at *
        generalize ev (cZ (b' ++ [l])) x = bx at *
        have e5 : φ * bx = φ * ev (cZ b') x + toR l * m2 := by rw [e1, ← e3]; grind
        grind
    have t := this x
    rw [ev_padd, ev_neg, ev_smul, ev_smul] at t
    have app : ∀ (q : P) (c d x : Re), ev ((q ++ [d]).map (c * ·)) x = c * ev (q ++ [d]) x := fun q c d x => ev_smul _ _ _
    rw [app, show cZ (b' ++ [l]) = cZ b' ++ [toR l] by simp [cZ], app]
    have sn2 : ∀ (q q' : P) (a b c d x : Re), q.length = q'.length → c * ev q x = d * ev q' x → c * a = d * b → c * ev (q ++ [a]) x = d * ev (q' ++ [b]) x := fun q => by
      induction q with
      | nil =>
        intro q' a b c d x hl h1 h2
        have : q' = [] := List.length_eq_zero_iff.mp hl.symm
        subst this
        simp only [List.nil_append, ev]
        grind
      | cons y q ih =>
        intro q' a b c d x hl h1 h2
        cases q' with
        | nil => simp at hl
        | cons z q' =>
          simp only [List.cons_append, ev] at *
          have pw : ∀ (q : P) (e : Re), ev (q ++ [e]) x = ev q x + ev (q.map (fun _ => 0) ++ [e]) x := fun q e => by
            induction q with
            | nil => simp only [List.nil_append, List.map, ev]; grind
            | cons a q ih => simp only [List.cons_append, List.map, ev, ih]; grind
          have lz : q.map (fun _ => (0 : Re)) = q'.map (fun _ => 0) := List.ext_getElem (by simpa using hl) fun i h1 h2 => by simp
          have lin : ∀ (q : P) (e : Re), ev (q.map (fun _ => 0) ++ [e]) x = e * ev (q.map (fun _ => 0) ++ [1]) x := fun q e => by
            induction q with
            | nil => simp only [List.map, List.nil_append, ev]; grind
            | cons a q ih => simp only [List.map, List.cons_append, ev]; grind
          rw [pw q a, pw q' b, lz, lin q' a, lin q' b]
          generalize ev (q'.map (fun _ => 0) ++ [1]) x = m
          have : c * a * (x * m) = d * b * (x * m) := by rw [h2]
          grind
    exact sn2 (cZ b') s (toR l) φ φ (toR l) x (by rw [cZ_len]; omega) (by grind) (by grind)
  have l0 : l ≠ 0 := fun z0 => by
    subst z0
    have b0 : ∀ x, ev (cZ (b' ++ [0])) x = 0 := fun x => by
      have := key x
      rw [ev_smul, ev_smul, toR_zero] at this
      have q : φ * ev (cZ (b' ++ [0])) x = 0 := by grind
      exact (mul_eq_zero q).resolve_left hφ
    have a0 := const_mul_zero (F := cZ a) (G := s ++ [φ]) (snoc_nz hφ) fun x => by
      have := z x
      rw [b0] at this
      grind
    rcases List.mem_append.mp hk with hk | hk
    · exact kn (cZ_zero a0 k hk)
    · exact kn (cZ_zero b0 k hk)
  refine ⟨b' ++ [l], l, l0, bb l (by simp), by simpa using lb, bb, ?_⟩
  have := ev_inj (by simp [cZ_len]; omega) key
  rw [← this, cZ, List.map_map]
  rfl
/-- small multipliers that make a whole number -/
theorem SP.mult {p s t h u v : P} {φ : Re} {A B : Z} {r e S : Nat} (hφ : φ ≠ 0) (H : SP p (s ++ [φ]) (t ++ [1]) h u v) (hs : s.length = r) (ht : t.length = e)
    (eA : ∀ x, ev (cZ A) x = ev p x) (eB : ∀ x, ev (cZ B) x = dev p x) (lA : A.length = r + e + 1) (lB : B.length = r + e) (hr : 0 < r)
    (S0 : 0 < S) (hS : l1 A + l1 B ≤ S) :
    ∃ (a b : Z) (c : Int), c ≠ 0 ∧ b.length = r ∧ (∀ k ∈ b, k.natAbs ≤ (2 * S) ^ (2 * r - 2)) ∧ ∀ x, ev (cZ a) x * ev (s ++ [φ]) x + ev (cZ b) x * ev h x = toR c := by
  obtain ⟨a, b, w, la, lb, lw, ba, bb, ⟨k, hk, kn⟩, eq⟩ := siegel A B (r - 1) r (e + 1) (2 * r - 2) S S0 hS (fun z => by rw [z] at lA; simp at lA) (fun z => by rw [z] at lB; simp at lB; omega) (by omega) (by omega) (by omega)
  -- w is c times g
  obtain ⟨c, hc⟩ : ∃ c : Int, ∀ x, ev (cZ w) x = toR c * ev (t ++ [1]) x := by
    have eqs : ∀ x, ev (cZ w) x = ev (t ++ [1]) x * ev (padd (pmul (cZ a) (s ++ [φ])) (pmul (cZ b) h)) x := fun x => by
      rw [← eq, eA, eB, ev_padd, ev_pmul, ev_pmul, H.pf, H.dp]
      grind
    by_cases hw : w.length ≤ e
    · refine ⟨0, fun x => ?_⟩
      rw [toR_zero, deg_zero (s := t) (fun z => zero_ne_one z.symm) (by rw [cZ_len]; omega) eqs x]
      grind
    · obtain ⟨w', l, rfl⟩ : ∃ w' l, w = w' ++ [l] := by
        have : w ≠ [] := fun z => by rw [z] at hw; simp at hw
        exact ⟨w.dropLast, w.getLast this, (List.dropLast_concat_getLast this).symm⟩
      have lw' : w'.length = e := by simp at lw hw; omega
      refine ⟨l, ?_⟩
      have pw : ∀ (q : P) (e x : Re), ev (q ++ [e]) x = ev q x + e * ev (q.map (fun _ => 0) ++ [1]) x := fun q e x => by
        induction q with
        | nil => simp only [List.nil_append, List.map, ev]; grind
        | cons a q ih => simp only [List.cons_append, List.map, ev, ih]; grind
      have lz : (cZ w').map (fun _ => (0 : Re)) = t.map (fun _ => 0) := List.ext_getElem (by simp [cZ_len]; omega) fun i h1 h2 => by simp
      have plen : ∀ (p q : P), (padd p q).length ≤ max p.length q.length := fun p => by
        induction p with
        | nil => intro q; simp [padd]
        | cons a p ih =>
          intro q
          cases q with
          | nil => simp [padd]
          | cons b q => have := ih q; simp [padd]; omega
      have z := deg_zero (s := t) (v := padd (cZ w') (t.map ((- toR l) * ·))) (c := padd (padd (pmul (cZ a) (s ++ [φ])) (pmul (cZ b) h)) [- toR l]) (fun z => zero_ne_one z.symm) (by
        refine Nat.le_trans (plen _ _) ?_
        simp [cZ_len]
        omega) fun x => by
          rw [ev_padd, ev_smul, ev_padd _ [- toR l]]
          have h1 := eqs x
          rw [show cZ (w' ++ [l]) = cZ w' ++ [toR l] by simp [cZ], pw, lz] at h1
          have h2 := pw t 1 x
          simp only [ev]
          generalize ev (padd (pmul (cZ a) (s ++ [φ])) (pmul (cZ b) h)) x = y at *
          generalize ev (t.map (fun _ => 0) ++ [1]) x = m at *
          grind
      intro x
      have z := z x
      rw [ev_padd, ev_smul] at z
      rw [show cZ (w' ++ [l]) = cZ w' ++ [toR l] by simp [cZ], pw, lz, pw t 1 x]
      grind
  have eq2 : ∀ x, ev (cZ a) x * ev (s ++ [φ]) x + ev (cZ b) x * ev h x = toR c := fun x => by
    have := const_mul_zero (F := padd (padd (pmul (cZ a) (s ++ [φ])) (pmul (cZ b) h)) [- toR c]) H.gz (fun y => by
      have := eq y
      rw [hc, eA, eB, H.pf, H.dp] at this
      rw [ev_padd, ev_padd, ev_pmul, ev_pmul]
      simp only [ev]
      grind) x
    rw [ev_padd, ev_padd, ev_pmul, ev_pmul] at this
    simp only [ev] at this
    grind
  refine ⟨a, b, c, fun z => ?_, lb, bb, eq2⟩
  subst z
  have z : ∀ x, ev (cZ a) x * ev (s ++ [φ]) x + ev (cZ b) x * ev h x = 0 := fun x => by rw [eq2, toR_zero]
  obtain ⟨d, hd⟩ := H.cop hφ z
  have b0 := deg_zero hφ (by rw [cZ_len]; omega) hd
  have a0 := const_mul_zero (F := cZ a) (G := s ++ [φ]) (snoc_nz hφ) fun x => by
    have := z x
    rw [b0] at this
    grind
  rcases List.mem_append.mp hk with hk | hk
  · exact kn (cZ_zero a0 k hk)
  · exact kn (cZ_zero b0 k hk)
end Bd

namespace Bd
open Re
/-! ## how far roots stand apart -/
open Classical in
noncomputable def ab (a : Re) : Re := if 0 ≤ a then a else -a
theorem ab_pos {a : Re} (h : 0 ≤ a) : ab a = a := if_pos h
theorem ab_neg {a : Re} (h : a ≤ 0) : ab a = -a := by
  unfold ab
  split <;> grind
theorem ab_cases (a : Re) : (0 ≤ a ∧ ab a = a) ∨ (a ≤ 0 ∧ ab a = -a) := by
  by_cases h : 0 ≤ a
  · exact .inl ⟨h, ab_pos h⟩
  · exact .inr ⟨by grind, ab_neg (by grind)⟩
theorem ab_nonneg (a : Re) : 0 ≤ ab a := by
  rcases ab_cases a with ⟨h, e⟩ | ⟨h, e⟩ <;> grind
theorem ab_add (a b : Re) : ab (a + b) ≤ ab a + ab b := by
  rcases ab_cases a with ⟨h, e⟩ | ⟨h, e⟩ <;> rcases ab_cases b with ⟨h', e'⟩ | ⟨h', e'⟩ <;> rcases ab_cases (a + b) with ⟨h'', e''⟩ | ⟨h'', e''⟩ <;> grind
theorem ab_mul (a b : Re) : ab (a * b) = ab a * ab b := by
  rcases ab_cases a with ⟨h, e⟩ | ⟨h, e⟩ <;> rcases ab_cases b with ⟨h', e'⟩ | ⟨h', e'⟩
  · rw [ab_pos (mul_nonneg h h'), e, e']
  · have := mul_nonneg (a := a) (b := -b) h (by grind)
    rw [ab_neg (by grind), e, e']; grind
  · have := mul_nonneg (a := -a) (b := b) (by grind) h'
    rw [ab_neg (by grind), e, e']; grind
  · have := mul_nonneg (a := -a) (b := -b) (by grind) (by grind)
    rw [ab_pos (by grind), e, e']; grind
theorem mul_le {a b c : Re} (h : a ≤ b) (hc : 0 ≤ c) : c * a ≤ c * b := by
  have := mul_nonneg hc (b := b - a) (by grind)
  grind
theorem mul_le2 {a b c d : Re} (h : a ≤ b) (k : c ≤ d) (ha : 0 ≤ a) (hd : 0 ≤ c) : a * c ≤ b * d := by
  have h1 := mul_le k ha
  have h2 := mul_le h (c := d) (by grind)
  grind
theorem toR_natAbs (n : Int) : ab (toR n) = toR n.natAbs := by
  by_cases h : 0 ≤ n
  · rw [ab_pos (by rw [← toR_zero, toR_le]; exact h), Int.natAbs_of_nonneg h]
  · rw [ab_neg (by rw [← toR_zero, toR_le]; omega), ← toR_neg, Int.ofNat_natAbs_of_nonpos (by omega)]
noncomputable def W : P → Re
  | [] => 0
  | a :: q => ab a + 7 * W q
theorem W_nonneg : ∀ q, 0 ≤ W q
  | [] => by simp only [W]; grind
  | a :: q => by
    have := W_nonneg q
    have := ab_nonneg a
    simp only [W]
    grind
theorem ev_W {x : Re} (hx : ab x ≤ 7) : ∀ q, ab (ev q x) ≤ W q
  | [] => by simp only [ev, W]; rw [ab_pos (by grind)]; grind
  | a :: q => by
    have ih := ev_W hx q
    rw [ev_cons, W]
    have h1 := ab_add a (x * ev q x)
    rw [ab_mul] at h1
    have h2 := mul_le2 hx ih (ab_nonneg x) (ab_nonneg _)
    grind
theorem natRe_succ (n : Nat) : ((n + 1 : Nat) : Re) = (n : Re) + 1 := Lean.Grind.Semiring.natCast_succ n
theorem natRe_nonneg (n : Nat) : (0 : Re) ≤ (n : Re) := by
  rw [← ofRat_nat, ← ofRat_zero, ofRat_le]
  exact Rat.natCast_nonneg
theorem sd_W {a : Re} (ha : ab a ≤ 7) : ∀ q : P, 7 * W (sd q a) ≤ ((q.length - 1 : Nat) : Re) * W q
  | [] => by
    have : (((([] : P).length - 1 : Nat)) : Re) = 0 := rfl
    rw [this]; simp only [sd, W]; grind
  | [c] => by
    have : (((([c] : P).length - 1 : Nat)) : Re) = 0 := rfl
    rw [this]; simp only [sd, W]; grind
  | c :: b :: p => by
    have ih := sd_W ha (b :: p)
    rw [show sd (c :: b :: p) a = ev (b :: p) a :: sd (b :: p) a from rfl, W, W]
    have h1 := ev_W ha (b :: p)
    have l1 : (c :: b :: p).length - 1 = p.length + 1 := by simp
    have l2 : (b :: p).length - 1 = p.length := by simp
    rw [l2] at ih
    rw [l1, natRe_succ]
    have h2 := W_nonneg (b :: p)
    have h3 := mul_nonneg (natRe_nonneg p.length) (ab_nonneg c)
    have h4 := ab_nonneg c
    generalize W (b :: p) = w at *
    generalize W (sd (b :: p) a) = z at *
    generalize (p.length : Re) = n at *
    grind
theorem sd_W7 {a : Re} (ha : ab a ≤ 7) {q : P} (hl : q.length ≤ 8) : W (sd q a) ≤ W q := by
  have h := sd_W ha q
  have h2 := W_nonneg q
  have h3 : (((q.length - 1 : Nat)) : Re) ≤ 7 := by
    rw [← ofRat_nat, show (7 : Re) = ofRat ((7 : Nat) : Rat) from rfl, ofRat_le]
    exact Rat.natCast_le_natCast.mpr (by omega)
  have h4 := mul_nonneg (a := 7 - ((q.length - 1 : Nat) : Re)) (b := W q) (by grind) h2
  grind
/-- 1 + 7 + .. -/
def s7 : Nat → Nat
  | 0 => 0
  | n + 1 => 1 + 7 * s7 n
theorem W_bd {M : Re} (hM : 0 ≤ M) : ∀ q : P, (∀ a ∈ q, ab a ≤ M) → W q ≤ M * (s7 q.length : Nat)
  | [], _ => by
    have e : ((s7 ([] : P).length : Nat) : Re) = 0 := rfl
    rw [e]; simp only [W]; grind
  | a :: q, h => by
    have ih := W_bd hM q fun b hb => h b (List.mem_cons_of_mem _ hb)
    have ha := h a List.mem_cons_self
    have e : ((s7 (a :: q).length : Nat) : Re) = 1 + 7 * ((s7 q.length : Nat) : Re) := by
      rw [← ofRat_nat, ← ofRat_nat, List.length_cons, s7, Rat.natCast_add, Rat.natCast_mul, ofRat_add, ofRat_mul]
      rfl
    rw [e, W]
    grind
theorem s7_le {m n : Nat} (h : m ≤ n) : s7 m ≤ s7 n := by
  induction h with
  | refl => exact Nat.le_refl _
  | step _ ih => rw [s7]; omega
/-- Cauchy: roots are below 7 -/
theorem cauchy7 : ∀ (q : P) (x : Re), (∀ a ∈ q, ab a ≤ 6) → 7 ≤ ab x → ab (ev q x) ≤ ab x ^ q.length - 1
  | [], x, _, _ => by
    rw [List.length_nil, Lean.Grind.Semiring.pow_zero]
    simp only [ev]
    rw [ab_pos (by grind)]; grind
  | a :: q, x, h, hx => by
    have ih := cauchy7 q x (fun b hb => h b (List.mem_cons_of_mem _ hb)) hx
    have ha := h a List.mem_cons_self
    rw [ev_cons, List.length_cons, Lean.Grind.Semiring.pow_succ]
    have h1 := ab_add a (x * ev q x)
    rw [ab_mul] at h1
    have h2 := mul_le ih (ab_nonneg x)
    generalize ab x ^ q.length = w at *
    grind
theorem root7 {q : P} {l x : Re} (h : ∀ a ∈ q, ab a ≤ 6) (hl : 1 ≤ ab l) (z : ev (q ++ [l]) x = 0) : ab x ≤ 7 := by
  refine Classical.byContradiction fun n => ?_
  have hx : 7 ≤ ab x := by grind
  have c := cauchy7 q x h hx
  have e : ∀ q : P, ev (q ++ [l]) x = ev q x + x ^ q.length * l := fun q => by
    induction q with
    | nil => rw [List.length_nil, Lean.Grind.Semiring.pow_zero]; simp only [List.nil_append, ev]; grind
    | cons a q ih => simp only [List.cons_append, ev, List.length_cons, ih, Lean.Grind.Semiring.pow_succ]; grind
  rw [e] at z
  have p : ∀ n : Nat, ab (x ^ n) = ab x ^ n := fun n => by
    induction n with
    | zero => rw [Lean.Grind.Semiring.pow_zero, Lean.Grind.Semiring.pow_zero]; exact ab_pos (by grind)
    | succ n ih => rw [Lean.Grind.Semiring.pow_succ, Lean.Grind.Semiring.pow_succ, ab_mul, ih]
  have q1 : ab (x ^ q.length * l) = ab (ev q x) := by
    have : x ^ q.length * l = - ev q x := by grind
    rw [this]
    rcases ab_cases (ev q x) with ⟨h, e⟩ | ⟨h, e⟩
    · rw [ab_neg (by grind), e]; grind
    · rw [ab_pos (by grind), e]
  rw [ab_mul, p] at q1
  have h1 : (0 : Re) ≤ ab x ^ q.length := by rw [← p]; exact ab_nonneg _
  have := mul_le hl h1
  grind
theorem toR_nat (n : Nat) : toR (n : Int) = (n : Re) := by
  unfold toR
  rw [Rat.intCast_natCast]
  rfl
theorem natRe_le {a b : Nat} : (a : Re) ≤ (b : Re) ↔ a ≤ b := by
  rw [← ofRat_nat, ← ofRat_nat, ofRat_le, Rat.natCast_le_natCast]
theorem natRe_mul (a b : Nat) : ((a * b : Nat) : Re) = (a : Re) * (b : Re) := by
  rw [← ofRat_nat, Rat.natCast_mul, ofRat_mul]; rfl
theorem sep {A B : Z} {s t h u v : P} {φ : Re} {r e : Nat} (hφ : φ ≠ 0) (H : SP (cZ A) (s ++ [φ]) (t ++ [1]) h u v) (hs : s.length = r) (ht : t.length = e) (hr : 0 < r)
    (hA : ∀ c ∈ A, c.natAbs ≤ 6) (lA : A.length = r + e + 1) (lB : B.length = r + e) (l7 : A.length ≤ 7) (eB : ∀ x, ev (cZ B) x = dev (cZ A) x) (hS : l1 A + l1 B ≤ 168)
    {α β : Re} (ha : ev (cZ A) α = 0) (hb : ev (cZ A) β = 0) (lt : β < α) : 1 ≤ ((2 ^ 225 : Nat) : Re) * (α - β) := by
  -- the last coefficient
  obtain ⟨A', l, rfl⟩ : ∃ A' l, A = A' ++ [l] := by
    have : A ≠ [] := fun z => by rw [z] at lA; simp at lA
    exact ⟨A.dropLast, A.getLast this, (List.dropLast_concat_getLast this).symm⟩
  have eφ : φ = toR l := by
    obtain ⟨z, e1, e2⟩ := pmul_snoc s t φ 1
    have := ev_inj (p := pmul (s ++ [φ]) (t ++ [1])) (q := cZ (A' ++ [l])) (by rw [e1, cZ_len]; simp at lA ⊢; omega) fun x => by rw [ev_pmul, H.pf]
    rw [e1, show cZ (A' ++ [l]) = cZ A' ++ [toR l] by simp [cZ]] at this
    have := (List.append_inj_right' this rfl)
    have := List.head_eq_of_cons_eq this
    grind
  have l0 : l ≠ 0 := fun z => hφ (by rw [eφ, z]; rfl)
  have l6 : ab φ ≤ 6 := by
    rw [eφ, toR_natAbs, toR_nat, show (6 : Re) = ((6 : Nat) : Re) from rfl, natRe_le]
    exact hA l (by simp)
  have small7 : ∀ x, ev (cZ (A' ++ [l])) x = 0 → ab x ≤ 7 := fun x hx => by
    rw [show cZ (A' ++ [l]) = cZ A' ++ [toR l] by simp [cZ]] at hx
    refine root7 (fun a h => ?_) ?_ hx
    · obtain ⟨c, hc, rfl⟩ := List.mem_map.mp h
      rw [toR_natAbs, toR_nat, show (6 : Re) = ((6 : Nat) : Re) from rfl, natRe_le]
      exact hA c (by simp [hc])
    · rw [toR_natAbs, toR_nat, show (1 : Re) = ((1 : Nat) : Re) from rfl, natRe_le]
      omega
  have a7 := small7 α ha
  have b7 := small7 β hb
  obtain ⟨w, c, c0, cb, lw, wb, weq⟩ := SP.small (D := 1) (S := 168) hφ H hs ht (fun x => by grind) (fun x => by rw [eB]; grind) lA lB hr (by omega) hS (fun z => zero_ne_one z.symm)
  obtain ⟨a, b, m, m0, lb, bb, meq⟩ := SP.mult (S := 168) hφ H hs ht (fun x => rfl) eB lA lB hr (by omega) hS
  have r6 : r ≤ 6 := by rw [lA] at l7; omega
  -- the simple part is not great
  have lf : (s ++ [φ]).length ≤ 7 := by simp; omega
  have Xr : (2 * 168) ^ (2 * r) ≤ 336 ^ 12 := Nat.pow_le_pow_right (by omega) (by omega)
  have Xr2 : (2 * 168) ^ (2 * r - 2) ≤ 336 ^ 10 := Nat.pow_le_pow_right (by omega) (by omega)
  have fW : W (s ++ [φ]) ≤ ((6 * 336 ^ 12 * s7 7 : Nat) : Re) := by
    have mem : ∀ y ∈ s ++ [φ], ab y ≤ ((6 * 336 ^ 12 : Nat) : Re) := fun y hy => by
      have : toR c * y ∈ (s ++ [φ]).map (toR c * ·) := List.mem_map_of_mem hy
      rw [← weq] at this
      obtain ⟨k, hk, e⟩ := List.mem_map.mp this
      have e2 : ab φ * ab (toR k) = ab (toR c) * ab y := by rw [← ab_mul, ← ab_mul, e]
      rw [toR_natAbs, toR_nat, toR_natAbs, toR_nat] at e2
      have k1 := natRe_le.mpr (Nat.le_trans (wb k hk) Xr)
      have k2 := mul_le2 l6 k1 (ab_nonneg _) (natRe_nonneg _)
      rw [e2] at k2
      have k3 : (1 : Re) ≤ (c.natAbs : Re) := by
        rw [show (1 : Re) = ((1 : Nat) : Re) from rfl, natRe_le]; omega
      have k4 := mul_le k3 (ab_nonneg y)
      rw [natRe_mul]
      have : ((6 : Nat) : Re) = 6 := rfl
      grind
    have := W_bd (natRe_nonneg _) _ mem
    rw [← natRe_mul] at this
    have k := natRe_le.mpr (Nat.mul_le_mul_left (6 * 336 ^ 12) (s7_le lf))
    grind
  have bW : ab (ev (cZ b) α) ≤ ((336 ^ 10 * s7 7 : Nat) : Re) := by
    have mem : ∀ y ∈ cZ b, ab y ≤ ((336 ^ 10 : Nat) : Re) := fun y hy => by
      obtain ⟨k, hk, rfl⟩ := List.mem_map.mp hy
      rw [toR_natAbs, toR_nat, natRe_le]
      exact Nat.le_trans (bb k hk) Xr2
    have := W_bd (natRe_nonneg _) _ mem
    rw [← natRe_mul] at this
    have k := natRe_le.mpr (Nat.mul_le_mul_left (336 ^ 10) (s7_le (m := (cZ b).length) (n := 7) (by rw [cZ_len]; omega)))
    have := ev_W a7 (cZ b)
    grind
  have fa := (H.root α).mp ha
  have fb := (H.root β).mp hb
  obtain ⟨d0, k, kl, ek⟩ := H.simple fa
  have k8 : (((k : Nat) : Re) + 1) ≤ ((8 : Nat) : Re) := by
    rw [← natRe_succ, natRe_le]
    have : (t ++ [(1 : Re)]).length = e + 1 := by simp [ht]
    omega
  have at_a := meq α
  rw [fa, ek] at at_a
  have one : 1 ≤ ab (ev (cZ b) α) * (((k : Re) + 1) * ab (dev (s ++ [φ]) α)) := by
    have e1 : ab (toR m) = ab (ev (cZ b) α) * (((k : Re) + 1) * ab (dev (s ++ [φ]) α)) := by
      rw [← at_a, show ev (cZ a) α * 0 + ev (cZ b) α * (((k : Re) + 1) * dev (s ++ [φ]) α) = ev (cZ b) α * (((k : Re) + 1) * dev (s ++ [φ]) α) by grind, ab_mul, ab_mul]
      congr 2
      exact ab_pos (by have := natRe_nonneg k; grind)
    rw [← e1, toR_natAbs, toR_nat, show (1 : Re) = ((1 : Nat) : Re) from rfl, natRe_le]
    omega
  have dv : ab (dev (s ++ [φ]) α) ≤ ((6 * 336 ^ 12 * s7 7 : Nat) : Re) * (α - β) := by
    have z : ev (sd (s ++ [φ]) α) β = 0 := by
      have := ev_sd (s ++ [φ]) α β
      rw [fa, fb] at this
      have q : (β - α) * ev (sd (s ++ [φ]) α) β = 0 := by grind
      exact (mul_eq_zero q).resolve_left (by grind)
    have e1 := ev_sd (sd (s ++ [φ]) α) β α
    rw [z, sd_dev] at e1
    have e2 : dev (s ++ [φ]) α = (α - β) * ev (sd (sd (s ++ [φ]) α) β) α := by grind
    rw [e2, ab_mul, ab_pos (by grind : 0 ≤ α - β)]
    have h1 := ev_W a7 (sd (sd (s ++ [φ]) α) β)
    have h2 := sd_W7 b7 (q := sd (s ++ [φ]) α) (by rw [sd_len]; omega)
    have h3 := sd_W7 a7 (q := s ++ [φ]) (by omega)
    have := mul_le (a := ab (ev (sd (sd (s ++ [φ]) α) β) α)) (b := ((6 * 336 ^ 12 * s7 7 : Nat) : Re)) (c := α - β) (by grind) (by grind)
    grind
  have p1 := mul_le2 k8 dv (by have := natRe_nonneg k; grind) (ab_nonneg _)
  have p2 := mul_le2 bW p1 (ab_nonneg _) (mul_nonneg (by have := natRe_nonneg k; grind) (ab_nonneg _))
  have num : ((336 ^ 10 * s7 7 * (8 * (6 * 336 ^ 12 * s7 7)) : Nat) : Re) ≤ ((2 ^ 225 : Nat) : Re) := natRe_le.mpr (by decide +kernel)
  rw [natRe_mul, natRe_mul 8] at num
  have p3 := mul_le num (c := α - β) (by grind)
  grind
end Bd

namespace Bd
open Re
/-! ## polynomials with fractions -/
abbrev Qp := List Rat
def cQ (p : Qp) : P := p.map ofRat
theorem cQ_len (p : Qp) : (cQ p).length = p.length := List.length_map _
theorem evQ_cons (a : Rat) (p : Qp) (x : Re) : ev (cQ (a :: p)) x = ofRat a + x * ev (cQ p) x := rfl
/-- without zeros at the end -/
def Tr (p : Qp) : Prop := p = [] ∨ ∃ s a, p = s ++ [a] ∧ a ≠ 0
structure TrimOf (p r : Qp) : Prop where
  tr : Tr r
  le : r.length ≤ p.length
  pre : r = p.take r.length
  zero : ∀ i, r.length ≤ i → p.getD i 0 = 0
theorem evQ_short : ∀ (w : Qp) (d : Nat), (∀ i, d ≤ i → w.getD i 0 = 0) → ∀ x, ev (cQ w) x = ev (cQ (w.take d)) x
  | [], d, _, x => by simp
  | a :: w, 0, h, x => by
    have h0 := h 0 (Nat.zero_le _)
    have ih := evQ_short w 0 (fun i _ => by have := h (i + 1) (Nat.zero_le _); simpa using this) x
    simp only [List.getD_cons_zero] at h0
    rw [evQ_cons, ih, h0, ofRat_zero]
    simp only [List.take_zero, cQ, List.map_nil, ev]
    grind
  | a :: w, d + 1, h, x => by
    have ih := evQ_short w d (fun i hi => by have := h (i + 1) (by omega); simpa using this) x
    rw [List.take_succ_cons, evQ_cons, evQ_cons, ih]
theorem TrimOf.ev {p r : Qp} (h : TrimOf p r) (x : Re) : Bd.ev (cQ r) x = Bd.ev (cQ p) x := by
  rw [evQ_short p r.length h.zero x, ← h.pre]
theorem TrimOf.mem {p r : Qp} (h : TrimOf p r) {a : Rat} (ha : a ∈ r) : a ∈ p := by
  rw [h.pre] at ha
  exact List.mem_of_mem_take ha
theorem getD_snoc (s : Qp) (a : Rat) : (s ++ [a]).getD s.length 0 = a := by simp
theorem TrimOf.self {p r : Qp} (h : TrimOf p r) (t : Tr p) : r = p := by
  rcases t with rfl | ⟨s, a, rfl, ha⟩
  · exact List.length_eq_zero_iff.mp (by have := h.le; simpa using this)
  · have l : r.length = (s ++ [a]).length := by
      have := h.le
      refine Classical.byContradiction fun n => ha ?_
      have := h.zero s.length (by simp at *; omega)
      rw [getD_snoc] at this
      exact this
    rw [h.pre, l, List.take_length]
theorem TrimOf.short {p r : Qp} (h : TrimOf p r) {s : Qp} (e : p = s ++ [0]) : r.length ≤ s.length := by
  have := h.le
  rcases h.tr with rfl | ⟨t, a, rfl, ha⟩
  · exact Nat.zero_le _
  · refine Classical.byContradiction fun n => ha ?_
    subst e
    have l : (t ++ [a]).length = (s ++ [(0 : Rat)]).length := by simp at *; omega
    have q := h.pre
    rw [l, List.take_length] at q
    exact List.head_eq_of_cons_eq (List.append_inj_right' q rfl)
theorem Tr.snoc {p : Qp} (t : Tr p) (h : p ≠ []) : ∃ s a, p = s ++ [a] ∧ a ≠ 0 := t.resolve_left h
theorem Tr.nz {p : Qp} (t : Tr p) (h : p ≠ []) : ∃ x, ev (cQ p) x ≠ 0 := by
  obtain ⟨s, a, rfl, ha⟩ := t.snoc h
  rw [show cQ (s ++ [a]) = cQ s ++ [ofRat a] by simp [cQ]]
  exact snoc_nz fun z => ha (ofRat_inj z)
theorem Tr.nil_of {p : Qp} (t : Tr p) (h : ∀ x, ev (cQ p) x = 0) : p = [] := by
  refine Classical.byContradiction fun n => ?_
  obtain ⟨x, hx⟩ := t.nz n
  exact hx (h x)
/-- equal values, no zeros at the end: equal -/
theorem ev_inj_tr {s t : P} {a b : Re} (ha : a ≠ 0) (hb : b ≠ 0) (h : ∀ x, ev (s ++ [a]) x = ev (t ++ [b]) x) : s ++ [a] = t ++ [b] := by
  have key : ∀ {s t : P} {a b : Re}, b ≠ 0 → (∀ x, ev (s ++ [a]) x = ev (t ++ [b]) x) → ¬ s.length < t.length := fun {s t a b} hb h lt => by
    obtain ⟨w, e2, l2⟩ := padd_snoc t ((s ++ [a]).map (- ·)) b (by simp; omega)
    have := ev_zero (padd (t ++ [b]) ((s ++ [a]).map (- ·))) (fun x => by rw [ev_padd, ev_neg, h]; grind) b (by rw [e2]; simp)
    exact hb this
  refine ev_inj ?_ h
  have h1 := key hb h
  have h2 := key ha fun x => (h x).symm
  simp
  omega

/-! ### bits -/
def Cm (l : Qp) (B : Nat) : Prop := ∃ D : Nat, 0 < D ∧ D < 2 ^ B ∧ ∀ r ∈ l, ∃ n : Int, r * (D : Rat) = (n : Rat) ∧ n.natAbs < 2 ^ B
theorem Cm.mono {l : Qp} {B C : Nat} (h : Cm l B) (k : B ≤ C) : Cm l C :=
  let ⟨D, d0, d1, d2⟩ := h
  have p := Nat.pow_le_pow_right (n := 2) (by decide) k
  ⟨D, d0, Nat.lt_of_lt_of_le d1 p, fun r hr => let ⟨n, e, b⟩ := d2 r hr; ⟨n, e, Nat.lt_of_lt_of_le b p⟩⟩
theorem Cm.sub {l m : Qp} {B : Nat} (h : Cm l B) (k : ∀ r ∈ m, r ∈ l) : Cm m B :=
  let ⟨D, d0, d1, d2⟩ := h
  ⟨D, d0, d1, fun r hr => d2 r (k r hr)⟩
theorem Cm.pos {l : Qp} {B : Nat} (h : Cm l B) : 0 < B := by
  obtain ⟨D, d0, d1, _⟩ := h
  refine Nat.pos_of_ne_zero fun z => ?_
  subst z
  simp at d1
  omega
theorem num_den_le {r : Rat} {n D : Int} (hD : D ≠ 0) (h : r * (D : Rat) = (n : Rat)) : r.num.natAbs ≤ n.natAbs ∧ r.den ≤ D.natAbs := by
  have hD' : (D : Rat) ≠ 0 := fun z => hD (Rat.intCast_eq_zero_iff.mp z)
  have e : r = Rat.divInt n D := by
    rw [Rat.divInt_eq_div, ← h, Rat.mul_div_cancel hD']
  rw [e, Rat.num_divInt, Rat.den_divInt, if_neg hD]
  refine ⟨?_, Nat.div_le_self _ _⟩
  have dv : ((D.gcd n : Nat) : Int) ∣ D.sign * n := Int.dvd_trans (Int.gcd_dvd_right _ _) (Int.dvd_mul_left _ _)
  rw [Int.natAbs_ediv_of_dvd dv, Int.natAbs_natCast, Int.natAbs_mul, Int.natAbs_sign_of_ne_zero hD, Nat.one_mul]
  exact Nat.div_le_self _ _
theorem Cm.bits {l : Qp} {B : Nat} (h : Cm l B) {r : Rat} (hr : r ∈ l) : r.num.natAbs < 2 ^ B ∧ r.den < 2 ^ B := by
  obtain ⟨D, d0, d1, d2⟩ := h
  obtain ⟨n, e, b⟩ := d2 r hr
  have := num_den_le (r := r) (n := n) (D := D) (by omega) (by rw [Rat.intCast_natCast]; exact e)
  rw [Int.natAbs_natCast] at this
  omega
/-- r + - f q, shifted -/
def ax : Qp → Nat → Rat → Qp → Qp
  | R, _, _, [] => R
  | R, sh, f, a :: q => ax (R.set sh (R.getD sh 0 + -(f * a))) (sh + 1) f q
theorem ax_len : ∀ (q R : Qp) (sh : Nat) (f : Rat), (ax R sh f q).length = R.length
  | [], R, sh, f => rfl
  | a :: q, R, sh, f => by rw [ax, ax_len q, List.length_set]
theorem getD_set (R : Qp) (k : Nat) (c : Rat) (j : Nat) (hk : k < R.length) : (R.set k c).getD j 0 = if k = j then c else R.getD j 0 := by
  simp only [List.getD_eq_getElem?_getD, List.getElem?_set]
  by_cases e : k = j
  · subst e; rw [if_pos rfl, if_pos rfl, if_pos hk]; rfl
  · rw [if_neg e, if_neg e]
theorem ax_get : ∀ (q R : Qp) (sh : Nat) (f : Rat), sh + q.length ≤ R.length → ∀ j, (ax R sh f q).getD j 0 = if sh ≤ j ∧ j < sh + q.length then R.getD j 0 + -(f * q.getD (j - sh) 0) else R.getD j 0
  | [], R, sh, f, h, j => by
    rw [ax, if_neg (by simp)]
  | a :: q, R, sh, f, h, j => by
    simp only [List.length_cons] at h
    rw [ax, ax_get q _ _ _ (by rw [List.length_set]; omega), getD_set _ _ _ _ (by omega)]
    by_cases e : sh = j
    · subst e
      rw [if_neg (by omega), if_pos rfl, if_pos (by simp), Nat.sub_self, List.getD_cons_zero]
    · rw [if_neg e]
      by_cases k : sh + 1 ≤ j ∧ j < sh + 1 + q.length
      · rw [if_pos k, if_pos (by simp only [List.length_cons]; omega)]
        obtain ⟨m, rfl⟩ : ∃ m, j = sh + (m + 1) := ⟨j - sh - 1, by omega⟩
        rw [show sh + (m + 1) - sh = m + 1 by omega, show sh + (m + 1) - (sh + 1) = m by omega, List.getD_cons_succ]
      · rw [if_neg k, if_neg (by simp only [List.length_cons]; omega)]
theorem evQ_set : ∀ (R : Qp) (k : Nat) (c : Rat) (x : Re), k < R.length → ev (cQ (R.set k (R.getD k 0 + c))) x = ev (cQ R) x + ofRat c * x ^ k
  | [], k, c, x, h => by simp at h
  | a :: R, 0, c, x, h => by
    rw [List.set_cons_zero, List.getD_cons_zero, evQ_cons, evQ_cons, ofRat_add, Lean.Grind.Semiring.pow_zero]
    grind
  | a :: R, k + 1, c, x, h => by
    rw [List.set_cons_succ, List.getD_cons_succ, evQ_cons, evQ_cons, evQ_set R k c x (by simpa using h), Lean.Grind.Semiring.pow_succ]
    grind
theorem ax_ev : ∀ (q R : Qp) (sh : Nat) (f : Rat) (x : Re), sh + q.length ≤ R.length → ev (cQ (ax R sh f q)) x = ev (cQ R) x - ofRat f * x ^ sh * ev (cQ q) x
  | [], R, sh, f, x, h => by
    simp only [ax, cQ, List.map_nil, ev]
    grind
  | a :: q, R, sh, f, x, h => by
    simp only [List.length_cons] at h
    rw [ax, ax_ev q _ _ _ x (by rw [List.length_set]; omega), evQ_set _ _ _ _ (by omega), evQ_cons, ofRat_neg, ofRat_mul, Lean.Grind.Semiring.pow_succ]
    grind
theorem getD_mem {l : Qp} {i : Nat} (h : i < l.length) : l.getD i 0 ∈ l := by
  rw [List.getD_eq_getElem?_getD, List.getElem?_eq_getElem h]
  exact List.getElem_mem _
theorem mem_getD {l : Qp} {a : Rat} (h : a ∈ l) : ∃ i, i < l.length ∧ a = l.getD i 0 := by
  obtain ⟨i, hi, rfl⟩ := List.getElem_of_mem h
  exact ⟨i, hi, by rw [List.getD_eq_getElem?_getD, List.getElem?_eq_getElem hi]; rfl⟩
theorem Cm.ax {R q : Qp} {B C : Nat} (hR : Cm R B) (hq : Cm q C) {rl ql : Rat} (h1 : rl ∈ R) (h2 : ql ∈ q) (h0 : ql ≠ 0) {sh : Nat} (hl : sh + q.length ≤ R.length) : Cm (Bd.ax R sh (rl / ql) q) (B + C + 1) := by
  obtain ⟨D, d0, d1, d2⟩ := hR
  obtain ⟨E, e0, e1, e2⟩ := hq
  obtain ⟨nl, nle, nlb⟩ := d2 rl h1
  obtain ⟨ml, mle, mlb⟩ := e2 ql h2
  have D0 : (D : Rat) ≠ 0 := fun z => by have := Rat.natCast_eq_zero_iff.mp z; omega
  have E0 : (E : Rat) ≠ 0 := fun z => by have := Rat.natCast_eq_zero_iff.mp z; omega
  have ml0 : ml ≠ 0 := fun z => by
    subst z
    have : ql * (E : Rat) = 0 := mle
    rcases Rat.mul_eq_zero.mp this with z | z
    · exact h0 z
    · exact E0 z
  have ml0' : (ml : Rat) ≠ 0 := fun z => ml0 (Rat.intCast_eq_zero_iff.mp z)
  have pB : 0 < 2 ^ B := Nat.pow_pos (by decide)
  have pC : 0 < 2 ^ C := Nat.pow_pos (by decide)
  have sgn : (((ml.natAbs : Nat) : Int) : Rat) = (ml.sign : Rat) * (ml : Rat) := by
    rw [← Rat.intCast_mul, Int.sign_mul_self]
  refine ⟨D * ml.natAbs, Nat.mul_pos d0 (by omega), ?_, fun r hr => ?_⟩
  · have := Nat.mul_lt_mul'' d1 mlb
    rw [Nat.pow_succ, Nat.pow_add]
    omega
  · have fin : ∀ (r : Rat) (z : Int), r * (D : Rat) * (ml : Rat) = (z : Rat) → z.natAbs < 2 ^ (B + C + 1) → ∃ n : Int, r * ((D * ml.natAbs : Nat) : Rat) = (n : Rat) ∧ n.natAbs < 2 ^ (B + C + 1) := fun r z e b => by
      refine ⟨ml.sign * z, ?_, by rw [Int.natAbs_mul, Int.natAbs_sign_of_ne_zero ml0, Nat.one_mul]; exact b⟩
      rw [Rat.natCast_mul, Rat.intCast_mul, ← e, ← Rat.intCast_natCast ml.natAbs, sgn]
      grind
    obtain ⟨j, hj, rfl⟩ := mem_getD hr
    rw [ax_len] at hj
    obtain ⟨nj, nje, njb⟩ := d2 _ (getD_mem hj)
    rw [ax_get _ _ _ _ hl]
    split
    · rename_i k
      obtain ⟨mk, mke, mkb⟩ := e2 _ (getD_mem (l := q) (i := j - sh) (by omega))
      refine fin _ (nj * ml - nl * mk) ?_ ?_
      · rw [Rat.intCast_sub, Rat.intCast_mul, Rat.intCast_mul, ← nje, ← mle, ← nle, ← mke]
        have : rl / ql * ql = rl := Rat.div_mul_cancel h0
        generalize rl / ql = f at *
        subst this
        grind
      · have t := Int.natAbs_sub_le (nj * ml) (nl * mk)
        rw [Int.natAbs_mul, Int.natAbs_mul] at t
        have a1 := Nat.mul_lt_mul'' njb mlb
        have a2 := Nat.mul_lt_mul'' nlb mkb
        rw [Nat.pow_succ, Nat.pow_add]
        omega
    · refine fin _ (nj * ml) ?_ ?_
      · rw [Rat.intCast_mul, ← nje]
      · rw [Int.natAbs_mul]
        have a1 := Nat.mul_lt_mul'' njb mlb
        rw [Nat.pow_succ, Nat.pow_add]
        omega
theorem Cm.scale {R : Qp} {B : Nat} (hR : Cm R B) {rl : Rat} (h1 : rl ∈ R) (h0 : rl ≠ 0) : Cm (R.map (· * (1 / rl))) B := by
  obtain ⟨D, d0, d1, d2⟩ := hR
  obtain ⟨nl, nle, nlb⟩ := d2 rl h1
  have D0 : (D : Rat) ≠ 0 := fun z => by have := Rat.natCast_eq_zero_iff.mp z; omega
  have nl0 : nl ≠ 0 := fun z => by
    subst z
    have : rl * (D : Rat) = 0 := nle
    rcases Rat.mul_eq_zero.mp this with z | z
    · exact h0 z
    · exact D0 z
  have sgn : (((nl.natAbs : Nat) : Int) : Rat) = (nl.sign : Rat) * (nl : Rat) := by
    rw [← Rat.intCast_mul, Int.sign_mul_self]
  refine ⟨nl.natAbs, by omega, nlb, fun r hr => ?_⟩
  obtain ⟨y, hy, rfl⟩ := List.mem_map.mp hr
  obtain ⟨n, e, b⟩ := d2 y hy
  refine ⟨nl.sign * n, ?_, by rw [Int.natAbs_mul, Int.natAbs_sign_of_ne_zero nl0, Nat.one_mul]; exact b⟩
  rw [← Rat.intCast_natCast, sgn, Rat.intCast_mul, ← nle, ← e]
  have : 1 / rl * rl = 1 := Rat.div_mul_cancel h0
  grind

/-! ### derivatives -/
def dq : Nat → Qp → Qp
  | _, [] => []
  | k, a :: p => (a * ((k : Int) : Rat)) :: dq (k + 1) p
def derQ (p : Qp) : Qp := (dq 0 p).tail
theorem dq_len : ∀ (p : Qp) (k : Nat), (dq k p).length = p.length
  | [], _ => rfl
  | a :: p, k => by rw [dq, List.length_cons, dq_len p, List.length_cons]
theorem derQ_len (p : Qp) : (derQ p).length = p.length - 1 := by unfold derQ; rw [List.length_tail, dq_len]
theorem ofRat_int (n : Int) : ofRat (n : Rat) = toR n := rfl
theorem dq_ev : ∀ (p : Qp) (k : Nat) (x : Re), ev (cQ (dq k p)) x = toR k * ev (cQ p) x + x * dev (cQ p) x
  | [], k, x => by simp only [dq, cQ, List.map_nil, ev, dev]; grind
  | a :: p, k, x => by
    rw [dq, evQ_cons, dq_ev p, evQ_cons, ofRat_mul, ofRat_int, show dev (cQ (a :: p)) x = ev (cQ p) x + x * dev (cQ p) x from rfl, show ((k + 1 : Nat) : Int) = (k : Int) + 1 from rfl, toR_add, toR_one]
    grind
theorem derQ_ev (p : Qp) (x : Re) : ev (cQ (derQ p)) x = dev (cQ p) x := by
  cases p with
  | nil => rfl
  | cons a p =>
    show ev (cQ (dq 1 p)) x = ev (cQ p) x + x * dev (cQ p) x
    rw [dq_ev, show ((1 : Nat) : Int) = 1 from rfl, toR_one]
    grind
theorem dq_snoc : ∀ (s : Qp) (a : Rat) (k : Nat), dq k (s ++ [a]) = dq k s ++ [a * (((k + s.length : Nat) : Int) : Rat)]
  | [], a, k => rfl
  | b :: s, a, k => by
    rw [List.cons_append, dq, dq_snoc s a (k + 1), dq, List.cons_append, List.length_cons, show k + 1 + s.length = k + (s.length + 1) by omega]
theorem derQ_tr {p : Qp} (t : Tr p) : Tr (derQ p) := by
  rcases t with rfl | ⟨s, a, rfl, ha⟩
  · exact .inl rfl
  · cases s with
    | nil => exact .inl rfl
    | cons b s =>
      refine .inr ⟨dq 1 s, a * (((1 + s.length : Nat) : Int) : Rat), ?_, fun z => ?_⟩
      · show dq 1 (s ++ [a]) = _
        rw [dq_snoc]
      · rcases Rat.mul_eq_zero.mp z with z | z
        · exact ha z
        · have := Rat.intCast_eq_zero_iff.mp z
          omega
theorem dq_cm {D B : Nat} : ∀ (p : Qp) (k : Nat), (∀ r ∈ p, ∃ n : Int, r * (D : Rat) = (n : Rat) ∧ n.natAbs < 2 ^ B) → k + p.length ≤ 16 → ∀ r ∈ dq k p, ∃ n : Int, r * (D : Rat) = (n : Rat) ∧ n.natAbs < 2 ^ (B + 4)
  | [], _, _, _, r, h => by cases h
  | a :: p, k, h, hk, r, hr => by
    simp only [List.length_cons] at hk
    rcases List.mem_cons.mp hr with e | e
    · obtain ⟨n, e1, b1⟩ := h a List.mem_cons_self
      refine ⟨n * k, ?_, ?_⟩
      · rw [e, Rat.intCast_mul, ← e1]; grind
      · rw [Int.natAbs_mul, Int.natAbs_natCast, Nat.pow_add]
        have h1 : n.natAbs * k ≤ n.natAbs * 16 := Nat.mul_le_mul_left _ (by omega)
        omega
    · exact dq_cm p (k + 1) (fun r hr => h r (List.mem_cons_of_mem _ hr)) (by omega) r e
theorem derQ_cm {p : Qp} {B : Nat} (h : Cm p B) (hl : p.length ≤ 16) : Cm (derQ p) (B + 4) := by
  obtain ⟨D, d0, d1, d2⟩ := h
  refine ⟨D, d0, Nat.lt_of_lt_of_le d1 (Nat.pow_le_pow_right (by decide) (by omega)), fun r hr => ?_⟩
  exact dq_cm p 0 d2 (by omega) r (List.mem_of_mem_tail hr)

/-! ### the greatest common divisor -/
structure Gcd (p q g : Qp) : Prop where
  mon : ∃ t, g = t ++ [1]
  dp : ∃ a : P, ∀ x, ev (cQ p) x = ev a x * ev (cQ g) x
  dq : ∃ b : P, ∀ x, ev (cQ q) x = ev b x * ev (cQ g) x
  co : ∃ u v : P, ∀ x, ev (cQ g) x = ev u x * ev (cQ p) x + ev v x * ev (cQ q) x
/-- what Euclid's turns keep -/
structure Euc (p0 q0 p q : Qp) : Prop where
  trp : Tr p
  trq : Tr q
  ne : p ≠ []
  pc : ∃ a b : P, ∀ x, ev (cQ p) x = ev a x * ev (cQ p0) x + ev b x * ev (cQ q0) x
  qc : ∃ a b : P, ∀ x, ev (cQ q) x = ev a x * ev (cQ p0) x + ev b x * ev (cQ q0) x
  p0c : ∃ a b : P, ∀ x, ev (cQ p0) x = ev a x * ev (cQ p) x + ev b x * ev (cQ q) x
  q0c : ∃ a b : P, ∀ x, ev (cQ q0) x = ev a x * ev (cQ p) x + ev b x * ev (cQ q) x
def c1 : P := [1]
theorem ev_c1 (x : Re) : ev c1 x = 1 := by simp only [c1, ev]; grind
theorem Euc.start {p q : Qp} (tp : Tr p) (tq : Tr q) (h : p ≠ []) : Euc p q p q :=
  ⟨tp, tq, h, ⟨c1, [], fun x => by rw [ev_c1, ev_nil]; grind⟩, ⟨[], c1, fun x => by rw [ev_c1, ev_nil]; grind⟩, ⟨c1, [], fun x => by rw [ev_c1, ev_nil]; grind⟩, ⟨[], c1, fun x => by rw [ev_c1, ev_nil]; grind⟩⟩
theorem evQ_scale (p : Qp) (c : Rat) (x : Re) : ev (cQ (p.map (· * c))) x = ofRat c * ev (cQ p) x := by
  induction p with
  | nil => simp only [List.map_nil, cQ, ev]; grind
  | cons a p ih => rw [List.map_cons, evQ_cons, ih, ofRat_mul, evQ_cons]; grind
/-- one turn: the rest, times a number that is not 0 -/
theorem Euc.turn {p0 q0 p q r r' : Qp} {f : P} (E : Euc p0 q0 p q) (hq : q ≠ []) (h : ∀ x, ev (cQ p) x = ev f x * ev (cQ q) x + ev (cQ r) x) {c : Rat} (hc : c ≠ 0) (hr : ∀ x, ev (cQ r') x = ofRat c * ev (cQ r) x) (tr : Tr r') : Euc p0 q0 q r' := by
  obtain ⟨i, hi⟩ := inv_ex (a := ofRat c) fun z => hc (ofRat_inj z)
  obtain ⟨a, b, ab⟩ := E.pc
  obtain ⟨a', b', ab'⟩ := E.qc
  obtain ⟨u, v, uv⟩ := E.p0c
  obtain ⟨u', v', uv'⟩ := E.q0c
  refine ⟨E.trq, tr, hq, E.qc, ?_, ?_, ?_⟩
  · refine ⟨(padd a ((pmul f a').map (- ·))).map (ofRat c * ·), (padd b ((pmul f b').map (- ·))).map (ofRat c * ·), fun x => ?_⟩
    rw [hr, ev_smul, ev_smul, ev_padd, ev_padd, ev_neg, ev_neg, ev_pmul, ev_pmul]
    have h1 := h x
    rw [ab, ab'] at h1
    have : ev (cQ r) x = ev a x * ev (cQ p0) x + ev b x * ev (cQ q0) x - ev f x * (ev a' x * ev (cQ p0) x + ev b' x * ev (cQ q0) x) := by grind
    rw [this]; grind
  · refine ⟨padd (pmul u f) v, u.map (i * ·), fun x => ?_⟩
    rw [uv, h, ev_padd, ev_pmul, ev_smul, hr]
    have : ev (cQ r) x = i * ofRat c * ev (cQ r) x := by rw [show i * ofRat c = ofRat c * i by grind, hi]; grind
    grind
  · refine ⟨padd (pmul u' f) v', u'.map (i * ·), fun x => ?_⟩
    rw [uv', h, ev_padd, ev_pmul, ev_smul, hr]
    have : ev (cQ r) x = i * ofRat c * ev (cQ r) x := by rw [show i * ofRat c = ofRat c * i by grind, hi]; grind
    grind
theorem Euc.done {p0 q0 p g : Qp} (E : Euc p0 q0 p []) {c : Rat} (hc : c ≠ 0) (hg : ∀ x, ev (cQ g) x = ofRat c * ev (cQ p) x) (hm : ∃ t, g = t ++ [1]) : Gcd p0 q0 g := by
  obtain ⟨i, hi⟩ := inv_ex (a := ofRat c) fun z => hc (ofRat_inj z)
  obtain ⟨a, b, ab⟩ := E.pc
  obtain ⟨u, v, uv⟩ := E.p0c
  obtain ⟨u', v', uv'⟩ := E.q0c
  have e : ∀ x, ev (cQ p) x = i * ev (cQ g) x := fun x => by rw [hg, show i * (ofRat c * ev (cQ p) x) = ofRat c * i * ev (cQ p) x by grind, hi]; grind
  refine ⟨hm, ⟨u.map (i * ·), fun x => ?_⟩, ⟨u'.map (i * ·), fun x => ?_⟩, ⟨a.map (ofRat c * ·), b.map (ofRat c * ·), fun x => ?_⟩⟩
  · rw [uv, ev_smul, e, show cQ [] = [] from rfl, ev_nil]; grind
  · rw [uv', ev_smul, e, show cQ [] = [] from rfl, ev_nil]; grind
  · rw [hg, ab, ev_smul, ev_smul]; grind
/-- the rest of a multiple is empty -/
theorem exact_rest {p g f r : Qp} (hm : ∃ t, g = t ++ [1]) (hd : ∃ a : P, ∀ x, ev (cQ p) x = ev a x * ev (cQ g) x) (h : ∀ x, ev (cQ p) x = ev (cQ f) x * ev (cQ g) x + ev (cQ r) x) (hl : r.length < g.length) (tr : Tr r) : r = [] := by
  obtain ⟨t, rfl⟩ := hm
  obtain ⟨a, ha⟩ := hd
  refine tr.nil_of (deg_zero (s := cQ t) (φ := 1) (c := padd a ((cQ f).map (- ·))) (fun z => zero_ne_one z.symm) (by rw [cQ_len, cQ_len]; simp at hl; omega) fun x => ?_)
  have h1 := h x
  rw [ha] at h1
  rw [show cQ t ++ [(1 : Re)] = cQ (t ++ [1]) by simp [cQ]; rfl, ev_padd, ev_neg]
  grind
end Bd

namespace Bd
open Re
/-! ## the data of a simple part, from what the program reckons -/
structure Sq (p f g : Qp) (h u v : P) (s t : Qp) (φ : Rat) : Prop where
  sp : SP (cQ p) (cQ s ++ [ofRat φ]) (cQ t ++ [1]) h u v
  ef : f = s ++ [φ]
  eg : g = t ++ [1]
  φ0 : φ ≠ 0
  len : p.length = s.length + t.length + 1
  lst : ∃ q, p = q ++ [φ]
theorem cQ_snoc (s : Qp) (a : Rat) : cQ (s ++ [a]) = cQ s ++ [ofRat a] := by simp [cQ]
theorem sq_of {p f g : Qp} (tp : Tr p) (np : p ≠ []) (G : Gcd p (derQ p) g) (tf : Tr f) (hf : ∀ x, ev (cQ p) x = ev (cQ f) x * ev (cQ g) x) : ∃ h u v s t φ, Sq p f g h u v s t φ := by
  obtain ⟨t, rfl⟩ := G.mon
  obtain ⟨b, hb⟩ := G.dq
  obtain ⟨u, v, huv⟩ := G.co
  have nf : f ≠ [] := fun z => by
    subst z
    obtain ⟨x, hx⟩ := tp.nz np
    refine hx ?_
    rw [hf, show cQ [] = [] from rfl, ev_nil]; grind
  obtain ⟨s, φ, rfl, hφ⟩ := tf.snoc nf
  obtain ⟨q, a, rfl, ha⟩ := tp.snoc np
  have e1 : cQ (t ++ [1]) = cQ t ++ [1] := cQ_snoc t 1
  have big := pmul_snoc (cQ s) (cQ t) (ofRat φ) 1
  obtain ⟨z, ez, lz⟩ := big
  have hφ' : ofRat φ * 1 ≠ 0 := fun y => hφ (ofRat_inj (by rw [ofRat_zero]; grind))
  have ha' : ofRat a ≠ 0 := fun y => ha (ofRat_inj y)
  have eq := ev_inj_tr (s := cQ q) (t := z) (a := ofRat a) (b := ofRat φ * 1) ha' hφ' fun x => by
    rw [← cQ_snoc, ← ez, ev_pmul, hf, cQ_snoc, cQ_snoc]; rfl
  refine ⟨b, u, v, s, t, φ, ⟨tp.nz np, fun x => ?_, fun x => ?_, fun x => ?_⟩, rfl, rfl, hφ, ?_, q, ?_⟩
  · rw [hf, cQ_snoc, cQ_snoc]; rfl
  · rw [← derQ_ev, hb, e1]
  · rw [← e1, huv, derQ_ev]
  · have := congrArg List.length eq
    simp [cQ_len] at this
    rw [lz, cQ_len, cQ_len] at this
    simp
    omega
  · have := List.head_eq_of_cons_eq (List.append_inj_right' eq rfl)
    have : a = φ := ofRat_inj (by grind)
    rw [this]

/-! ## whole coefficients -/
theorem ints_of {D B : Nat} : ∀ (p : Qp), (∀ r ∈ p, ∃ n : Int, r * (D : Rat) = (n : Rat) ∧ n.natAbs < 2 ^ B) → ∃ A : Z, A.length = p.length ∧ (∀ c ∈ A, c.natAbs < 2 ^ B) ∧ ∀ x, ev (cZ A) x = ofRat (D : Rat) * ev (cQ p) x
  | [], _ => ⟨[], rfl, (fun _ h => by cases h), (fun x => by simp only [cZ, cQ, List.map_nil, ev]; grind)⟩
  | a :: p, h => by
    obtain ⟨A, l, b, e⟩ := ints_of p fun r hr => h r (List.mem_cons_of_mem _ hr)
    obtain ⟨n, en, bn⟩ := h a List.mem_cons_self
    refine ⟨n :: A, by simp [l], fun c hc => ?_, fun x => ?_⟩
    · rcases List.mem_cons.mp hc with z | z
      · rw [z]; exact bn
      · exact b c z
    · show toR n + x * ev (cZ A) x = _
      rw [e, evQ_cons, show toR n = ofRat (n : Rat) from rfl, ← en, ofRat_mul]
      grind
def dz : Nat → Z → Z
  | _, [] => []
  | k, a :: p => (a * (k : Int)) :: dz (k + 1) p
def derZ (p : Z) : Z := (dz 0 p).tail
theorem dz_len : ∀ (p : Z) (k : Nat), (dz k p).length = p.length
  | [], _ => rfl
  | a :: p, k => by rw [dz, List.length_cons, dz_len p, List.length_cons]
theorem derZ_len (p : Z) : (derZ p).length = p.length - 1 := by unfold derZ; rw [List.length_tail, dz_len]
theorem dz_ev : ∀ (p : Z) (k : Nat) (x : Re), ev (cZ (dz k p)) x = toR k * ev (cZ p) x + x * dev (cZ p) x
  | [], k, x => by simp only [dz, cZ, List.map_nil, ev, dev]; grind
  | a :: p, k, x => by
    show toR (a * (k : Int)) + x * ev (cZ (dz (k + 1) p)) x = toR k * (toR a + x * ev (cZ p) x) + x * (ev (cZ p) x + x * dev (cZ p) x)
    rw [dz_ev p, toR_mul, show ((k + 1 : Nat) : Int) = (k : Int) + 1 from rfl, toR_add, toR_one]
    grind
theorem derZ_ev (p : Z) (x : Re) : ev (cZ (derZ p)) x = dev (cZ p) x := by
  cases p with
  | nil => rfl
  | cons a p =>
    show ev (cZ (dz 1 p)) x = ev (cZ p) x + x * dev (cZ p) x
    rw [dz_ev, show ((1 : Nat) : Int) = 1 from rfl, toR_one]
    grind
theorem l1_le {M : Nat} : ∀ (A : Z), (∀ c ∈ A, c.natAbs ≤ M) → l1 A ≤ A.length * M
  | [], _ => Nat.zero_le _
  | a :: A, h => by
    have ih := l1_le A fun c hc => h c (List.mem_cons_of_mem _ hc)
    have ha := h a List.mem_cons_self
    rw [l1, List.length_cons, Nat.succ_mul]
    omega
theorem dz_bd {M : Nat} : ∀ (A : Z) (k : Nat), (∀ c ∈ A, c.natAbs ≤ M) → ∀ c ∈ dz k A, c.natAbs ≤ M * (k + A.length)
  | [], _, _, c, h => by cases h
  | a :: A, k, h, c, hc => by
    rcases List.mem_cons.mp hc with e | e
    · rw [e, Int.natAbs_mul, Int.natAbs_natCast]
      exact Nat.mul_le_mul (h a List.mem_cons_self) (by simp)
    · have := dz_bd A (k + 1) (fun c hc => h c (List.mem_cons_of_mem _ hc)) c e
      rw [List.length_cons, show k + (A.length + 1) = k + 1 + A.length by omega]
      exact this
theorem l1_pair {M : Nat} {A : Z} (h : ∀ c ∈ A, c.natAbs ≤ M) (hl : A.length ≤ 13) : l1 A + l1 (derZ A) ≤ 182 * M := by
  have h1 := l1_le A h
  have h2 := l1_le (M := M * 13) (derZ A) fun c hc => by
    have := dz_bd A 0 h c (List.mem_of_mem_tail hc)
    have : M * (0 + A.length) ≤ M * 13 := Nat.mul_le_mul_left _ (by omega)
    omega
  have h3 : A.length * M ≤ 13 * M := Nat.mul_le_mul_right _ hl
  have h4 : (derZ A).length * (M * 13) ≤ 13 * (M * 13) := Nat.mul_le_mul_right _ (by rw [derZ_len]; omega)
  omega
/-- the simple part's bits -/
theorem Sq.bits {p f g : Qp} {h u v : P} {s t : Qp} {φ : Rat} (S : Sq p f g h u v s t φ) {B n : Nat} (hB : Cm p B) (hl : p.length ≤ n + 1) (hn : n ≤ 12) (hs : 0 < s.length) : Cm f (B + 2 * n * (B + 9) + 1) := by
  obtain ⟨D, d0, d1, d2⟩ := hB
  obtain ⟨A, lA, bA, eA⟩ := ints_of p d2
  have D0 : ofRat (D : Rat) ≠ 0 := fun z => by
    have := Rat.natCast_eq_zero_iff.mp (ofRat_inj z)
    omega
  have eB : ∀ x, ev (cZ (derZ A)) x = ofRat (D : Rat) * dev (cQ p) x := fun x => by
    rw [derZ_ev]
    exact Bd.D.uniq (Bd.D.ev (cZ A) x) (((Bd.D.ev (cQ p) x).smul _).congr fun y => (eA y).symm)
  have S0 : 0 < 2 ^ (B + 8) := Nat.pow_pos (by decide)
  have l2 : l1 A + l1 (derZ A) ≤ 2 ^ (B + 8) := by
    have := l1_pair (M := 2 ^ B) (A := A) (fun c hc => Nat.le_of_lt (bA c hc)) (by omega)
    rw [Nat.pow_add]
    omega
  obtain ⟨w, c, c0, cb, lw, wb, weq⟩ := SP.small (r := s.length) (e := t.length) (S := 2 ^ (B + 8)) (fun z => S.φ0 (ofRat_inj z)) S.sp (cQ_len s) (cQ_len t) eA eB (by rw [lA, S.len]) (by rw [derZ_len, lA, S.len]; omega) hs S0 l2 D0
  have X : (2 * 2 ^ (B + 8)) ^ (2 * s.length) ≤ 2 ^ (2 * n * (B + 9)) := by
    rw [← Nat.pow_succ', ← Nat.pow_mul]
    refine Nat.pow_le_pow_right (by decide) ?_
    have : s.length ≤ n := by have := S.len; omega
    rw [Nat.mul_comm]
    exact Nat.mul_le_mul_right _ (by omega)
  have X1 : (2 : Nat) ^ (2 * n * (B + 9)) < 2 ^ (2 * n * (B + 9) + 1) := by rw [Nat.pow_succ]; have := Nat.pow_pos (n := 2 * n * (B + 9)) (show 0 < 2 by decide); omega
  -- the last coefficient of D p
  obtain ⟨nl, nle, nlb⟩ := d2 φ (by obtain ⟨q, e⟩ := S.lst; rw [e]; simp)
  refine ⟨D * c.natAbs, Nat.mul_pos d0 (by omega), ?_, fun r hr => ?_⟩
  · rw [Nat.add_assoc, Nat.pow_add]
    exact Nat.mul_lt_mul'' d1 (by omega)
  · rw [S.ef] at hr
    have : toR c * ofRat r ∈ (cQ s ++ [ofRat φ]).map (toR c * ·) := by
      rw [← cQ_snoc]
      exact List.mem_map_of_mem (List.mem_map_of_mem hr)
    rw [← weq] at this
    obtain ⟨k, hk, e⟩ := List.mem_map.mp this
    have e2 : φ * (k : Rat) = (c : Rat) * r := ofRat_inj (by rw [ofRat_mul, ofRat_mul]; exact e)
    refine ⟨c.sign * (nl * k), ?_, ?_⟩
    · rw [Rat.natCast_mul, ← Rat.intCast_natCast c.natAbs, ← Int.sign_mul_self, Rat.intCast_mul, Rat.intCast_mul, Rat.intCast_mul, ← nle]
      grind
    · rw [Int.natAbs_mul, Int.natAbs_sign_of_ne_zero c0, Nat.one_mul, Int.natAbs_mul, Nat.add_assoc, Nat.pow_add]
      have := wb k hk
      exact Nat.mul_lt_mul'' nlb (by omega)

/-! ## roots of a polynomial with fractions; rows that count them -/
open Classical in
noncomputable def rts (p : P) : List Re := if h : ∃ x, ev p x ≠ 0 then (roots_ex _ p (Nat.le_refl _) h).choose else []
theorem rts_spec {p : P} (h : ∃ x, ev p x ≠ 0) : (rts p).Nodup ∧ ∀ x, x ∈ rts p ↔ ev p x = 0 := by
  have := (roots_ex _ p (Nat.le_refl _) h).choose_spec
  unfold rts
  rw [dif_pos h]
  exact ⟨this.1, this.2.1⟩
noncomputable def nrt (p : Qp) (a b : Rat) : Nat := cnt (rts (cQ p)) a b
noncomputable def Vz (rs : List Z) (x : Rat) : Nat := cvs none (rs.map fun r => sgn (ev (cZ r) (ofRat x)))
def Stu (p : Qp) (rs : List Z) : Prop := ∀ a b : Rat, a < b → Vz rs a = Vz rs b + nrt p a b
theorem Vz_V (rs : List Z) (x : Rat) : Vz rs x = V (rs.map cZ) (ofRat x) := by
  unfold Vz V sgs
  rw [List.map_map]
  rfl
/-- three rows of Sturm's -/
def RelZ (a b c : Z) : Prop := ∃ (l m : Int) (s : P), 0 < l ∧ 0 < m ∧ ∀ x, toR l * ev (cZ a) x = ev s x * ev (cZ b) x - toR m * ev (cZ c) x
def Tri (rs : List Z) : Prop := ∀ (i : Nat) (a b c : Z), rs[i]? = some a → rs[i + 1]? = some b → rs[i + 2]? = some c → RelZ a b c
def LastOk (rs : List Z) : Prop := ∀ (i : Nat) (a b : Z), rs[i]? = some a → rs[i + 1]? = some b → i + 2 = rs.length → ∀ x, ev (cZ b) x = 0 → ev (cZ a) x = 0
theorem toR_pos {n : Int} (h : 0 < n) : 0 < toR n := toR_lt.mpr h
theorem ch_build : ∀ (l : List Z) (a b : Z), Tri (a :: b :: l) → LastOk (a :: b :: l) → (∀ x, ev (cZ a) x = 0 → ev (cZ b) x = 0 → False) → Ch (cZ a) ((b :: l).map cZ)
  | [], a, b, _, hl, nc => by
    have h0 : ∀ x, ev (cZ b) x ≠ 0 := fun x z => nc x (hl 0 a b rfl rfl rfl x z) z
    exact .step _ _ _ (fun x z => absurd z (h0 x)) (.last _ h0)
  | c :: l, a, b, ht, hl, nc => by
    obtain ⟨k, m, s, k0, m0, e⟩ := ht 0 a b c rfl rfl rfl
    have k0' := toR_pos k0
    have m0' := toR_pos m0
    refine .step _ _ _ (fun x z => ⟨cZ c, l.map cZ, rfl, ?_⟩) (ch_build l b c (fun i a' b' c' h1 h2 h3 => ht (i + 1) a' b' c' h1 h2 h3) (fun i a' b' h1 h2 h3 => hl (i + 1) a' b' h1 h2 (by simp at h3 ⊢; omega)) fun x z1 z2 => ?_)
    · have := e x
      rw [z] at this
      have na : ev (cZ a) x ≠ 0 := fun y => nc x y z
      have sq : 0 < ev (cZ a) x * ev (cZ a) x := by
        by_cases p : 0 < ev (cZ a) x
        · exact mul_pos p p
        · have := mul_pos (a := - ev (cZ a) x) (b := - ev (cZ a) x) (by grind) (by grind)
          grind
      have q := mul_pos k0' sq
      refine Classical.byContradiction fun n => ?_
      have r := mul_nonneg (a := toR m) (b := ev (cZ a) x * ev (cZ c) x) (by grind) (by grind)
      have e5 : toR m * ev (cZ c) x = - (toR k * ev (cZ a) x) := by
        have e4 : ev s x * (0 : Re) = 0 := by grind
        rw [e4] at this
        grind
      have e6 : toR m * (ev (cZ a) x * ev (cZ c) x) = ev (cZ a) x * (toR m * ev (cZ c) x) := by grind
      rw [e5] at e6
      clear this e5
      generalize toR k = kk at *
      generalize toR m = mm at *
      grind
    · have := e x
      rw [z1, z2] at this
      have : toR k * ev (cZ a) x = 0 := by grind
      exact nc x ((mul_eq_zero this).resolve_left (by grind)) z1
theorem stu_rows {p : Qp} {f : P} {r0 r1 : Z} {l : List Z} {c0 c1 : Rat} (nz : ∃ x, ev (cQ p) x ≠ 0) (hr : ∀ x, ev (cQ p) x = 0 ↔ ev f x = 0) (hs : ∀ x, ev f x = 0 → dev f x ≠ 0)
    (h0 : 0 < c0) (h1 : 0 < c1) (e0 : ∀ x, ev (cZ r0) x = ofRat c0 * ev f x) (e1 : ∀ x, ev (cZ r1) x = ofRat c1 * dev f x) (ht : Tri (r0 :: r1 :: l)) (hl : LastOk (r0 :: r1 :: l)) : Stu p (r0 :: r1 :: l) := by
  have h0' : 0 < ofRat c0 := ofRat_lt.mpr h0
  have h1' : 0 < ofRat c1 := ofRat_lt.mpr h1
  have z0 : ∀ x, ev (cZ r0) x = 0 ↔ ev f x = 0 := fun x => by
    rw [e0]
    exact ⟨fun z => (mul_eq_zero z).resolve_left (by grind), fun z => by rw [z]; grind⟩
  have nc : ∀ x, ev (cZ r0) x = 0 → ev (cZ r1) x = 0 → False := fun x a b => by
    rw [e1] at b
    exact hs x ((z0 x).mp a) ((mul_eq_zero b).resolve_left (by grind))
  have ch := ch_build l r0 r1 ht hl nc
  have sp := rts_spec nz
  intro a b hab
  rw [Vz_V, Vz_V]
  refine sturm ch (fun x z => ⟨cZ r1, l.map cZ, rfl, ?_⟩) sp.1 (fun x => ?_) hab
  · have d : dev (cZ r0) x = ofRat c0 * dev f x := D.uniq (D.ev (cZ r0) x) (((D.ev f x).smul _).congr fun y => (e0 y).symm)
    have dn := hs x ((z0 x).mp z)
    rw [d, e1]
    have sq : 0 < dev f x * dev f x := by
      by_cases p : 0 < dev f x
      · exact mul_pos p p
      · have := mul_pos (a := - dev f x) (b := - dev f x) (by grind) (by grind)
        grind
    have := mul_pos (mul_pos h0' h1') sq
    grind
  · rw [sp.2, hr, z0]
theorem stu_const {p : Qp} {a : Rat} {z : Int} (hp : p = [a]) (ha : a ≠ 0) : Stu p [[z]] := by
  subst hp
  intro x y hxy
  have ha' : ofRat a ≠ 0 := fun q => ha (ofRat_inj q)
  have e : ∀ x, ev (cQ [a]) x = ofRat a := fun x => by rw [evQ_cons]; simp only [cQ, List.map_nil, ev]; grind
  have nz : ∃ x, ev (cQ [a]) x ≠ 0 := ⟨0, by rw [e]; exact ha'⟩
  have n0 : nrt [a] x y = 0 := cnt_zero _ fun r hr _ _ => by
    have := ((rts_spec nz).2 r).mp hr
    rw [e] at this
    exact ha' this
  rw [n0]
  have v : ∀ x, Vz [[z]] x = 0 := fun x => by
    unfold Vz
    simp only [List.map_cons, List.map_nil]
    cases sgn (ev (cZ [z]) (ofRat x)) <;> rfl
  rw [v, v]
end Bd

namespace Bd
open Re
/-! ## values by Horner -/
def evr : Qp → Rat → Rat
  | [], _ => 0
  | a :: p, x => evr p x * x + a
theorem evr_ev : ∀ (p : Qp) (x : Rat), ofRat (evr p x) = ev (cQ p) (ofRat x)
  | [], x => ofRat_zero
  | a :: p, x => by
    rw [evr, ofRat_add, ofRat_mul, evr_ev p x, evQ_cons]
    grind
/-! ## products -/
theorem ax_snoc : ∀ (q R : Qp) (sh : Nat) (f a : Rat), ax R sh f (q ++ [a]) = (ax R sh f q).set (sh + q.length) ((ax R sh f q).getD (sh + q.length) 0 + -(f * a))
  | [], R, sh, f, a => rfl
  | b :: q, R, sh, f, a => by
    rw [List.cons_append, ax, ax_snoc q, ax, List.length_cons, show sh + 1 + q.length = sh + (q.length + 1) by omega]
def px : Qp → Nat → Qp → Qp → Qp
  | R, _, [], _ => R
  | R, sh, a :: p, q => px (ax R sh (-a) q) (sh + 1) p q
theorem px_snoc : ∀ (p R q : Qp) (sh : Nat) (a : Rat), px R sh (p ++ [a]) q = ax (px R sh p q) (sh + p.length) (-a) q
  | [], R, q, sh, a => rfl
  | b :: p, R, q, sh, a => by
    rw [List.cons_append, px, px_snoc p, px, List.length_cons, show sh + 1 + p.length = sh + (p.length + 1) by omega]
theorem px_len : ∀ (p R q : Qp) (sh : Nat), (px R sh p q).length = R.length
  | [], R, q, sh => rfl
  | b :: p, R, q, sh => by rw [px, px_len p, ax_len]
theorem px_ev : ∀ (p R q : Qp) (sh : Nat) (x : Re), sh + p.length + q.length ≤ R.length + 1 → ev (cQ (px R sh p q)) x = ev (cQ R) x + x ^ sh * (ev (cQ p) x * ev (cQ q) x)
  | [], R, q, sh, x, h => by
    rw [px, show cQ [] = [] from rfl, ev_nil]
    grind
  | a :: p, R, q, sh, x, h => by
    simp only [List.length_cons] at h
    rw [px, px_ev p _ _ _ x (by rw [ax_len]; omega), ax_ev _ _ _ _ _ (by omega), evQ_cons, ofRat_neg, Lean.Grind.Semiring.pow_succ]
    grind
theorem px_last : ∀ (p R q : Qp) (sh j : Nat), sh + p.length + q.length ≤ R.length + 1 → sh + p.length + q.length ≤ j + 1 → (px R sh p q).getD j 0 = R.getD j 0
  | [], R, q, sh, j, h, k => rfl
  | a :: p, R, q, sh, j, h, k => by
    simp only [List.length_cons] at h k
    rw [px, px_last p _ _ _ _ (by rw [ax_len]; omega) (by omega), ax_get _ _ _ _ (by omega), if_neg (by omega)]
/-- whole numbers, none above M -/
def Ib (M : Nat) (p : Qp) : Prop := ∀ r ∈ p, ∃ n : Int, r = (n : Rat) ∧ n.natAbs ≤ M
theorem Ib.mono {M N : Nat} {p : Qp} (h : Ib M p) (k : M ≤ N) : Ib N p := fun r hr => let ⟨n, e, b⟩ := h r hr; ⟨n, e, Nat.le_trans b k⟩
theorem Ib.sub {M : Nat} {p q : Qp} (h : Ib M p) (k : ∀ r ∈ q, r ∈ p) : Ib M q := fun r hr => h r (k r hr)
theorem Ib.ax {M A C : Nat} {R q : Qp} {sh : Nat} {m : Int} (hR : Ib M R) (hm : m.natAbs ≤ A) (hq : Ib C q) (hl : sh + q.length ≤ R.length) : Ib (M + A * C) (Bd.ax R sh (m : Rat) q) := by
  intro r hr
  obtain ⟨j, hj, rfl⟩ := mem_getD hr
  rw [ax_len] at hj
  obtain ⟨n, e, b⟩ := hR _ (getD_mem hj)
  rw [ax_get _ _ _ _ hl]
  split
  · rename_i k
    obtain ⟨c, ec, bc⟩ := hq _ (getD_mem (l := q) (i := j - sh) (by omega))
    refine ⟨n + -(m * c), by rw [e, ec, Rat.intCast_add, Rat.intCast_neg, Rat.intCast_mul], ?_⟩
    have t := Int.natAbs_add_le n (-(m * c))
    rw [Int.natAbs_neg, Int.natAbs_mul] at t
    have := Nat.mul_le_mul hm bc
    omega
  · exact ⟨n, e, by omega⟩
theorem Ib.px {A C : Nat} : ∀ (p : Qp) {R q : Qp} {sh M : Nat}, Ib M R → Ib A p → Ib C q → sh + p.length + q.length ≤ R.length + 1 → Ib (M + p.length * (A * C)) (Bd.px R sh p q)
  | [], R, q, sh, M, hR, _, _, _ => by rw [Bd.px]; exact hR.mono (by simp)
  | a :: p, R, q, sh, M, hR, hp, hq, h => by
    simp only [List.length_cons] at h
    obtain ⟨n, rfl, bn⟩ := hp a List.mem_cons_self
    have h1 := hR.ax (m := -n) (A := A) (sh := sh) (by rw [Int.natAbs_neg]; exact bn) hq (by omega)
    rw [Rat.intCast_neg] at h1
    rw [Bd.px]
    refine (Ib.px p (q := q) (sh := sh + 1) h1 (fun r hr => hp r (List.mem_cons_of_mem _ hr)) hq (by rw [ax_len]; omega)).mono ?_
    rw [List.length_cons, Nat.succ_mul]
    omega
theorem Ib.cm {M B : Nat} {p : Qp} (h : Ib M p) (k : M < 2 ^ B) (hB : 0 < B) : Cm p B :=
  ⟨1, by decide, Nat.one_lt_two_pow (by omega), fun r hr => let ⟨n, e, b⟩ := h r hr; ⟨n, by rw [e]; grind, by omega⟩⟩
theorem zeros_ev : ∀ (n : Nat) (x : Re), ev (cQ (List.replicate n 0)) x = 0
  | 0, x => rfl
  | n + 1, x => by
    rw [List.replicate_succ, evQ_cons, zeros_ev n, ofRat_zero]
    grind
/-- the product, trimmed -/
theorem prod_trim {p q r : Qp} (np : p ≠ []) (t : TrimOf (px (List.replicate (p.length + q.length) 0) 0 p q) r) : r.length + 1 ≤ p.length + q.length := by
  have lp : 0 < p.length := List.length_pos_iff.mpr np
  have hl := px_len p (List.replicate (p.length + q.length) 0) q 0
  rw [List.length_replicate] at hl
  have le := t.le
  rw [hl] at le
  refine Classical.byContradiction fun n => ?_
  have er := t.pre
  rw [show r.length = (px (List.replicate (p.length + q.length) 0) 0 p q).length by omega, List.take_length] at er
  rcases t.tr with e | ⟨s, a, e, ha⟩
  · rw [e, List.length_nil] at n; omega
  · refine ha ?_
    have := px_last p (List.replicate (p.length + q.length) 0) q 0 (p.length + q.length - 1) (by rw [List.length_replicate]; omega) (by omega)
    rw [← er, e, show p.length + q.length - 1 = s.length by rw [← er, e] at hl; simp at hl; omega, getD_snoc] at this
    rw [this]
    simp only [List.getD_eq_getElem?_getD, List.getElem?_replicate]
    split <;> rfl
theorem prod_ev {p q r : Qp} (t : TrimOf (px (List.replicate (p.length + q.length) 0) 0 p q) r) (x : Re) : ev (cQ r) x = ev (cQ p) x * ev (cQ q) x := by
  rw [t.ev, px_ev _ _ _ _ _ (by rw [List.length_replicate]; omega), zeros_ev, Lean.Grind.Semiring.pow_zero]
  grind

/-! ## how the bits grow -/
def wv : Nat → Nat
  | 0 => 1
  | 1 => 3
  | n + 2 => 2 * wv (n + 1) + wv n
theorem wv_le : ∀ n, wv n ≤ wv (n + 1)
  | 0 => by decide
  | n + 1 => by rw [wv]; omega
theorem wv_mono {m n : Nat} (h : m ≤ n) : wv m ≤ wv n := by
  induction h with
  | refl => exact Nat.le_refl _
  | step _ ih => exact Nat.le_trans ih (wv_le _)
theorem wv_step (i : Nat) : ∀ t, wv i + (t + 2) * wv (i + 1) ≤ wv (i + t + 2)
  | 0 => by rw [show i + 0 + 2 = i + 2 by omega, wv]; omega
  | t + 1 => by
    have ih := wv_step i t
    have h1 : wv (i + 1) ≤ wv (i + t + 2) := wv_mono (by omega)
    rw [show i + (t + 1) + 2 = (i + t + 1) + 2 by omega, wv, show i + t + 1 + 1 = i + t + 2 by omega, show (t + 1 + 2) * wv (i + 1) = (t + 2) * wv (i + 1) + wv (i + 1) by rw [← Nat.succ_mul]]
    omega
end Bd

namespace Bd
open Re
theorem TrimOf.lt {p r : Qp} (h : TrimOf p r) (n : p ≠ []) (z : p.getD (p.length - 1) 0 = 0) : r.length < p.length := by
  have lp : 0 < p.length := List.length_pos_iff.mpr n
  have le := h.le
  refine Classical.byContradiction fun k => ?_
  have l : r.length = p.length := by omega
  have e := h.pre
  rw [l, List.take_length] at e
  rcases h.tr with e2 | ⟨s, a, e2, ha⟩
  · rw [e2, List.length_nil] at l; omega
  · refine ha ?_
    rw [← e, e2, List.length_append, List.length_cons, List.length_nil, show s.length + (0 + 1) - 1 = s.length by omega, getD_snoc] at z
    exact z
theorem getD_last_ne {q : Qp} (t : Tr q) (n : q ≠ []) : q.getD (q.length - 1) 0 ≠ 0 := by
  obtain ⟨s, a, rfl, ha⟩ := t.snoc n
  rw [List.length_append, List.length_cons, List.length_nil, show s.length + (0 + 1) - 1 = s.length by omega, getD_snoc]
  exact ha
structure Dv (p q F R : Qp) (Bp C : Nat) : Prop where
  tf : Tr F
  tr : Tr R
  lt : R.length < q.length
  le : R.length ≤ p.length
  lf : F.length ≤ p.length
  ev : ∀ x, Bd.ev (cQ p) x = Bd.ev (cQ F) x * Bd.ev (cQ q) x + Bd.ev (cQ R) x
  cm : Cm R (Bp + (p.length + 1 - q.length) * (C + 1))
structure DvI (p q Fd R : Qp) (Bp C : Nat) : Prop where
  lf : Fd.length = p.length
  lr : R.length ≤ p.length
  tr : Tr R
  ev : ∀ x, Bd.ev (cQ p) x = Bd.ev (cQ Fd) x * Bd.ev (cQ q) x + Bd.ev (cQ R) x
  z : ∀ i, i + q.length ≤ R.length → Fd.getD i 0 = 0
  cm : ∃ s, s + R.length ≤ p.length ∧ s ≤ p.length + 1 - q.length ∧ Cm R (Bp + s * (C + 1))
theorem DvI.start {p q : Qp} {Bp C : Nat} (tp : Tr p) (hp : Cm p Bp) : DvI p q (List.replicate p.length 0) p Bp C := by
  refine ⟨List.length_replicate, Nat.le_refl _, tp, fun x => ?_, fun i _ => ?_, 0, by omega, by omega, by simpa using hp⟩
  · rw [zeros_ev]; grind
  · simp only [List.getD_eq_getElem?_getD, List.getElem?_replicate]
    split <;> rfl
theorem DvI.cm' {p q Fd R : Qp} {Bp C : Nat} (D : DvI p q Fd R Bp C) : Cm R (Bp + (p.length + 1 - q.length) * (C + 1)) := by
  obtain ⟨s, h1, h2, h3⟩ := D.cm
  exact h3.mono (Nat.add_le_add_left (Nat.mul_le_mul_right _ h2) _)
theorem DvI.step {p q Fd R R' : Qp} {Bp C : Nat} (D : DvI p q Fd R Bp C) (tq : Tr q) (nq : q ≠ []) (cq : Cm q C) (h : q.length ≤ R.length)
    (t : TrimOf (ax R (R.length - q.length) (R.getD (R.length - 1) 0 / q.getD (q.length - 1) 0) q) R') : DvI p q (Fd.set (R.length - q.length) (R.getD (R.length - 1) 0 / q.getD (q.length - 1) 0)) R' Bp C ∧ R'.length < R.length := by
  have lq : 0 < q.length := List.length_pos_iff.mpr nq
  have q0 := getD_last_ne tq nq
  have la := ax_len q R (R.length - q.length) (R.getD (R.length - 1) 0 / q.getD (q.length - 1) 0)
  have lt : R'.length < R.length := by
    have := t.lt (fun z => by rw [z, List.length_nil] at la; omega) (by
      rw [la, ax_get _ _ _ _ (by omega), if_pos (by omega), show R.length - 1 - (R.length - q.length) = q.length - 1 by omega, Rat.div_mul_cancel q0]
      grind)
    omega
  obtain ⟨s, h1, h2, h3⟩ := D.cm
  have lr := D.lr
  refine ⟨⟨by rw [List.length_set, D.lf], by omega, t.tr, fun x => ?_, fun i hi => ?_, s + 1, by omega, by omega, ?_⟩, lt⟩
  · rw [t.ev, ax_ev _ _ _ _ _ (by omega)]
    have e := evQ_set Fd (R.length - q.length) (R.getD (R.length - 1) 0 / q.getD (q.length - 1) 0) x (by rw [D.lf]; omega)
    rw [D.z _ (by omega), Rat.zero_add] at e
    rw [e, D.ev]
    grind
  · rw [getD_set _ _ _ _ (by rw [D.lf]; omega), if_neg (by omega)]
    exact D.z i (by omega)
  · have := h3.ax cq (getD_mem (l := R) (i := R.length - 1) (by omega)) (getD_mem (l := q) (i := q.length - 1) (by omega)) q0 (sh := R.length - q.length) (by omega)
    refine (this.sub fun r hr => t.mem hr).mono ?_
    rw [Nat.succ_mul]
    omega
theorem DvI.done {p q Fd R F : Qp} {Bp C : Nat} (D : DvI p q Fd R Bp C) (h : R.length < q.length) (t : TrimOf Fd F) : Dv p q F R Bp C :=
  ⟨t.tr, D.tr, h, D.lr, by have := t.le; have := D.lf; omega, fun x => by rw [t.ev]; exact D.ev x, D.cm'⟩
end Bd
namespace Bd
open Re
theorem scale_last {R r : Qp} (tr : Tr R) (n : R ≠ []) (t : TrimOf (R.map (· * (1 / R.getD (R.length - 1) 0))) r) :
    (∃ s, r = s ++ [1]) ∧ r.length = R.length ∧ (∀ x, ev (cQ r) x = ofRat (1 / R.getD (R.length - 1) 0) * ev (cQ R) x) ∧ ∀ B, Cm R B → Cm r B := by
  have l0 := getD_last_ne tr n
  have m0 : R.getD (R.length - 1) 0 ∈ R := getD_mem (by have := List.length_pos_iff.mpr n; omega)
  have e : ∃ s, R.map (· * (1 / R.getD (R.length - 1) 0)) = s ++ [1] := by
    generalize hc : R.getD (R.length - 1) 0 = c at l0
    obtain ⟨s, a, rfl, ha⟩ := tr.snoc n
    rw [List.length_append, List.length_cons, List.length_nil, show s.length + (0 + 1) - 1 = s.length by omega, getD_snoc] at hc
    subst hc
    refine ⟨s.map (· * (1 / a)), ?_⟩
    rw [List.map_append, List.map_cons, List.map_nil, show a * (1 / a) = 1 by grind]
  have tr' : Tr (R.map (· * (1 / R.getD (R.length - 1) 0))) := by
    obtain ⟨s, es⟩ := e
    exact .inr ⟨s, 1, es, by decide⟩
  have er := t.self tr'
  refine ⟨by rw [er]; exact e, by rw [er, List.length_map], fun x => by rw [er, evQ_scale], fun B hB => by rw [er]; exact hB.scale m0 l0⟩
/-- Euclid's turns, with their bits -/
structure CI (p0 q0 : Qp) (Bp Bq C : Nat) (p q : Qp) : Prop where
  euc : Euc p0 q0 p q
  st : (p = p0 ∧ q = q0) ∨ (q.length < p.length ∧ ∃ i b1 b2, p.length + i = q0.length ∧ Cm p b1 ∧ b1 + 1 ≤ C * wv i ∧ Cm q b2 ∧ b2 + 1 ≤ C * wv (i + 1))
structure CP (p0 q0 : Qp) (Bp Bq C : Nat) : Prop where
  tp : Tr p0
  tq : Tr q0
  np : p0 ≠ []
  cp : Cm p0 Bp
  cq : Cm q0 Bq
  b1 : Bp + 1 ≤ C
  b2 : Bq + 1 ≤ C
  b3 : Bp + (p0.length + 1 - q0.length) * (Bq + 1) + 1 ≤ 3 * C
theorem CI.start {p0 q0 : Qp} {Bp Bq C : Nat} (h : CP p0 q0 Bp Bq C) : CI p0 q0 Bp Bq C p0 q0 := ⟨Euc.start h.tp h.tq h.np, .inl ⟨rfl, rfl⟩⟩
theorem CI.bits {p0 q0 p q : Qp} {Bp Bq C : Nat} (h : CP p0 q0 Bp Bq C) (c : CI p0 q0 Bp Bq C p q) (nq : q ≠ []) :
    ∃ b1 b2, Cm p b1 ∧ Cm q b2 ∧ b1 + (p.length + 1 - q.length) * (b2 + 1) + 1 ≤ C * wv (q0.length) ∧ b2 + 1 ≤ C * wv q0.length ∧
      ∀ F R R', Dv p q F R b1 b2 → Tr R' → R'.length = R.length → (∀ B, Cm R B → Cm R' B) → (∃ c0 : Rat, c0 ≠ 0 ∧ ∀ x, ev (cQ R') x = ofRat c0 * ev (cQ R) x) → CI p0 q0 Bp Bq C q R' := by
  have lq : 0 < q.length := List.length_pos_iff.mpr nq
  rcases c.st with ⟨rfl, rfl⟩ | ⟨lt, i, b1, b2, hi, c1, h1, c2, h2⟩
  · have w1 : 3 ≤ wv q.length := wv_mono (m := 1) lq
    have w3 : C * 3 ≤ C * wv q.length := Nat.mul_le_mul_left _ w1
    refine ⟨Bp, Bq, h.cp, h.cq, by have := h.b3; omega, by have := h.b2; omega, fun F R R' D tr lr cr ⟨c0, n0, e0⟩ => ?_⟩
    refine ⟨c.euc.turn nq D.ev n0 e0 tr, .inr ⟨by have := D.lt; omega, 0, Bq, _, by omega, h.cq, by have := h.b2; rw [wv]; omega, cr _ D.cm, ?_⟩⟩
    show _ ≤ C * 3
    have := h.b3
    omega
  · have st := wv_step i (p.length - q.length - 1)
    rw [show p.length - q.length - 1 + 2 = p.length + 1 - q.length by omega] at st
    have sum : b1 + (p.length + 1 - q.length) * (b2 + 1) + 1 ≤ C * wv (i + (p.length - q.length - 1) + 2) := by
      have a1 : (p.length + 1 - q.length) * (b2 + 1) ≤ (p.length + 1 - q.length) * (C * wv (i + 1)) := Nat.mul_le_mul_left _ h2
      have a2 := Nat.mul_le_mul_left C st
      rw [Nat.mul_add, Nat.mul_left_comm] at a2
      omega
    have idx : i + (p.length - q.length - 1) + 2 ≤ q0.length := by omega
    have w1 : C * wv (i + (p.length - q.length - 1) + 2) ≤ C * wv q0.length := Nat.mul_le_mul_left _ (wv_mono idx)
    have w2 : C * wv (i + 1) ≤ C * wv q0.length := Nat.mul_le_mul_left _ (wv_mono (by omega))
    refine ⟨b1, b2, c1, c2, by omega, by omega, fun F R R' D tr lr cr ⟨c0, n0, e0⟩ => ?_⟩
    refine ⟨c.euc.turn nq D.ev n0 e0 tr, .inr ⟨by have := D.lt; omega, i + (p.length - q.length - 1) + 1, b2, _, by omega, c2, ?_, cr _ D.cm, by omega⟩⟩
    have w4 : C * wv (i + 1) ≤ C * wv (i + (p.length - q.length - 1) + 1) := Nat.mul_le_mul_left _ (wv_mono (by omega))
    omega
structure CD (p0 q0 : Qp) (C : Nat) (g : Qp) : Prop where
  gcd : Gcd p0 q0 g
  cm : ∃ B, Cm g B ∧ B + 1 ≤ C * wv (q0.length - 1)
  len : g.length ≤ p0.length ∨ g.length ≤ q0.length
theorem CI.pbits {p0 q0 p q : Qp} {Bp Bq C : Nat} (h : CP p0 q0 Bp Bq C) (c : CI p0 q0 Bp Bq C p q) : ∃ B, Cm p B ∧ B + 1 ≤ C * wv q0.length := by
  rcases c.st with ⟨rfl, rfl⟩ | ⟨lt, i, b1, b2, hi, c1, h1, c2, h2⟩
  · have w1 : 1 ≤ wv q.length := wv_mono (m := 0) (Nat.zero_le _)
    have := Nat.mul_le_mul_left C w1
    exact ⟨Bp, h.cp, by have := h.b1; omega⟩
  · exact ⟨b1, c1, Nat.le_trans h1 (Nat.mul_le_mul_left _ (wv_mono (by omega)))⟩
theorem CI.done {p0 q0 p g : Qp} {Bp Bq C : Nat} (h : CP p0 q0 Bp Bq C) (c : CI p0 q0 Bp Bq C p []) (t : TrimOf (p.map (· * (1 / p.getD (p.length - 1) 0))) g) : CD p0 q0 C g := by
  obtain ⟨hm, lg, eg, cg⟩ := scale_last c.euc.trp c.euc.ne t
  have l0 := getD_last_ne c.euc.trp c.euc.ne
  obtain ⟨B, hB, hb⟩ : ∃ B, Cm p B ∧ B + 1 ≤ C * wv (q0.length - 1) := by
    rcases c.st with ⟨rfl, rfl⟩ | ⟨lt, i, b1, b2, hi, c1, h1, c2, h2⟩
    · exact ⟨Bp, h.cp, by have := h.b1; simp only [List.length_nil, Nat.zero_sub, wv]; omega⟩
    · have := List.length_pos_iff.mpr c.euc.ne
      exact ⟨b1, c1, Nat.le_trans h1 (Nat.mul_le_mul_left _ (wv_mono (by omega)))⟩
  refine ⟨c.euc.done (c := 1 / p.getD (p.length - 1) 0) (by grind) eg hm, ⟨B, cg B hB, hb⟩, ?_⟩
  rw [lg]
  rcases c.st with ⟨rfl, _⟩ | ⟨_, i, _, _, hi, _⟩
  · exact .inl (Nat.le_refl _)
  · exact .inr (by omega)
end Bd

namespace Bd
open Re
/-! ## lists of ints, made smaller -/
def gz (l : Z) : Nat := l.foldl (fun b n => Int.gcd b n) 0
theorem gz_snoc (l : Z) (a : Int) : gz (l ++ [a]) = Int.gcd (gz l) a := by simp [gz]
theorem gz_core : ∀ (l : Z) (b : Nat), (l.foldl (fun b n => Int.gcd b n) b ∣ b) ∧ ∀ n ∈ l, ((l.foldl (fun b n => Int.gcd b n) b : Nat) : Int) ∣ n
  | [], b => ⟨Nat.dvd_refl _, fun _ h => by cases h⟩
  | a :: l, b => by
    obtain ⟨h1, h2⟩ := gz_core l (Int.gcd b a)
    rw [List.foldl_cons]
    have d1 : Int.gcd b a ∣ b := by
      have := Int.gcd_dvd_left (b : Int) a
      exact Int.natCast_dvd_natCast.mp this
    refine ⟨Nat.dvd_trans h1 d1, fun n hn => ?_⟩
    rcases List.mem_cons.mp hn with e | e
    · rw [e]
      exact Int.dvd_trans (Int.natCast_dvd_natCast.mpr h1) (Int.gcd_dvd_right _ _)
    · exact h2 n e
theorem gz_dvd {l : Z} {n : Int} (h : n ∈ l) : ((gz l : Nat) : Int) ∣ n := (gz_core l 0).2 n h
theorem gz_ne {l : Z} {n : Int} (h : n ∈ l) (k : n ≠ 0) : gz l ≠ 0 := fun z => by
  have := gz_dvd h
  rw [z] at this
  exact k (Int.zero_dvd.mp this)
def low (l : Z) : Z := l.map fun n => n.fdiv (gz l : Nat)
theorem low_len (l : Z) : (low l).length = l.length := List.length_map _
theorem low_mul {l : Z} {n : Int} (h : n ∈ l) : ((gz l : Nat) : Int) * n.fdiv (gz l : Nat) = n := by
  obtain ⟨k, e⟩ := gz_dvd h
  by_cases z : gz l = 0
  · rw [z] at e ⊢
    rw [e]
    simp
  · generalize gz l = g at *
    subst e
    rw [Int.mul_fdiv_cancel_left _ (by omega)]
theorem low_ev (l : Z) (x : Re) : ev (cZ l) x = toR (gz l : Nat) * ev (cZ (low l)) x := by
  have key : ∀ (m : Z), (∀ n ∈ m, ((gz l : Nat) : Int) * n.fdiv (gz l : Nat) = n) → ev (cZ m) x = toR (gz l : Nat) * ev (cZ (m.map fun n => n.fdiv (gz l : Nat))) x := fun m => by
    induction m with
    | nil => intro _; simp only [cZ, List.map_nil, ev]; grind
    | cons a m ih =>
      intro h
      have i := ih fun n hn => h n (List.mem_cons_of_mem _ hn)
      have ha := h a List.mem_cons_self
      show toR a + x * ev (cZ m) x = toR (gz l : Nat) * (toR (a.fdiv (gz l : Nat)) + x * ev (cZ (m.map _)) x)
      rw [i]
      have : toR a = toR (gz l : Nat) * toR (a.fdiv (gz l : Nat)) := by rw [← toR_mul, ha]
      rw [this]
      grind
  exact key l fun n hn => low_mul hn
theorem low_abs {l : Z} {n : Int} (h : n ∈ low l) (g0 : gz l ≠ 0) : ∃ m ∈ l, n.natAbs ≤ m.natAbs ∧ (n = 0 ↔ m = 0) := by
  obtain ⟨m, hm, rfl⟩ := List.mem_map.mp h
  have e := low_mul hm
  generalize m.fdiv (gz l : Nat) = k at *
  refine ⟨m, hm, ?_, ?_⟩
  · rw [← e, Int.natAbs_mul, Int.natAbs_natCast]
    exact Nat.le_mul_of_pos_left _ (by omega)
  · rw [← e]
    constructor
    · intro z; rw [z]; simp
    · intro z
      rcases Int.mul_eq_zero.mp z with y | y
      · omega
      · exact y
theorem getD_low (l : Z) (i : Nat) : (low l).getD i 0 = (l.getD i 0).fdiv (gz l : Nat) := by
  unfold low
  simp only [List.getD_eq_getElem?_getD, List.getElem?_map]
  cases l[i]? with
  | none => simp
  | some a => rfl
theorem mul_den (r : Rat) : r * (r.den : Rat) = (r.num : Rat) := by
  have e := Rat.num_divInt_den r
  rw [Rat.divInt_eq_div] at e
  have d : ((r.den : Nat) : Rat) ≠ 0 := fun z => r.den_nz (Rat.natCast_eq_zero_iff.mp z)
  rw [Rat.intCast_natCast] at e
  generalize (r.den : Rat) = D at *
  generalize (r.num : Rat) = N at *
  rw [← e]
  exact Rat.div_mul_cancel d
theorem rat_div_pos {a b : Rat} (h : 0 < a) (k : 0 < b) : 0 < a / b := by
  rw [Rat.div_def]
  exact Rat.mul_pos h (Rat.inv_pos.mpr k)
/-! ## fractions made whole -/
def lz (p : Qp) : Nat := p.foldl (fun b r => Nat.lcm b r.den) 1
theorem lz_snoc (p : Qp) (r : Rat) : lz (p ++ [r]) = Nat.lcm (lz p) r.den := by simp [lz]
theorem lz_core : ∀ (p : Qp) (b : Nat), (b ∣ p.foldl (fun b r => Nat.lcm b r.den) b) ∧ (∀ r ∈ p, r.den ∣ p.foldl (fun b r => Nat.lcm b r.den) b) ∧ ∀ D : Nat, b ∣ D → (∀ r ∈ p, r.den ∣ D) → p.foldl (fun b r => Nat.lcm b r.den) b ∣ D
  | [], b => ⟨Nat.dvd_refl _, (fun _ h => by cases h), fun D h _ => h⟩
  | a :: p, b => by
    obtain ⟨h1, h2, h3⟩ := lz_core p (Nat.lcm b a.den)
    rw [List.foldl_cons]
    refine ⟨Nat.dvd_trans (Nat.dvd_lcm_left _ _) h1, fun r hr => ?_, fun D hb hD => h3 D (Nat.lcm_dvd hb (hD a List.mem_cons_self)) fun r hr => hD r (List.mem_cons_of_mem _ hr)⟩
    rcases List.mem_cons.mp hr with e | e
    · rw [e]; exact Nat.dvd_trans (Nat.dvd_lcm_right _ _) h1
    · exact h2 r e
theorem lz_dvd {p : Qp} {r : Rat} (h : r ∈ p) : r.den ∣ lz p := (lz_core p 1).2.1 r h
theorem den_dvd {r : Rat} {D : Nat} {n : Int} (h : r * (D : Rat) = (n : Rat)) : r.den ∣ D := by
  have e : r.num * (D : Int) = n * r.den := by
    have h1 : (r.num : Rat) * (D : Rat) = (n : Rat) * (r.den : Rat) := by
      have hd : r * (r.den : Rat) = (r.num : Rat) := mul_den r
      rw [← hd, ← h]
      grind
    have : ((r.num * (D : Int) : Int) : Rat) = ((n * (r.den : Int) : Int) : Rat) := by
      rw [Rat.intCast_mul, Rat.intCast_mul, Rat.intCast_natCast, Rat.intCast_natCast]
      exact h1
    exact Rat.intCast_inj.mp this
  have d : ((r.den : Nat) : Int) ∣ r.num * (D : Int) := ⟨n, by rw [e, Int.mul_comm]⟩
  have g : Nat.Coprime r.den r.num.natAbs := r.reduced.symm
  have d2 : r.den ∣ r.num.natAbs * D := by
    have := Int.natAbs_dvd_natAbs.mpr d
    rw [Int.natAbs_natCast, Int.natAbs_mul, Int.natAbs_natCast] at this
    exact this
  exact g.dvd_of_dvd_mul_left d2
theorem lz_ne (p : Qp) : lz p ≠ 0 := fun z => by
  have h := (lz_core p 1).2.2
  have key : ∀ (p : Qp) (b : Nat), b ≠ 0 → p.foldl (fun b r => Nat.lcm b r.den) b ≠ 0 := fun p => by
    induction p with
    | nil => exact fun _ h => h
    | cons a p ih =>
      intro b hb
      rw [List.foldl_cons]
      exact ih _ (Nat.lcm_ne_zero hb a.den_nz)
  exact key p 1 (by decide) z
theorem lz_le {p : Qp} {D : Nat} (h0 : 0 < D) (h : ∀ r ∈ p, ∃ n : Int, r * (D : Rat) = (n : Rat)) : lz p ≤ D :=
  Nat.le_of_dvd h0 ((lz_core p 1).2.2 D (Nat.one_dvd _) fun r hr => let ⟨n, e⟩ := h r hr; den_dvd e)
def whole (p : Qp) : Z := p.map fun r => r.num * ((lz p : Nat) : Int).fdiv (r.den : Nat)
theorem whole_eq {p : Qp} {r : Rat} (h : r ∈ p) : ((r.num * ((lz p : Nat) : Int).fdiv (r.den : Nat) : Int) : Rat) = r * (lz p : Rat) := by
  obtain ⟨k, e⟩ := lz_dvd h
  rw [e, Int.natCast_mul, Int.mul_fdiv_cancel_left _ (by have := r.den_nz; omega), Rat.intCast_mul, Rat.natCast_mul, Rat.intCast_natCast]
  have hd : r * (r.den : Rat) = (r.num : Rat) := mul_den r
  rw [← hd]
  grind
theorem whole_ev (p : Qp) (x : Re) : ev (cZ (whole p)) x = ofRat (lz p : Rat) * ev (cQ p) x := by
  have key : ∀ (m : Qp), (∀ r ∈ m, ((r.num * ((lz p : Nat) : Int).fdiv (r.den : Nat) : Int) : Rat) = r * (lz p : Rat)) → ev (cZ (m.map fun r => r.num * ((lz p : Nat) : Int).fdiv (r.den : Nat))) x = ofRat (lz p : Rat) * ev (cQ m) x := fun m => by
    induction m with
    | nil => intro _; simp only [cZ, cQ, List.map_nil, ev]; grind
    | cons a m ih =>
      intro h
      have i := ih fun n hn => h n (List.mem_cons_of_mem _ hn)
      have ha := h a List.mem_cons_self
      show toR (a.num * ((lz p : Nat) : Int).fdiv (a.den : Nat)) + x * ev (cZ (m.map _)) x = _
      rw [i, evQ_cons, show toR (a.num * ((lz p : Nat) : Int).fdiv (a.den : Nat)) = ofRat ((a.num * ((lz p : Nat) : Int).fdiv (a.den : Nat) : Int) : Rat) from rfl, ha, ofRat_mul]
      grind
  exact key p fun r hr => whole_eq hr
theorem abs_le_of {r : Rat} {a D : Nat} {n m : Int} (ha : a ≤ D) (h1 : r * (a : Rat) = (n : Rat)) (h2 : r * (D : Rat) = (m : Rat)) : n.natAbs ≤ m.natAbs := by
  have e : n * (D : Int) = m * (a : Int) := by
    have : ((n * (D : Int) : Int) : Rat) = ((m * (a : Int) : Int) : Rat) := by
      rw [Rat.intCast_mul, Rat.intCast_mul, Rat.intCast_natCast, Rat.intCast_natCast, ← h1, ← h2]
      grind
    exact Rat.intCast_inj.mp this
  have e2 := congrArg Int.natAbs e
  rw [Int.natAbs_mul, Int.natAbs_mul, Int.natAbs_natCast, Int.natAbs_natCast] at e2
  by_cases hD : D = 0
  · have a0 : a = 0 := by omega
    subst a0
    have : (n : Rat) = 0 := by rw [← h1]; simp
    have := Rat.intCast_eq_zero_iff.mp this
    subst this
    simp
  · have : n.natAbs * D ≤ m.natAbs * D := by rw [e2]; exact Nat.mul_le_mul_left _ ha
    exact Nat.le_of_mul_le_mul_right this (by omega)
/-- the rows' numbers -/
structure WN (p : Qp) (B : Nat) (A : Z) : Prop where
  len : A.length = p.length
  ev : ∃ c : Rat, 0 < c ∧ ∀ x, Bd.ev (cZ A) x = ofRat c * Bd.ev (cQ p) x
  bits : ∀ n ∈ A, n.natAbs < 2 ^ B
  last : A.getD (A.length - 1) 0 ≠ 0
theorem whole_len (p : Qp) : (whole p).length = p.length := List.length_map _
theorem getD_whole (p : Qp) (i : Nat) (h : i < p.length) : (whole p).getD i 0 = (p.getD i 0).num * ((lz p : Nat) : Int).fdiv ((p.getD i 0).den : Nat) := by
  unfold whole
  simp only [List.getD_eq_getElem?_getD, List.getElem?_map, List.getElem?_eq_getElem h, Option.map_some, Option.getD_some]
theorem getZ_mem {l : Z} {i : Nat} (h : i < l.length) : l.getD i 0 ∈ l := by
  rw [List.getD_eq_getElem?_getD, List.getElem?_eq_getElem h]
  exact List.getElem_mem _
theorem wn_of {p : Qp} {B : Nat} (t : Tr p) (n : p ≠ []) (h : Cm p B) : gz (whole p) ≠ 0 ∧ (∀ n ∈ whole p, n.natAbs < 2 ^ B) ∧ WN p B (low (whole p)) := by
  have lp : 0 < p.length := List.length_pos_iff.mpr n
  have l0 := getD_last_ne t n
  obtain ⟨D, d0, d1, d2⟩ := h
  have le := lz_le d0 fun r hr => let ⟨n, e, _⟩ := d2 r hr; ⟨n, e⟩
  have lzp : 0 < lz p := Nat.pos_of_ne_zero (lz_ne p)
  have wl : (whole p).getD ((whole p).length - 1) 0 ≠ 0 := by
    rw [whole_len, getD_whole _ _ (by omega)]
    have e := whole_eq (p := p) (r := p.getD (p.length - 1) 0) (getD_mem (by omega))
    intro z
    rw [z] at e
    rcases Rat.mul_eq_zero.mp e.symm with y | y
    · exact l0 y
    · have := Rat.natCast_eq_zero_iff.mp y
      omega
  have g0 : gz (whole p) ≠ 0 := gz_ne (getZ_mem (by rw [whole_len]; omega)) wl
  have bw : ∀ n ∈ whole p, n.natAbs < 2 ^ B := fun n hn => by
    obtain ⟨r, hr, rfl⟩ := List.mem_map.mp hn
    obtain ⟨m, em, bm⟩ := d2 r hr
    exact Nat.lt_of_le_of_lt (abs_le_of le (whole_eq hr).symm em) bm
  refine ⟨g0, bw, ⟨by rw [low_len, whole_len], ⟨(lz p : Rat) / (gz (whole p) : Rat), ?_, fun x => ?_⟩, fun n hn => ?_, ?_⟩⟩
  · have g1 : (0 : Rat) < (gz (whole p) : Rat) := Rat.natCast_pos.mpr (by omega)
    have l1 : (0 : Rat) < (lz p : Rat) := Rat.natCast_pos.mpr lzp
    exact rat_div_pos l1 g1
  · have e := low_ev (whole p) x
    rw [whole_ev] at e
    have g1 : (gz (whole p) : Rat) ≠ 0 := fun z => g0 (Rat.natCast_eq_zero_iff.mp z)
    have e2 : (lz p : Rat) = (lz p : Rat) / (gz (whole p) : Rat) * (gz (whole p) : Rat) := (Rat.div_mul_cancel g1).symm
    have tg : toR ((gz (whole p) : Nat) : Int) = ofRat (gz (whole p) : Rat) := by
      show ofRat (((gz (whole p) : Nat) : Int) : Rat) = _
      rw [Rat.intCast_natCast]
    rw [tg] at e
    have g2 : ofRat (gz (whole p) : Rat) ≠ 0 := fun z => g1 (ofRat_inj z)
    rw [e2, ofRat_mul] at e
    obtain ⟨i, hi⟩ := inv_ex g2
    have e3 : ofRat (gz (whole p) : Rat) * (ev (cZ (low (whole p))) x - ofRat ((lz p : Rat) / (gz (whole p) : Rat)) * ev (cQ p) x) = 0 := by grind
    have := (mul_eq_zero e3).resolve_left g2
    grind
  · obtain ⟨m, hm, h1, _⟩ := low_abs hn g0
    exact Nat.lt_of_le_of_lt h1 (bw m hm)
  · rw [low_len, getD_low]
    have m0 := getZ_mem (l := whole p) (i := (whole p).length - 1) (by rw [whole_len]; omega)
    have e := low_mul m0
    intro z
    rw [z, Int.mul_zero] at e
    exact wl e.symm
end Bd

namespace Bd
open Re
/-! ## a turn of Sturm's rows -/
def axz : Z → Nat → Int → Z → Z
  | R, _, _, [] => R
  | R, sh, f, a :: q => axz (R.set sh (R.getD sh 0 - f * a)) (sh + 1) f q
theorem axz_len : ∀ (q R : Z) (sh : Nat) (f : Int), (axz R sh f q).length = R.length
  | [], R, sh, f => rfl
  | a :: q, R, sh, f => by rw [axz, axz_len q, List.length_set]
theorem getZ_set (R : Z) (k : Nat) (c : Int) (j : Nat) (hk : k < R.length) : (R.set k c).getD j 0 = if k = j then c else R.getD j 0 := by
  simp only [List.getD_eq_getElem?_getD, List.getElem?_set]
  by_cases e : k = j
  · subst e; rw [if_pos rfl, if_pos rfl, if_pos hk]; rfl
  · rw [if_neg e, if_neg e]
theorem axz_get : ∀ (q R : Z) (sh : Nat) (f : Int), sh + q.length ≤ R.length → ∀ j, (axz R sh f q).getD j 0 = if sh ≤ j ∧ j < sh + q.length then R.getD j 0 - f * q.getD (j - sh) 0 else R.getD j 0
  | [], R, sh, f, h, j => by
    rw [axz, if_neg (by simp)]
  | a :: q, R, sh, f, h, j => by
    simp only [List.length_cons] at h
    rw [axz, axz_get q _ _ _ (by rw [List.length_set]; omega), getZ_set _ _ _ _ (by omega)]
    by_cases e : sh = j
    · subst e
      rw [if_neg (by omega), if_pos rfl, if_pos (by simp), Nat.sub_self, List.getD_cons_zero]
    · rw [if_neg e]
      by_cases k : sh + 1 ≤ j ∧ j < sh + 1 + q.length
      · rw [if_pos k, if_pos (by simp only [List.length_cons]; omega)]
        obtain ⟨m, rfl⟩ : ∃ m, j = sh + (m + 1) := ⟨j - sh - 1, by omega⟩
        rw [show sh + (m + 1) - sh = m + 1 by omega, show sh + (m + 1) - (sh + 1) = m by omega, List.getD_cons_succ]
      · rw [if_neg k, if_neg (by simp only [List.length_cons]; omega)]
theorem axz_snoc : ∀ (q R : Z) (sh : Nat) (f a : Int), axz R sh f (q ++ [a]) = (axz R sh f q).set (sh + q.length) ((axz R sh f q).getD (sh + q.length) 0 - f * a)
  | [], R, sh, f, a => rfl
  | b :: q, R, sh, f, a => by
    rw [List.cons_append, axz, axz_snoc q, axz, List.length_cons, show sh + 1 + q.length = sh + (q.length + 1) by omega]
theorem evZ_cons (a : Int) (p : Z) (x : Re) : ev (cZ (a :: p)) x = toR a + x * ev (cZ p) x := rfl
theorem evZ_set : ∀ (R : Z) (k : Nat) (c : Int) (x : Re), k < R.length → ev (cZ (R.set k (R.getD k 0 - c))) x = ev (cZ R) x - toR c * x ^ k
  | [], k, c, x, h => by simp at h
  | a :: R, 0, c, x, h => by
    rw [List.set_cons_zero, List.getD_cons_zero, evZ_cons, evZ_cons, toR_sub, Lean.Grind.Semiring.pow_zero]
    grind
  | a :: R, k + 1, c, x, h => by
    rw [List.set_cons_succ, List.getD_cons_succ, evZ_cons, evZ_cons, evZ_set R k c x (by simpa using h), Lean.Grind.Semiring.pow_succ]
    grind
theorem axz_ev : ∀ (q R : Z) (sh : Nat) (f : Int) (x : Re), sh + q.length ≤ R.length → ev (cZ (axz R sh f q)) x = ev (cZ R) x - toR f * x ^ sh * ev (cZ q) x
  | [], R, sh, f, x, h => by
    simp only [axz, cZ, List.map_nil, ev]
    grind
  | a :: q, R, sh, f, x, h => by
    simp only [List.length_cons] at h
    rw [axz, axz_ev q _ _ _ x (by rw [List.length_set]; omega), evZ_set _ _ _ _ (by omega), evZ_cons, toR_mul, Lean.Grind.Semiring.pow_succ]
    grind
structure TrimZ (p r : Z) : Prop where
  nz : r = [] ∨ r.getD (r.length - 1) 0 ≠ 0
  le : r.length ≤ p.length
  pre : r = p.take r.length
  zero : ∀ i, r.length ≤ i → p.getD i 0 = 0
theorem TrimZ.ev {p r : Z} (h : TrimZ p r) (x : Re) : Bd.ev (cZ r) x = Bd.ev (cZ p) x := by
  rw [ev_short p r.length h.zero x, ← h.pre]
theorem TrimZ.mem {p r : Z} (h : TrimZ p r) {a : Int} (ha : a ∈ r) : a ∈ p := by
  rw [h.pre] at ha
  exact List.mem_of_mem_take ha
theorem TrimZ.lt {p r : Z} (h : TrimZ p r) (n : p ≠ []) (z : p.getD (p.length - 1) 0 = 0) : r.length < p.length := by
  have lp : 0 < p.length := List.length_pos_iff.mpr n
  have le := h.le
  refine Classical.byContradiction fun k => ?_
  have l : r.length = p.length := by omega
  have e := h.pre
  rw [l, List.take_length] at e
  rcases h.nz with e2 | e2
  · rw [e2, List.length_nil] at l; omega
  · rw [e] at e2
    exact e2 z
theorem trimz_take {p : Z} {c : Nat} (hc : c ≤ p.length) (hz : ∀ i, c ≤ i → p.getD i 0 = 0) (h : c = 0 ∨ p.getD (c - 1) 0 ≠ 0) : TrimZ p (p.take c) := by
  have l : (p.take c).length = c := by rw [List.length_take]; omega
  refine ⟨?_, by omega, by rw [l], by rw [l]; exact hz⟩
  rcases h with rfl | h
  · exact .inl rfl
  · cases c with
    | zero => exact .inl rfl
    | succ c =>
      refine .inr ?_
      rw [l]
      simp only [Nat.add_sub_cancel] at h ⊢
      rw [List.getD_eq_getElem?_getD, List.getElem?_take, if_pos (by omega), ← List.getD_eq_getElem?_getD]
      exact h
theorem memZ_getD {l : Z} {a : Int} (h : a ∈ l) : ∃ i, i < l.length ∧ a = l.getD i 0 := by
  obtain ⟨i, hi, rfl⟩ := List.getElem_of_mem h
  exact ⟨i, hi, by rw [List.getD_eq_getElem?_getD, List.getElem?_eq_getElem hi]; rfl⟩
structure TI (p q R : Z) (B C : Nat) : Prop where
  nz : R = [] ∨ R.getD (R.length - 1) 0 ≠ 0
  le : R.length ≤ p.length
  ev : ∃ (l : Int) (s : P), 0 < l ∧ ∀ x, toR l * Bd.ev (cZ p) x = Bd.ev s x * Bd.ev (cZ q) x + Bd.ev (cZ R) x
  bits : ∃ k, k + R.length ≤ p.length ∧ k ≤ p.length + 1 - q.length ∧ ∀ n ∈ R, n.natAbs < 2 ^ (B + k * (C + 1))
def abz (n : Int) : Int := if n < 0 then -n else n
def fz (q r : Int) : Int := if q < 0 then 0 - r else r
theorem fz_mul (q r : Int) : fz q r * q = r * abz q := by
  unfold fz abz
  split <;> grind
theorem abz_natAbs (n : Int) : (abz n).natAbs = n.natAbs := by unfold abz; split <;> omega
theorem fz_natAbs (q r : Int) : (fz q r).natAbs = r.natAbs := by unfold fz; split <;> omega
theorem abz_pos {n : Int} (h : n ≠ 0) : 0 < abz n := by unfold abz; split <;> omega
theorem ev_zmulr (c : Int) (p : Z) (x : Re) : ev (cZ (p.map (· * c))) x = toR c * ev (cZ p) x := by
  rw [← ev_zsmul]
  congr 2
  exact List.map_congr_left fun n _ => Int.mul_comm _ _
theorem TI.start {p q : Z} {B C : Nat} (n : p = [] ∨ p.getD (p.length - 1) 0 ≠ 0) (hB : ∀ n ∈ p, n.natAbs < 2 ^ B) : TI p q p B C :=
  ⟨n, Nat.le_refl _, ⟨1, [], by decide, fun x => by rw [ev_nil, toR_one]; grind⟩, 0, by omega, by omega, by simpa using hB⟩
theorem TI.bits' {p q R : Z} {B C : Nat} (h : TI p q R B C) : ∀ n ∈ R, n.natAbs < 2 ^ (B + (p.length + 1 - q.length) * (C + 1)) := by
  obtain ⟨k, _, k2, k3⟩ := h.bits
  exact fun n hn => Nat.lt_of_lt_of_le (k3 n hn) (Nat.pow_le_pow_right (by decide) (Nat.add_le_add_left (Nat.mul_le_mul_right _ k2) _))
theorem TI.step {p q R R' : Z} {B C : Nat} (D : TI p q R B C) (nq : q.getD (q.length - 1) 0 ≠ 0) (lq : 0 < q.length) (cq : ∀ n ∈ q, n.natAbs < 2 ^ C) (h : q.length ≤ R.length)
    (t : TrimZ (axz (R.map (· * abz (q.getD (q.length - 1) 0))) (R.length - q.length) (fz (q.getD (q.length - 1) 0) (R.getD (R.length - 1) 0)) q) R') : TI p q R' B C ∧ R'.length < R.length := by
  have la := axz_len q (R.map (· * abz (q.getD (q.length - 1) 0))) (R.length - q.length) (fz (q.getD (q.length - 1) 0) (R.getD (R.length - 1) 0))
  rw [List.length_map] at la
  have mg : ∀ j, (R.map (· * abz (q.getD (q.length - 1) 0))).getD j 0 = R.getD j 0 * abz (q.getD (q.length - 1) 0) := fun j => by
    simp only [List.getD_eq_getElem?_getD, List.getElem?_map]
    cases R[j]? with
    | none => simp
    | some a => rfl
  have lt : R'.length < R.length := by
    have := t.lt (fun z => by rw [z, List.length_nil] at la; omega) (by
      rw [la, axz_get _ _ _ _ (by rw [List.length_map]; omega), if_pos (by omega), mg, show R.length - 1 - (R.length - q.length) = q.length - 1 by omega, fz_mul]
      omega)
    omega
  obtain ⟨k, k1, k2, k3⟩ := D.bits
  have le := D.le
  refine ⟨⟨t.nz, by omega, ?_, k + 1, by omega, by omega, fun n hn => ?_⟩, lt⟩
  · obtain ⟨l, s, l0, e⟩ := D.ev
    have ap := abz_pos nq
    obtain ⟨m, hm⟩ : ∃ m : P, ∀ x, Bd.ev m x = x ^ (R.length - q.length) := by
      refine ⟨List.replicate (R.length - q.length) 0 ++ [1], fun x => ?_⟩
      generalize R.length - q.length = d
      induction d with
      | zero => simp only [List.replicate_zero, List.nil_append, Bd.ev, Lean.Grind.Semiring.pow_zero]; grind
      | succ d ih =>
        rw [List.replicate_succ, List.cons_append]
        show 0 + x * Bd.ev _ x = _
        rw [ih, Lean.Grind.Semiring.pow_succ]
        grind
    refine ⟨abz (q.getD (q.length - 1) 0) * l, padd (s.map (toR (abz (q.getD (q.length - 1) 0)) * ·)) (m.map (toR (fz (q.getD (q.length - 1) 0) (R.getD (R.length - 1) 0)) * ·)), Int.mul_pos ap l0, fun x => ?_⟩
    rw [t.ev, axz_ev _ _ _ _ _ (by rw [List.length_map]; omega), ev_zmulr, ev_padd, ev_smul, ev_smul, hm, toR_mul]
    have := e x
    grind
  · obtain ⟨j, hj, e⟩ := memZ_getD (t.mem hn)
    rw [la] at hj
    rw [axz_get _ _ _ _ (by rw [List.length_map]; omega), mg] at e
    have b1 := k3 _ (getZ_mem hj)
    have b2 := cq _ (getZ_mem (l := q) (i := q.length - 1) (by omega))
    have b3 := k3 _ (getZ_mem (l := R) (i := R.length - 1) (by omega))
    have p1 := Nat.mul_lt_mul'' b1 b2
    rw [show B + (k + 1) * (C + 1) = B + k * (C + 1) + C + 1 by rw [Nat.succ_mul]; omega, Nat.pow_succ, Nat.pow_add _ _ C]
    rw [e]
    split
    · have b4 := cq _ (getZ_mem (l := q) (i := j - (R.length - q.length)) (by omega))
      have p2 := Nat.mul_lt_mul'' b3 b4
      have t1 := Int.natAbs_sub_le (R.getD j 0 * abz (q.getD (q.length - 1) 0)) (fz (q.getD (q.length - 1) 0) (R.getD (R.length - 1) 0) * q.getD (j - (R.length - q.length)) 0)
      rw [Int.natAbs_mul, Int.natAbs_mul, abz_natAbs, fz_natAbs] at t1
      omega
    · rw [Int.natAbs_mul, abz_natAbs]
      omega
/-- what turned_rest answers -/
structure TR (p q R : Z) (B C : Nat) : Prop where
  lt : R.length < q.length
  bits : ∀ n ∈ R, n.natAbs < 2 ^ (B + (p.length + 1 - q.length) * (C + 1))
  nz : R = [] ∨ R.getD (R.length - 1) 0 ≠ 0
  e0 : R = [] → ∀ x, ev (cZ q) x = 0 → ev (cZ p) x = 0
  e1 : R ≠ [] → RelZ p q R
theorem ev_flip (R : Z) (x : Re) : ev (cZ (R.map (0 - ·))) x = - ev (cZ R) x := by
  induction R with
  | nil => simp only [List.map_nil, cZ, ev]; grind
  | cons a R ih => rw [List.map_cons, evZ_cons, ih, evZ_cons, toR_sub, toR_zero]; grind
theorem flip_getD (R : Z) (i : Nat) : (R.map (0 - ·)).getD i 0 = 0 - R.getD i 0 := by
  simp only [List.getD_eq_getElem?_getD, List.getElem?_map]
  cases R[i]? with
  | none => simp
  | some a => rfl
theorem TI.done0 {p q : Z} {B C : Nat} (D : TI p q [] B C) (lq : 0 < q.length) : TR p q [] B C := by
  refine ⟨by simpa using lq, (fun _ h => by cases h), .inl rfl, fun _ x z => ?_, fun h => absurd rfl h⟩
  obtain ⟨l, s, l0, e⟩ := D.ev
  have := e x
  rw [z, show cZ [] = [] from rfl, ev_nil] at this
  have e2 : toR l * Bd.ev (cZ p) x = 0 := by grind
  have l1 := toR_pos l0
  exact (mul_eq_zero e2).resolve_left (by grind)
theorem TI.done {p q R : Z} {B C : Nat} (D : TI p q R B C) (h : R.length < q.length) (n : R ≠ []) : gz (R.map (0 - ·)) ≠ 0 ∧ TR p q (low (R.map (0 - ·))) B C := by
  have lR : 0 < R.length := List.length_pos_iff.mpr n
  have l0 := D.nz.resolve_left n
  have m0 : (R.map (0 - ·)).getD (R.length - 1) 0 ≠ 0 := by rw [flip_getD]; omega
  have mm := getZ_mem (l := R.map (0 - ·)) (i := R.length - 1) (by rw [List.length_map]; omega)
  have g0 := gz_ne mm m0
  refine ⟨g0, ⟨by rw [low_len, List.length_map]; exact h, fun m hm => ?_, .inr ?_, fun z => ?_, fun _ => ?_⟩⟩
  · obtain ⟨k, hk, le, _⟩ := low_abs hm g0
    obtain ⟨j, hj, rfl⟩ := List.mem_map.mp hk
    have := D.bits' j hj
    omega
  · rw [low_len, List.length_map, getD_low]
    have e := low_mul mm
    intro z
    rw [z, Int.mul_zero] at e
    exact m0 e.symm
  · have := congrArg List.length z
    rw [low_len, List.length_map, List.length_nil] at this
    omega
  · obtain ⟨l, s, l1, e⟩ := D.ev
    refine ⟨l, ((gz (R.map (0 - ·)) : Nat) : Int), s, l1, by omega, fun x => ?_⟩
    rw [e, ← low_ev, ev_flip]
    grind
end Bd

namespace Bd
open Re
/-! ## the rows that sturm_rows makes -/
def tri3 : Nat → Nat → Nat
  | _, 0 => 0
  | k, n + 1 => k + tri3 (k + 1) n
theorem dz_l1 {M : Nat} : ∀ (A : Z) (k : Nat), (∀ c ∈ A, c.natAbs ≤ M) → l1 (dz k A) ≤ M * tri3 k A.length
  | [], k, _ => Nat.zero_le _
  | a :: A, k, h => by
    have ih := dz_l1 A (k + 1) fun c hc => h c (List.mem_cons_of_mem _ hc)
    have ha := h a List.mem_cons_self
    rw [dz, l1, List.length_cons, tri3, Int.natAbs_mul, Int.natAbs_natCast, Nat.mul_add]
    have := Nat.mul_le_mul_right k ha
    omega
theorem l1_168 {A : Z} (h : ∀ c ∈ A, c.natAbs ≤ 6) (hl : A.length ≤ 7) : l1 A + l1 (derZ A) ≤ 168 := by
  have h1 := l1_le A h
  have h2 := dz_l1 A 0 h
  have h3 : l1 (derZ A) ≤ l1 (dz 0 A) := by
    unfold derZ
    cases dz 0 A with
    | nil => exact Nat.le_refl _
    | cons a l => rw [List.tail_cons, l1]; omega
  have h4 : ∀ n, n < 8 → tri3 0 n ≤ 21 := by decide
  have h5 := h4 A.length (by omega)
  have h6 := Nat.mul_le_mul_left 6 h5
  omega
theorem ib_z {p : Qp} {M : Nat} (h : Ib M p) : ∃ A : Z, cQ p = cZ A ∧ A.length = p.length ∧ ∀ c ∈ A, c.natAbs ≤ M := by
  induction p with
  | nil => exact ⟨[], rfl, rfl, fun _ h => by cases h⟩
  | cons a p ih =>
    obtain ⟨A, e, l, b⟩ := ih fun r hr => h r (List.mem_cons_of_mem _ hr)
    obtain ⟨n, rfl, bn⟩ := h a List.mem_cons_self
    refine ⟨n :: A, ?_, by simp [l], fun c hc => ?_⟩
    · show ofRat (n : Rat) :: cQ p = toR n :: cZ A
      rw [e]
      rfl
    · rcases List.mem_cons.mp hc with z | z
      · rw [z]; exact bn
      · exact b c z
def Sep (p : Qp) : Prop := Ib 6 p → p.length ≤ 7 → ∀ α β : Re, ev (cQ p) α = 0 → ev (cQ p) β = 0 → β < α → 1 ≤ ((2 ^ 225 : Nat) : Re) * (α - β)
structure SR (p : Qp) (N : Nat) (rs : List Z) : Prop where
  stu : Stu p rs
  len : rs.length ≤ 20
  row : ∀ r ∈ rs, r.length ≤ 20 ∧ ∀ n ∈ r, n.natAbs < 2 ^ N
  sep : Sep p
theorem tri_snoc {L : List Z} {P Q R : Z} (h : Tri (L ++ [P, Q])) (r : RelZ P Q R) : Tri (L ++ [P, Q, R]) := by
  intro i a b c h1 h2 h3
  have e : L ++ [P, Q, R] = (L ++ [P, Q]) ++ [R] := by simp
  have lt : i + 2 < (L ++ [P, Q, R]).length := by
    refine Classical.byContradiction fun n => ?_
    rw [List.getElem?_eq_none (by omega)] at h3
    cases h3
  by_cases k : i + 2 < (L ++ [P, Q]).length
  · rw [e, List.getElem?_append_left (by omega)] at h1 h2 h3
    exact h i a b c h1 h2 h3
  · have ei : i = L.length := by simp at lt k; omega
    subst ei
    simp at h1 h2 h3
    subst h1 h2 h3
    exact r
structure RI (r0 r1 : Z) (n0 C : Nat) (rs : List Z) (P Q : Z) : Prop where
  hd : ∃ l, rs = r0 :: r1 :: l
  tl : ∃ L, rs = L ++ [P, Q]
  tri : Tri rs
  row : ∀ r ∈ rs, r.length ≤ n0 ∧ ∀ n ∈ r, n.natAbs < 2 ^ (C * wv n0)
  nzP : P.getD (P.length - 1) 0 ≠ 0
  nzQ : Q.getD (Q.length - 1) 0 ≠ 0
  q0 : 0 < Q.length
  lt : Q.length < P.length
  cnt : rs.length + Q.length ≤ n0 + 1
  bits : ∃ i b1 b2, P.length + i = n0 ∧ (∀ n ∈ P, n.natAbs < 2 ^ b1) ∧ b1 + 1 ≤ C * wv i ∧ (∀ n ∈ Q, n.natAbs < 2 ^ b2) ∧ b2 + 1 ≤ C * wv (i + 1)
theorem pow_bits {n : Nat} {a b : Nat} (h : n < 2 ^ a) (k : a ≤ b) : n < 2 ^ b := Nat.lt_of_lt_of_le h (Nat.pow_le_pow_right (by decide) k)
theorem RI.start {r0 r1 : Z} {C b0 b1 : Nat} (h0 : r0.getD (r0.length - 1) 0 ≠ 0) (h1 : r1.getD (r1.length - 1) 0 ≠ 0) (l1 : 0 < r1.length) (l : r1.length + 1 = r0.length) (k0 : ∀ n ∈ r0, n.natAbs < 2 ^ b0) (k1 : ∀ n ∈ r1, n.natAbs < 2 ^ b1)
    (c0 : b0 + 1 ≤ C) (c1 : b1 + 1 ≤ C * 3) : RI r0 r1 r0.length C [r0, r1] r0 r1 := by
  have w1 : 3 ≤ wv r0.length := wv_mono (m := 1) (by omega)
  have w3 : C * 3 ≤ C * wv r0.length := Nat.mul_le_mul_left _ w1
  refine ⟨⟨[], rfl⟩, ⟨[], rfl⟩, fun i a b c h1 h2 h3 => ?_, fun r hr => ?_, h0, h1, l1, by omega, by simp; omega, 0, b0, b1, rfl, k0, by rw [wv]; omega, k1, by rw [wv]; exact c1⟩
  · rw [List.getElem?_eq_none (by simp)] at h3
    cases h3
  · simp only [List.mem_cons, List.not_mem_nil, or_false] at hr
    rcases hr with rfl | rfl
    · exact ⟨Nat.le_refl _, fun n hn => pow_bits (k0 n hn) (by omega)⟩
    · exact ⟨by omega, fun n hn => pow_bits (k1 n hn) (by omega)⟩
theorem RI.turn {r0 r1 : Z} {n0 C : Nat} {rs : List Z} {P Q : Z} (h : RI r0 r1 n0 C rs P Q) :
    ∃ b1 b2, (∀ n ∈ P, n.natAbs < 2 ^ b1) ∧ (∀ n ∈ Q, n.natAbs < 2 ^ b2) ∧ b1 + (P.length + 1 - Q.length) * (b2 + 1) ≤ C * wv n0 ∧ b2 ≤ C * wv n0 ∧ P.length ≤ n0 ∧
      ∀ R, TR P Q R b1 b2 → R ≠ [] → RI r0 r1 n0 C (rs ++ [R]) Q R := by
  obtain ⟨i, b1, b2, hi, k1, c1, k2, c2⟩ := h.bits
  have lt := h.lt
  have q0 := h.q0
  have st := wv_step i (P.length - Q.length - 1)
  rw [show P.length - Q.length - 1 + 2 = P.length + 1 - Q.length by omega] at st
  have sum : b1 + (P.length + 1 - Q.length) * (b2 + 1) + 1 ≤ C * wv (i + (P.length - Q.length - 1) + 2) := by
    have a1 : (P.length + 1 - Q.length) * (b2 + 1) ≤ (P.length + 1 - Q.length) * (C * wv (i + 1)) := Nat.mul_le_mul_left _ c2
    have a2 := Nat.mul_le_mul_left C st
    rw [Nat.mul_add, Nat.mul_left_comm] at a2
    omega
  have w1 : C * wv (i + (P.length - Q.length - 1) + 2) ≤ C * wv n0 := Nat.mul_le_mul_left _ (wv_mono (by omega))
  have w2 : C * wv (i + 1) ≤ C * wv n0 := Nat.mul_le_mul_left _ (wv_mono (by omega))
  have w4 : C * wv (i + 1) ≤ C * wv (i + (P.length - Q.length - 1) + 1) := Nat.mul_le_mul_left _ (wv_mono (by omega))
  refine ⟨b1, b2, k1, k2, by omega, by omega, by omega, fun R t nR => ?_⟩
  obtain ⟨L, eL⟩ := h.tl
  obtain ⟨l, el⟩ := h.hd
  have tlt := t.lt
  have lR : 0 < R.length := List.length_pos_iff.mpr nR
  refine ⟨⟨l ++ [R], by rw [el]; rfl⟩, ⟨L ++ [P], by rw [eL]; simp⟩, ?_, fun r hr => ?_, h.nzQ, t.nz.resolve_left nR, lR, tlt, ?_, i + (P.length - Q.length - 1) + 1, b2, _, by omega, k2, by omega, t.bits, by omega⟩
  · have := h.tri
    rw [eL] at this ⊢
    have := tri_snoc this (t.e1 nR)
    simpa using this
  · rcases List.mem_append.mp hr with z | z
    · exact h.row r z
    · obtain rfl := List.mem_singleton.mp z
      exact ⟨by omega, fun n hn => pow_bits (t.bits n hn) (by omega)⟩
  · have := h.cnt
    rw [List.length_append, List.length_singleton]
    omega
theorem RI.last0 {r0 r1 : Z} {n0 C : Nat} {rs : List Z} {P Q : Z} (h : RI r0 r1 n0 C rs P Q) (e : ∀ x, ev (cZ Q) x = 0 → ev (cZ P) x = 0) : LastOk rs := by
  obtain ⟨L, eL⟩ := h.tl
  subst eL
  intro i a b h1 h2 h3
  have ei : i = L.length := by simp at h3; omega
  subst ei
  simp at h1 h2
  subst h1 h2
  exact e
theorem RI.last1 {r0 r1 : Z} {n0 C : Nat} {rs : List Z} {P Q : Z} (h : RI r0 r1 n0 C rs P Q) (l : Q.length ≤ 1) : LastOk rs := by
  refine h.last0 fun x z => ?_
  have q0 := h.q0
  have nz := h.nzQ
  match Q, l, q0, nz, z with
  | [c], _, _, nz, z =>
    exfalso
    rw [evZ_cons] at z
    have : toR c = 0 := by
      have e : ev (cZ []) x = 0 := rfl
      rw [e] at z
      grind
    exact nz (toR_inj this)
/-- what is known of the simple part -/
structure SQ (p f : Qp) (B : Nat) : Prop where
  tr : Tr f
  len : 2 ≤ f.length
  le : f.length ≤ p.length
  cm : Cm f B
  nz : ∃ x, ev (cQ p) x ≠ 0
  root : ∀ x, ev (cQ p) x = 0 ↔ ev (cQ f) x = 0
  simple : ∀ x, ev (cQ f) x = 0 → dev (cQ f) x ≠ 0
  sep : Sep p
theorem sq_all {p g f r : Qp} {B Bp Cg : Nat} (tp : Tr p) (nd : derQ p ≠ []) (cp : Cm p B) (l13 : p.length ≤ 13) (G : Gcd p (derQ p) g) (D : Dv p g f r Bp Cg) : SQ p f (25 * B + 217) := by
  have np : p ≠ [] := fun z => nd (by rw [z]; rfl)
  have r0 := exact_rest G.mon G.dp D.ev D.lt D.tr
  subst r0
  have hf : ∀ x, ev (cQ p) x = ev (cQ f) x * ev (cQ g) x := fun x => by
    rw [D.ev, show cQ [] = [] from rfl, ev_nil]; grind
  obtain ⟨h, u, v, s, t, φ, S⟩ := sq_of tp np G D.tf hf
  have hs : 0 < s.length := by
    refine Nat.pos_of_ne_zero fun z => nd ?_
    refine exact_rest (f := []) G.mon G.dq (fun x => ?_) ?_ (derQ_tr tp)
    · rw [show cQ [] = [] from rfl, ev_nil]; grind
    · have := S.len
      have e := S.eg
      rw [derQ_len, e, List.length_append, List.length_singleton]
      omega
  have sb := S.bits cp (n := 12) (by omega) (by omega) hs
  have ef := S.ef
  have φ0 : ofRat φ ≠ 0 := fun z => S.φ0 (ofRat_inj z)
  have ecf : cQ f = cQ s ++ [ofRat φ] := by rw [ef, cQ_snoc]
  have lf : f.length = s.length + 1 := by rw [ef, List.length_append, List.length_singleton]
  refine ⟨D.tf, by omega, D.lf, sb.mono (by omega), S.sp.nz, fun x => by rw [ecf]; exact S.sp.root x, fun x z => ?_, fun ib l7 α β ha hb lt => ?_⟩
  · rw [ecf] at z ⊢
    exact (S.sp.simple z).1
  · obtain ⟨A, eA, lA, bA⟩ := ib_z ib
    have sp := S.sp
    rw [eA] at sp ha hb
    have sl := S.len
    exact sep φ0 sp (cQ_len s) (cQ_len t) hs bA (by rw [lA, sl]) (B := derZ A) (by rw [derZ_len, lA, sl]; omega) (by omega) (fun x => derZ_ev A x) (l1_168 bA (by omega)) ha hb lt
theorem SQ.done {p f : Qp} {B C n0 N : Nat} {r0 r1 P Q : Z} {rs : List Z} (S : SQ p f B) {c0 c1 : Rat} (h0 : 0 < c0) (h1 : 0 < c1) (e0 : ∀ x, ev (cZ r0) x = ofRat c0 * ev (cQ f) x) (e1 : ∀ x, ev (cZ r1) x = ofRat c1 * ev (cQ (derQ f)) x)
    (I : RI r0 r1 n0 C rs P Q) (hl : LastOk rs) (ln : n0 ≤ 13) (hN : C * wv n0 ≤ N) : SR p N rs := by
  obtain ⟨l, el⟩ := I.hd
  refine ⟨?_, by have := I.cnt; omega, fun r hr => ⟨by have := (I.row r hr).1; omega, fun n hn => pow_bits ((I.row r hr).2 n hn) hN⟩, S.sep⟩
  have ht := I.tri
  subst el
  exact stu_rows S.nz S.root S.simple h0 h1 e0 (fun x => by rw [e1, derQ_ev]) ht hl
theorem sr_const {p : Qp} {B N : Nat} {A : Z} (tp : Tr p) (np : p ≠ []) (hd : derQ p = []) (w : WN p B A) (hN : B ≤ N) : SR p N [A] := by
  have l1 : p.length = 1 := by
    have := derQ_len p
    rw [hd, List.length_nil] at this
    have := List.length_pos_iff.mpr np
    omega
  obtain ⟨s, a, rfl, ha⟩ := tp.snoc np
  have s0 : s = [] := by simpa using l1
  subst s0
  have lA := w.len
  match A, lA with
  | [z], _ =>
    refine ⟨stu_const rfl ha, by simp, fun r hr => ?_, fun _ _ α β hα => ?_⟩
    · obtain rfl := List.mem_singleton.mp hr
      exact ⟨by simp, fun n hn => pow_bits (w.bits n hn) hN⟩
    · exfalso
      rw [List.nil_append, evQ_cons] at hα
      have : ofRat a = 0 := by
        have e : ev (cQ []) α = 0 := rfl
        rw [e] at hα
        grind
      exact ha (ofRat_inj this)
end Bd

namespace Bd
open Re
/-! ## signs and their changes -/
def adj {α : Type} (d : α → α → Bool) : List α → Nat
  | [] => 0
  | [_] => 0
  | a :: b :: l => (if d a b then 1 else 0) + adj d (b :: l)
theorem adj_range {α : Type} (d : α → α → Bool) (z : α) : ∀ l : List α, ((List.range (l.length - 1)).filter fun i => d (l.getD i z) (l.getD (i + 1) z)).length = adj d l
  | [] => rfl
  | [_] => rfl
  | a :: b :: l => by
    have ih := adj_range d z (b :: l)
    rw [adj, ← ih]
    simp only [List.length_cons, Nat.add_sub_cancel]
    rw [List.range_succ_eq_map, List.filter_cons, List.filter_map]
    have e : ((fun i => d ((a :: b :: l).getD i z) ((a :: b :: l).getD (i + 1) z)) ∘ Nat.succ) = fun i => d ((b :: l).getD i z) ((b :: l).getD (i + 1) z) := by
      funext i
      rfl
    rw [e]
    split <;> rename_i h
    · rw [List.length_cons, List.length_map]
      have : d a b = true := h
      rw [if_pos this]
      omega
    · rw [List.length_map]
      have : ¬ d a b = true := h
      rw [if_neg this]
      omega
theorem cvs_filter {α : Type} (sg : α → Option Bool) (p : α → Bool) (h : ∀ a, p a = false → sg a = none) : ∀ (l : List α) (s : Option Bool), cvs s (l.map sg) = cvs s ((l.filter p).map sg)
  | [], _ => rfl
  | a :: l, s => by
    cases hp : p a with
    | false =>
      rw [List.map_cons, h a hp, List.filter_cons_of_neg (by rw [hp]; exact Bool.false_ne_true), ← cvs_filter sg p h l s]
      cases s <;> rfl
    | true =>
      rw [List.filter_cons_of_pos hp, List.map_cons, List.map_cons]
      cases sg a with
      | none => cases s <;> exact cvs_filter sg p h l _
      | some b => cases s with
        | none => exact cvs_filter sg p h l _
        | some c => show _ + _ = _ + _; rw [cvs_filter sg p h l]
theorem cvs_adj {α : Type} (sg : α → Option Bool) (s : α → Bool) : ∀ (l : List α), (∀ a ∈ l, sg a = some (s a)) → cvs none (l.map sg) = adj (fun a b => s a != s b) l
  | [], _ => rfl
  | [a], h => by
    rw [List.map_cons, h a (by simp)]
    rfl
  | a :: b :: l, h => by
    have ih := cvs_adj sg s (b :: l) fun c hc => h c (List.mem_cons_of_mem _ hc)
    rw [List.map_cons, h b (by simp)] at ih
    rw [List.map_cons, List.map_cons, h a (by simp), h b (by simp), adj, ← ih]
    show (if s a = s b then 0 else 1) + _ = _
    cases s a <;> cases s b <;> rfl
theorem sgn_int (n : Int) : sgn (toR n) = if n = 0 then none else some (decide (n < 0)) := by
  unfold sgn
  by_cases h : n = 0
  · subst h; rw [if_pos toR_zero, if_pos rfl]
  · rw [if_neg fun z => h (toR_inj (z.trans toR_zero.symm)), if_neg h]
    congr 1
    refine decide_eq_decide.mpr ?_
    exact toR_lt (a := n) (b := 0)
/-- changes of sign in a list of ints, zeros left out -/
def chz (l : List Int) : Nat := adj (fun a b => decide (a < 0) != decide (b < 0)) (l.filter fun n => decide (n ≠ 0))
theorem chz_cvs (l : List Int) : cvs none (l.map fun n => sgn (toR n)) = chz l := by
  rw [cvs_filter (fun n => sgn (toR n)) (fun n => decide (n ≠ 0)) (fun a h => by
    have : a = 0 := Classical.not_not.mp (of_decide_eq_false h)
    rw [this]; exact sgn_zero rfl)]
  refine cvs_adj _ (fun n => decide (n < 0)) _ fun a ha => ?_
  have : a ≠ 0 := of_decide_eq_true (List.mem_filter.mp ha).2
  rw [sgn_int, if_neg this]
def sf : Z → Rat → Int
  | [], _ => 0
  | a :: r, x => sf r x * x.num + a * ((x.den : Int) ^ r.length)
theorem den_re (x : Rat) : 0 < ofRat (x.den : Rat) := ofRat_lt.mpr (Rat.natCast_pos.mpr x.den_pos)
theorem sf_ev : ∀ (r : Z) (x : Rat), toR (sf r x) * ofRat (x.den : Rat) = ofRat (x.den : Rat) ^ r.length * ev (cZ r) (ofRat x)
  | [], x => by
    rw [sf, show cZ [] = [] from rfl, ev_nil, toR_zero]
    grind
  | a :: r, x => by
    have ih := sf_ev r x
    rw [sf, evZ_cons, toR_add, toR_mul, toR_mul]
    have e1 : toR x.num = ofRat x * ofRat (x.den : Rat) := by
      rw [← ofRat_mul, mul_den]
      rfl
    have e2 : toR ((x.den : Int) ^ r.length) = ofRat (x.den : Rat) ^ r.length := by
      generalize r.length = n
      induction n with
      | zero => rw [Int.pow_zero, Lean.Grind.Semiring.pow_zero, toR_one]
      | succ n ih => rw [Int.pow_succ, toR_mul, ih, Lean.Grind.Semiring.pow_succ]; rfl
    rw [e1, e2, List.length_cons, Lean.Grind.Semiring.pow_succ]
    generalize ofRat (x.den : Rat) = d at *
    generalize d ^ r.length = D at *
    grind
theorem sf_sgn (r : Z) (x : Rat) : sgn (toR (sf r x)) = sgn (ev (cZ r) (ofRat x)) := by
  have h := sf_ev r x
  have d := den_re x
  have dn : 0 < ofRat (x.den : Rat) ^ r.length := by
    generalize r.length = n
    induction n with
    | zero => rw [Lean.Grind.Semiring.pow_zero]; grind
    | succ n ih => rw [Lean.Grind.Semiring.pow_succ]; exact mul_pos ih d
  rw [← sgn_pos_mul (b := toR (sf r x)) d, ← sgn_pos_mul (b := ev (cZ r) (ofRat x)) dn, ← h]
  congr 1
  grind
theorem vz_chz (rs : List Z) (x : Rat) : Vz rs x = chz (rs.map fun r => sf r x) := by
  rw [← chz_cvs]
  unfold Vz
  rw [List.map_map]
  congr 1
  exact List.map_congr_left fun r _ => (sf_sgn r x).symm
theorem sf_bits {B c : Nat} {x : Rat} (hn : x.num.natAbs < 2 ^ c) (hd : x.den < 2 ^ c) : ∀ (r : Z), (∀ n ∈ r, n.natAbs < 2 ^ B) → (sf r x).natAbs < 2 ^ (B + r.length * (c + 1))
  | [], _ => by rw [sf]; exact Nat.pow_pos (by decide)
  | a :: r, h => by
    have ih := sf_bits hn hd r fun n hn => h n (List.mem_cons_of_mem _ hn)
    have ha := h a List.mem_cons_self
    have t := Int.natAbs_add_le (sf r x * x.num) (a * ((x.den : Int) ^ r.length))
    rw [Int.natAbs_mul, Int.natAbs_mul, Int.natAbs_pow, Int.natAbs_natCast] at t
    have p1 := Nat.mul_lt_mul'' ih hn
    have p2 : x.den ^ r.length ≤ 2 ^ (c * r.length) := by
      rw [Nat.pow_mul]
      exact Nat.pow_le_pow_left (by omega) _
    have p3 : a.natAbs * x.den ^ r.length ≤ a.natAbs * 2 ^ (c * r.length) := Nat.mul_le_mul_left _ p2
    have p4 : a.natAbs * 2 ^ (c * r.length) < 2 ^ B * 2 ^ (c * r.length) := Nat.mul_lt_mul_of_pos_right ha (Nat.pow_pos (by decide))
    have p5 : 2 ^ B * 2 ^ (c * r.length) ≤ 2 ^ (B + r.length * (c + 1)) * 2 ^ c := by
      rw [← Nat.pow_add, ← Nat.pow_add]
      refine Nat.pow_le_pow_right (by decide) ?_
      rw [Nat.mul_comm c, Nat.mul_add]
      omega
    rw [sf, List.length_cons, Nat.succ_mul, show B + (r.length * (c + 1) + (c + 1)) = B + r.length * (c + 1) + c + 1 by omega, Nat.pow_succ, Nat.pow_add _ _ c]
    omega
end Bd

namespace Bd
open Re
/-! ## intervals that are halved -/
theorem nrt_add (p : Qp) {a b c : Rat} (h1 : a ≤ b) (h2 : b ≤ c) : nrt p a c = nrt p a b + nrt p b c := cnt_add _ h1 h2
theorem nrt_le {p : Qp} (h : ∃ x, ev (cQ p) x ≠ 0) (a b : Rat) : nrt p a b ≤ p.length := by
  have := (roots_ex _ (cQ p) (Nat.le_refl _) h).choose_spec.2.2
  unfold nrt cnt
  refine Nat.le_trans (List.length_filter_le _ _) ?_
  unfold rts
  rw [dif_pos h]
  exact Nat.le_trans (Nat.le_of_lt this) (Nat.le_of_eq (cQ_len p))
structure Gr (G : Nat) (lo hi : Rat) : Prop where
  l0 : -(2 ^ 31 : Rat) ≤ lo
  l1 : lo ≤ 2 ^ 31
  h0 : -(2 ^ 31 : Rat) ≤ hi
  h1 : hi ≤ 2 ^ 31
  g : ∃ E : Nat, 0 < E ∧ E < 2 ^ G ∧ ∃ a b : Int, lo * (E : Rat) = (a : Rat) ∧ hi * (E : Rat) = (b : Rat)
theorem gr_bits {r : Rat} {E G : Nat} {a : Int} (E0 : 0 < E) (hE : E < 2 ^ G) (h : r * (E : Rat) = (a : Rat)) (r0 : -(2 ^ 31 : Rat) ≤ r) (r1 : r ≤ 2 ^ 31) : r.num.natAbs < 2 ^ (G + 32) ∧ r.den < 2 ^ (G + 32) := by
  have := num_den_le (r := r) (n := a) (D := E) (by omega) (by rw [Rat.intCast_natCast]; exact h)
  rw [Int.natAbs_natCast] at this
  have e0 : (0 : Rat) ≤ (E : Rat) := Rat.natCast_nonneg
  have k1 : (a : Rat) ≤ ((2 ^ 31 * E : Int) : Rat) := by
    rw [← h, Rat.intCast_mul, Rat.intCast_natCast]
    have e : ((2 ^ 31 : Int) : Rat) = 2 ^ 31 := by decide +kernel
    rw [e]
    exact Rat.mul_le_mul_of_nonneg_right r1 e0
  have k2 : ((-(2 ^ 31) * E : Int) : Rat) ≤ (a : Rat) := by
    rw [← h, Rat.intCast_mul, Rat.intCast_natCast]
    have e : ((-(2 ^ 31) : Int) : Rat) = -(2 ^ 31) := by decide +kernel
    rw [e]
    exact Rat.mul_le_mul_of_nonneg_right r0 e0
  have j1 := Rat.intCast_le_intCast.mp k1
  have j2 := Rat.intCast_le_intCast.mp k2
  have p : 2 ^ (G + 32) = 2 ^ G * 2 ^ 32 := Nat.pow_add _ _ _
  have e31 : (2 : Int) ^ 31 = 2147483648 := by decide
  have e32 : (2 : Nat) ^ 32 = 4294967296 := by decide
  rw [e31] at j1 j2
  rw [e32] at p
  constructor <;> omega
theorem Gr.mono {G G' : Nat} {lo hi : Rat} (h : Gr G lo hi) (k : G ≤ G') : Gr G' lo hi :=
  let ⟨E, e0, e1, x⟩ := h.g
  ⟨h.l0, h.l1, h.h0, h.h1, E, e0, Nat.lt_of_lt_of_le e1 (Nat.pow_le_pow_right (by decide) k), x⟩
theorem Gr.half {G : Nat} {lo hi : Rat} (h : Gr G lo hi) : Gr (G + 1) lo ((lo + hi) / 2) ∧ Gr (G + 1) ((lo + hi) / 2) hi := by
  obtain ⟨E, e0, e1, a, b, ha, hb⟩ := h.g
  have l0 := h.l0
  have l1 := h.l1
  have h0 := h.h0
  have h1 := h.h1
  have E2 : 2 * E < 2 ^ (G + 1) := by rw [Nat.pow_succ]; omega
  have c2 : ((2 * E : Nat) : Rat) = 2 * (E : Rat) := by rw [Rat.natCast_mul]; rfl
  have m1 : lo * ((2 * E : Nat) : Rat) = ((2 * a : Int) : Rat) := by rw [c2, Rat.intCast_mul, ← ha]; grind
  have m2 : hi * ((2 * E : Nat) : Rat) = ((2 * b : Int) : Rat) := by rw [c2, Rat.intCast_mul, ← hb]; grind
  have m3 : (lo + hi) / 2 * ((2 * E : Nat) : Rat) = ((a + b : Int) : Rat) := by rw [c2, Rat.intCast_add, ← ha, ← hb]; grind
  have b0 : -(2 ^ 31 : Rat) ≤ (lo + hi) / 2 := by grind
  have b1 : (lo + hi) / 2 ≤ (2 ^ 31 : Rat) := by grind
  exact ⟨⟨l0, l1, b0, b1, 2 * E, by omega, E2, _, _, m1, m3⟩, ⟨b0, b1, h0, h1, 2 * E, by omega, E2, _, _, m3, m2⟩⟩
theorem two_of {L : List Re} (nd : L.Nodup) {a b : Rat} (h : 2 ≤ cnt L a b) : ∃ α ∈ L, ∃ β ∈ L, β < α ∧ ofRat a < β ∧ α ≤ ofRat b := by
  classical
  unfold cnt at h
  have nd2 := nd.filter (fun x => decide (ofRat a < x ∧ x ≤ ofRat b))
  have key : ∀ (M : List Re), (∀ x ∈ M, x ∈ L ∧ ofRat a < x ∧ x ≤ ofRat b) → M.Nodup → 2 ≤ M.length → ∃ α ∈ L, ∃ β ∈ L, β < α ∧ ofRat a < β ∧ α ≤ ofRat b := fun M hM ndM lM => by
    match M, lM with
    | u :: v :: M, _ =>
      have hu := hM u (by simp)
      have hv := hM v (by simp)
      have ne : u ≠ v := fun z => by
        subst z
        simp at ndM
      by_cases k : u < v
      · exact ⟨v, hv.1, u, hu.1, k, hu.2.1, hv.2.2⟩
      · exact ⟨u, hu.1, v, hv.1, by grind, hv.2.1, hu.2.2⟩
  refine key _ (fun x hx => ?_) nd2 ?_
  · have := List.mem_filter.mp hx
    exact ⟨this.1, of_decide_eq_true this.2⟩
  · exact h
theorem sep_cnt {p : Qp} (S : Sep p) (nz : ∃ x, ev (cQ p) x ≠ 0) (ib : Ib 6 p) (l7 : p.length ≤ 7) {lo hi : Rat} (h : 2 ≤ nrt p lo hi) : 1 < (hi - lo) * 2 ^ 225 := by
  have sp := rts_spec nz
  obtain ⟨α, ha, β, hb, lt, h1, h2⟩ := two_of sp.1 h
  have := S ib l7 α β ((sp.2 α).mp ha) ((sp.2 β).mp hb) lt
  have e : ((2 ^ 225 : Nat) : Re) = ofRat (2 ^ 225 : Rat) := by
    rw [← toR_nat]
    show ofRat ((((2 ^ 225 : Nat) : Int) : Rat)) = _
    congr 1
  rw [e] at this
  have c0 : 0 < ofRat (2 ^ 225 : Rat) := ofRat_lt.mpr (by decide +kernel)
  refine ofRat_lt.mp ?_
  rw [ofRat_mul, ofRat_sub, show ofRat 1 = 1 from rfl]
  have d : 0 < ofRat hi - ofRat lo - (α - β) := by grind
  have := mul_pos c0 d
  grind
/-- a chain of intervals, one root in each -/
def Cut (p : Qp) : Rat → List (Rat × Rat) → Rat → Prop
  | a, [], b => a ≤ b
  | a, (x, y) :: L, b => a ≤ x ∧ x < y ∧ nrt p x y = 1 ∧ Cut p y L b
theorem Cut.app {p : Qp} {b c : Rat} {M : List (Rat × Rat)} (k : Cut p b M c) : ∀ {L : List (Rat × Rat)} {a : Rat}, Cut p a L b → Cut p a (L ++ M) c
  | [], a, h => by
    cases M with
    | nil => exact Rat.le_trans h k
    | cons u M => obtain ⟨x, y⟩ := u; exact ⟨Rat.le_trans h k.1, k.2⟩
  | (x, y) :: L, a, h => ⟨h.1, h.2.1, h.2.2.1, Cut.app k h.2.2.2⟩
theorem Cut.le {p : Qp} : ∀ {L : List (Rat × Rat)} {a b : Rat}, Cut p a L b → a ≤ b
  | [], _, _, h => h
  | (x, y) :: L, a, b, h => Rat.le_trans h.1 (Rat.le_trans (Rat.le_of_lt h.2.1) (Cut.le h.2.2.2))
theorem Cut.congr {p q : Qp} (h : ∀ a b, nrt p a b = nrt q a b) : ∀ {L : List (Rat × Rat)} {a b : Rat}, Cut p a L b → Cut q a L b
  | [], _, _, k => k
  | (x, y) :: L, a, b, k => ⟨k.1, k.2.1, by rw [← h]; exact k.2.2.1, Cut.congr h k.2.2.2⟩
structure Iso (p : Qp) (G : Nat) (lo hi : Rat) (L : List (Rat × Rat)) : Prop where
  cut : Cut p lo L hi
  len : L.length = nrt p lo hi
  gr : ∀ u ∈ L, Gr G u.1 u.2
theorem Iso.app {p : Qp} {G : Nat} {lo mid hi : Rat} {L M : List (Rat × Rat)} (h : Iso p G lo mid L) (k : Iso p G mid hi M) : Iso p G lo hi (L ++ M) :=
  ⟨k.cut.app h.cut, by rw [List.length_append, h.len, k.len, ← nrt_add p h.cut.le k.cut.le], fun u hu => (List.mem_append.mp hu).elim (h.gr u) (k.gr u)⟩
theorem iso_few {p : Qp} {G : Nat} {lo hi : Rat} (lt : lo < hi) (g : Gr G lo hi) (h : nrt p lo hi < 2) : Iso p G lo hi (List.replicate (nrt p lo hi) (lo, hi)) := by
  generalize hn : nrt p lo hi = n at h
  match n, h with
  | 0, _ => exact ⟨Rat.le_of_lt lt, by rw [hn]; rfl, fun _ h => by cases h⟩
  | 1, _ =>
    refine ⟨⟨Rat.le_refl, lt, hn, Rat.le_refl⟩, by rw [hn]; rfl, fun u hu => ?_⟩
    obtain rfl := List.mem_singleton.mp hu
    exact g
theorem half_lt {lo hi : Rat} (h : lo < hi) : lo < (lo + hi) / 2 ∧ (lo + hi) / 2 < hi := by constructor <;> grind
theorem half_sub (lo hi : Rat) : (lo + hi) / 2 - lo = (hi - lo) / 2 ∧ hi - (lo + hi) / 2 = (hi - lo) / 2 := by constructor <;> grind
theorem half_pow {d : Rat} {n : Nat} {c : Rat} (h : d * c ≤ 2 ^ (n + 1)) : d / 2 * c ≤ 2 ^ n := by
  rw [Lean.Grind.Semiring.pow_succ] at h
  grind
end Bd

namespace Bd
open Re
theorem nrt_congr {p q : Qp} (hp : ∃ x, ev (cQ p) x ≠ 0) (hq : ∃ x, ev (cQ q) x ≠ 0) (h : ∀ x, ev (cQ p) x = 0 ↔ ev (cQ q) x = 0) (a b : Rat) : nrt p a b = nrt q a b := by
  have sp := rts_spec hp
  have sq := rts_spec hq
  have pm : (rts (cQ p)).Perm (rts (cQ q)) := (List.perm_ext_iff_of_nodup sp.1 sq.1).mpr fun x => by rw [sp.2, sq.2]; exact h x
  unfold nrt cnt
  exact (pm.filter _).length_eq
theorem gcd_root {p q g : Qp} (G : Gcd p q g) (x : Re) : ev (cQ g) x = 0 ↔ ev (cQ p) x = 0 ∧ ev (cQ q) x = 0 := by
  obtain ⟨a, ha⟩ := G.dp
  obtain ⟨b, hb⟩ := G.dq
  obtain ⟨u, v, huv⟩ := G.co
  constructor
  · intro z
    rw [ha, hb, z]
    constructor <;> grind
  · rintro ⟨z1, z2⟩
    rw [huv, z1, z2]
    grind
theorem gcd_nz {p q g : Qp} (G : Gcd p q g) : ∃ x, ev (cQ g) x ≠ 0 := by
  obtain ⟨t, rfl⟩ := G.mon
  exact Tr.nz (.inr ⟨t, 1, rfl, by decide⟩) (by simp)
/-- the roots of a product -/
theorem nrt_mul {p q r g : Qp} (hp : ∃ x, ev (cQ p) x ≠ 0) (hq : ∃ x, ev (cQ q) x ≠ 0) (hr : ∃ x, ev (cQ r) x ≠ 0) (e : ∀ x, ev (cQ r) x = ev (cQ p) x * ev (cQ q) x) (G : Gcd p q g) (a b : Rat) :
    nrt r a b + nrt g a b = nrt p a b + nrt q a b := by
  classical
  have sp := rts_spec hp
  have sq := rts_spec hq
  have sr := rts_spec hr
  have sg := rts_spec (gcd_nz G)
  have er : ∀ x, x ∈ rts (cQ r) ↔ x ∈ rts (cQ p) ∨ x ∈ rts (cQ q) := fun x => by
    rw [sr.2, sp.2, sq.2, e]
    exact ⟨mul_eq_zero, fun z => by rcases z with z | z <;> rw [z] <;> grind⟩
  have eg : ∀ x, x ∈ rts (cQ g) ↔ x ∈ rts (cQ p) ∧ x ∈ rts (cQ q) := fun x => by rw [sg.2, sp.2, sq.2]; exact gcd_root G x
  -- both sides as permutations
  have h1 : (rts (cQ r)).Perm (rts (cQ p) ++ (rts (cQ q)).filter fun x => decide (x ∉ rts (cQ p))) := by
    refine (List.perm_ext_iff_of_nodup sr.1 ?_).mpr fun x => ?_
    · refine List.nodup_append.mpr ⟨sp.1, sq.1.filter _, fun a ha b hb z => ?_⟩
      subst z
      exact of_decide_eq_true (List.mem_filter.mp hb).2 ha
    · rw [er, List.mem_append, List.mem_filter]
      constructor
      · rintro (z | z)
        · exact .inl z
        · by_cases k : x ∈ rts (cQ p)
          · exact .inl k
          · exact .inr ⟨z, decide_eq_true k⟩
      · rintro (z | z)
        · exact .inl z
        · exact .inr z.1
  have h2 : (rts (cQ g)).Perm ((rts (cQ q)).filter fun x => decide (x ∈ rts (cQ p))) := by
    refine (List.perm_ext_iff_of_nodup sg.1 (sq.1.filter _)).mpr fun x => ?_
    rw [eg, List.mem_filter]
    exact ⟨fun z => ⟨z.2, decide_eq_true z.1⟩, fun z => ⟨of_decide_eq_true z.2, z.1⟩⟩
  unfold nrt cnt
  rw [(h1.filter _).length_eq, (h2.filter _).length_eq, List.filter_append, List.length_append, List.filter_filter, List.filter_filter]
  have key : ∀ (L : List Re) (f m : Re → Bool), (L.filter fun x => f x && !m x).length + (L.filter fun x => f x && m x).length = (L.filter f).length := fun L f m => by
    induction L with
    | nil => rfl
    | cons x L ih =>
      simp only [List.filter_cons]
      cases f x <;> cases m x <;> simp <;> omega
  have := key (rts (cQ q)) (fun x => decide (ofRat a < x ∧ x ≤ ofRat b)) (fun x => decide (x ∈ rts (cQ p)))
  have e1 : (fun x => decide (ofRat a < x ∧ x ≤ ofRat b) && decide (x ∉ rts (cQ p))) = fun x => decide (ofRat a < x ∧ x ≤ ofRat b) && !decide (x ∈ rts (cQ p)) := by
    funext x
    rw [decide_not]
  rw [e1]
  omega
/-- the roots of a square -/
theorem nrt_sq {p r : Qp} (hp : ∃ x, ev (cQ p) x ≠ 0) (hr : ∃ x, ev (cQ r) x ≠ 0) (e : ∀ x, ev (cQ r) x = ev (cQ p) x * ev (cQ p) x) (a b : Rat) : nrt r a b = nrt p a b :=
  nrt_congr hr hp (fun x => by
    rw [e]
    exact ⟨fun z => (mul_eq_zero z).elim id id, fun z => by rw [z]; grind⟩) a b
theorem mul_nz {p q r : Qp} (tp : Tr p) (np : p ≠ []) (tq : Tr q) (nq : q ≠ []) (e : ∀ x, ev (cQ r) x = ev (cQ p) x * ev (cQ q) x) : ∃ x, ev (cQ r) x ≠ 0 := by
  refine Classical.byContradiction fun h => ?_
  have h0 : ∀ x, ev (cQ r) x = 0 := fun x => Classical.byContradiction fun z => h ⟨x, z⟩
  obtain ⟨x, hx⟩ := tp.nz np
  exact hx (const_mul_zero (F := cQ p) (G := cQ q) (tq.nz nq) (fun x => by rw [← e, h0]) x)
/-- a product that is trimmed is not empty -/
theorem ne_of_nz {r : Qp} (h : ∃ x, ev (cQ r) x ≠ 0) : r ≠ [] := fun z => by
  obtain ⟨x, hx⟩ := h
  rw [z] at hx
  exact hx rfl
/-! ## Descartes -/
theorem sgn_num (r : Rat) : sgn (ofRat r) = sgn (toR r.num) := by
  have e : toR r.num = ofRat (r.den : Rat) * ofRat r := by
    rw [← ofRat_mul, Rat.mul_comm, mul_den]
    rfl
  rw [e, sgn_pos_mul (den_re r)]
theorem desc_nrt {p : Qp} (h : ∃ x, ev (cQ p) x ≠ 0) {b : Rat} : nrt p 0 b ≤ chz (p.map (·.num)) := by
  classical
  have sp := rts_spec h
  have k := descartes ((rts (cQ p)).filter fun x => decide (ofRat 0 < x ∧ x ≤ ofRat b)) (cQ p) (sp.1.filter _) (fun x hx => by
    have := List.mem_filter.mp hx
    have h2 := of_decide_eq_true this.2
    exact ⟨h2.1, (sp.2 x).mp this.1⟩) (Classical.byContradiction fun n => by
      obtain ⟨x, hx⟩ := h
      exact hx (ev_all_zero _ (fun a ha => Classical.byContradiction fun z => n ⟨a, ha, z⟩) x))
  rw [← chz_cvs, List.map_map]
  have e : (cQ p).map sgn = p.map ((fun n => sgn (toR n)) ∘ fun r => r.num) := by
    unfold cQ
    rw [List.map_map]
    exact List.map_congr_left fun r _ => sgn_num r
  rw [← e]
  exact k
end Bd

namespace Bd
open Re
theorem steps_nrt {p : Qp} (hp : ∃ x, ev (cQ p) x ≠ 0) {lo hi : Rat} (lt : lo < hi) : chz ((List.range 13).map fun k : Nat => (evr p (lo + (hi - lo) / 12 * ((k : Int) : Rat))).num) ≤ nrt p lo hi := by
  have sp := rts_spec hp
  have d : 0 < (hi - lo) / 12 := by grind
  have h := samples (p := cQ p) (L := rts (cQ p)) (fun x => sp.2 x) (a := lo) (z := hi) ((List.range 13).map fun k : Nat => lo + (hi - lo) / 12 * ((k : Int) : Rat)) ?_ ?_
  · rw [← chz_cvs, List.map_map]
    rw [List.map_map] at h
    have e : (List.range 13).map ((fun n => sgn (toR n)) ∘ fun k : Nat => (evr p (lo + (hi - lo) / 12 * ((k : Int) : Rat))).num) = (List.range 13).map ((fun x => sgn (ev (cQ p) (ofRat x))) ∘ fun k : Nat => lo + (hi - lo) / 12 * ((k : Int) : Rat)) := by
      refine List.map_congr_left fun k _ => ?_
      show sgn (toR _) = sgn _
      rw [← sgn_num, evr_ev]
    rw [e]
    exact h
  · rw [List.pairwise_map]
    refine List.Pairwise.imp ?_ (List.pairwise_lt_range)
    intro a b hab
    have : ((a : Int) : Rat) < ((b : Int) : Rat) := Rat.intCast_lt_intCast.mpr (by omega)
    have := Rat.mul_lt_mul_of_pos_left this d
    grind
  · intro x hx
    obtain ⟨k, hk, rfl⟩ := List.mem_map.mp hx
    have k12 : k ≤ 12 := by have := List.mem_range.mp hk; omega
    have k0 : (0 : Rat) ≤ ((k : Int) : Rat) := by
      have : ((0 : Int) : Rat) ≤ ((k : Int) : Rat) := Rat.intCast_le_intCast.mpr (by omega)
      exact this
    have k1 : ((k : Int) : Rat) ≤ 12 := by
      have : ((k : Int) : Rat) ≤ ((12 : Int) : Rat) := Rat.intCast_le_intCast.mpr (by omega)
      exact this
    have m0 := Rat.mul_le_mul_of_nonneg_left k0 (Rat.le_of_lt d)
    have m1 := Rat.mul_le_mul_of_nonneg_left k1 (Rat.le_of_lt d)
    constructor <;> grind
/-- above 0 instead of below -/
theorem adj_pos (l : List Int) (h : ∀ n ∈ l, n ≠ 0) : adj (fun a b : Bool => a != b) (l.map fun n => decide (0 < n)) = adj (fun a b => decide (a < 0) != decide (b < 0)) l := by
  have e : ∀ n : Int, n ≠ 0 → decide (0 < n) = !decide (n < 0) := fun n hn => by
    by_cases k : n < 0
    · rw [decide_eq_true k, decide_eq_false (by omega)]; rfl
    · rw [decide_eq_false k, decide_eq_true (by omega)]; rfl
  match l with
  | [] => rfl
  | [_] => rfl
  | a :: b :: l =>
    have ih := adj_pos (b :: l) fun n hn => h n (List.mem_cons_of_mem _ hn)
    rw [List.map_cons] at ih
    rw [List.map_cons, List.map_cons, adj, adj, ih, e a (h a (by simp)), e b (h b (by simp))]
    cases decide (a < 0) <;> cases decide (b < 0) <;> rfl
end Bd

namespace Bd
open Re
structure Nar (p : Qp) (u : Rat × Rat) (x y : Rat) : Prop where
  l : u.1 ≤ x
  h : y ≤ u.2
  lt : x < y
  one : nrt p x y = 1
  gr : Gr 500 x y
theorem cut_next {p : Qp} : ∀ {L : List (Rat × Rat)} {a b : Rat} {i : Nat} {u v : Rat × Rat}, Cut p a L b → L[i]? = some u → L[i + 1]? = some v → u.2 ≤ v.1
  | [], _, _, i, _, _, _, e, _ => by simp at e
  | [_], _, _, i, _, _, _, _, e => by simp at e
  | (x, y) :: (x', y') :: L, a, b, 0, u, v, h, e1, e2 => by
    simp at e1 e2
    subst e1 e2
    exact h.2.2.2.1
  | (x, y) :: (x', y') :: L, a, b, i + 1, u, v, h, e1, e2 => cut_next (L := (x', y') :: L) h.2.2.2 (by simpa using e1) (by simpa using e2)
theorem two_count {p : Qp} {x0 y0 x1 y1 : Rat} (h0 : x0 < y0) (h1 : y0 ≤ x1) (h2 : x1 < y1) (n0 : nrt p x0 y0 = 1) (n1 : nrt p x1 y1 = 1) : 2 ≤ nrt p x0 y1 := by
  have a1 := nrt_add p (a := x0) (b := y0) (c := y1) (Rat.le_of_lt h0) (Rat.le_trans h1 (Rat.le_of_lt h2))
  have a2 := nrt_add p (a := y0) (b := x1) (c := y1) h1 (Rat.le_of_lt h2)
  omega
theorem gr_narrow {G : Nat} {lo hi : Rat} (g : Gr G lo hi) : hi - lo ≤ 2 ^ 38 * (1 / 50) := by
  have h1 := g.h1
  have h2 := g.l0
  have e : (2 ^ 31 - -(2 ^ 31) : Rat) ≤ 2 ^ 38 * (1 / 50) := by decide +kernel
  grind
end Bd


namespace Bw
open PySem PySem.Spec PyProof.Rows L2

/-! ## the text -/
def topS (i : Nat) : Stmt := PySem.Challenge.pw_bondroots_k45_whole_roots.main.body.getD i (.Pass ⟨0, 0, 0, 0⟩)

/-! ## a def of the text, a def that keeps a promise -/
def Has (K : PySem.W.Frag) (mg : Str → Option Value) (x : Str) (st : Stmt) (ps : List Str) : Prop := ∃ f fd, Fun K x x st f fd ∧ mg x = some (.ref f) ∧ Binds K fd ps []
def Prom (P : Program) (w : World) (K : PySem.W.Frag) (mg : Str → Option Value) (base : Heap) (k : Nat) (x : Str) (ps : List Str) (sp : Sp) : Prop :=
  ∃ f fd, mg x = some (.ref f) ∧ PySem.W.keepIn K (.ref f) = true ∧ Binds K fd ps [] ∧ FnOk P w K mg base CX0 k f fd ps sp
section
variable {P : Program} {w : World} {K : PySem.W.Frag} {mg : Str → Option Value} {base : Heap}
theorem Prom.mono {j k : Nat} {x : Str} {ps : List Str} {sp : Sp} (h : Prom P w K mg base j x ps sp) (l : j ≤ k) : Prom P w K mg base k x ps sp :=
  let ⟨f, fd, a, b, c, d⟩ := h; ⟨f, fd, a, b, c, d.mono l⟩
theorem Prom.imp {k : Nat} {x : Str} {ps : List Str} {sp sp' : Sp} (h : Prom P w K mg base k x ps sp) (l : ∀ vs H Q E, sp' vs H Q E → sp vs H Q E) : Prom P w K mg base k x ps sp' :=
  let ⟨f, fd, a, b, c, d⟩ := h; ⟨f, fd, a, b, c, d.imp l⟩
theorem Has.prom {x : Str} {st : Stmt} {N ps : List Str} {k : Nat} {sp : Sp} (h : Has K mg x st ps) (S : FnScope N ps (defScope st)) (len : ∀ vs H Q E, sp vs H Q E → vs.length = ps.length)
    (hbody : ∀ (f : Addr) (cdv : Value) (A : Around) (outer : List Env) (s : Shared) (H : Hp) (vs : List V) (Q : VK) (E : XK), Room k (A.deeper (envOfC x (defScope st) s.heap.objs.size f cdv)) → sp vs H Q E →
      ∃ t, PSs (cxOf CX0 P w K mg base N x (defScope st) f cdv A outer s H E).nox (defBody st) t ∧ t { nx := fun _ H' => Q .non H', rt := Q } (start N vs) H) : Prom P w K mg base (k + 1) x ps sp := by
  obtain ⟨f, fd, F, m, b⟩ := h
  exact ⟨f, fd, m, F.kp, b, F.ok S len fun cdv A outer s H vs Q E => hbody f cdv A outer s H vs Q E⟩
end
theorem pe_ca {X : Cx} {k : Nat} {x : Str} {ps : List Str} {sp : Sp} {p pos : Pos} {e : Expr} {es : List Expr} {t : TA} (c : Prom X.prog X.w X.K X.mg X.base k x ps sp) (hr : Room k X.A) (ha : PA X (e :: es) t) (hg : Gl X x := by rfl)
    (hdb : (x == ("__debug__" : Str)) = false := by decide) (he : starEach (e :: es) X.env = (false, eval e X.env) :: starEach es X.env := by rfl) (hpl : (backTo pos (starEach es X.env)).any (·.1) = false := by rfl) :
    PE X (.Call (.Name x p) (e :: es) [] pos) (tCall sp [] E0 t) := by
  obtain ⟨f, fd, m, kp, b, F⟩ := c
  exact pe_call F hr hg m kp b .nil (fun _ _ _ _ _ _ _ h => h.elim) ha hdb he hpl

/-! ## // and * of great ints -/
structure SeerX (X : Cx) : Prop where
  seer : X.base.NoSeer
  tree : X.prog.given.tree = none
  head : ∃ env l, X.stack = env :: l ∧ env.scope.isGenerator = false ∧ env.scope.isCoroutine = false ∧ env.builtins = builtinsNs ∧ env.globals = mainGlobals
  room : X.A.depth + 100 < recursionLimit
/-- // by any number but 0 -/
theorem op_fdivP {X : Cx} (S : SeerX X) : OpR X (binaryOp .FloorDiv) (rI (fun _ j => j ≠ 0) fun i j => .int (i.fdiv j)) := by
  intro pins s σ H x y v u Q I rx ry h
  obtain ⟨i, j, rfl, rfl, hc, q⟩ := h
  obtain ⟨t, rfl⟩ := rx
  obtain ⟨t', rfl⟩ := ry
  obtain ⟨env, l, e, g1, g2, g3, g4⟩ := S.head
  refine floordiv_int hc ⟨.int _, H, I.tok _, ⟨_, rfl⟩, q⟩ (.inr (PylongRoom.of I.nolimit S.room (SeerAt.of (l := l) (S.seer.keeps I.bk) S.tree (by rw [I.ok.frames, e]) g1 g2 g3 g4)))
def CMulX (i j : Int) : Prop := i.natAbs.log2 + j.natAbs.log2 + 2 ≤ 134217728
theorem CMulX.ok {i j : Int} (h : CMulX i j) : IntMulOk i j := by
  have b : ∀ x : Int, Builtin.Int.intBits x ≤ x.natAbs.log2 + 1 := fun x => by
    unfold Builtin.Int.intBits
    split <;> omega
  have h1 := b i
  have h2 := b j
  have h3 : i.natAbs.log2 + j.natAbs.log2 + 2 ≤ 134217728 := h
  intro z
  rw [Bool.and_eq_true] at z
  have tooBig := z.2
  unfold Builtin.Int.intTooBig at tooBig
  have over := of_decide_eq_true tooBig
  have lineIs : bitsLine = 134217728 := by decide
  rw [lineIs] at over
  omega
/-- below 2 ^ 2 ^ 26 -/
def Low (i : Int) : Prop := i.natAbs < 2 ^ (2 ^ 26)
theorem low_mul {i j : Int} (h : Low i) (k : Low j) : CMulX i j := by
  have a := PySem.Flt.log2_lt_of (by decide) h
  have b := PySem.Flt.log2_lt_of (by decide) k
  have e : (2 : Nat) ^ 26 = 67108864 := by decide
  rw [e] at a b
  unfold CMulX
  omega
section
variable {X : Cx}
theorem op_mulX : OpR X (binaryOp .Mult) (rI CMulX fun i j => .int (i * j)) := opI fun _ _ _ _ _ _ _ hc q => mul_int q hc.ok
end

/-! ## what stands in the heap -/
theorem Same.tup {K : PySem.W.Frag} {H H' : Hp} {a : Addr} {xs : List V} (e : Same H H') (h : SqT K H a xs) : SqT K H' a xs := by
  rcases h with (h | ⟨o, h⟩) | h
  · exact .inl (.inl (e _ _ h))
  · exact .inl (.inr ⟨o, e _ _ h⟩)
  · exact .inr h
theorem Same.new {H : Hp} {p : Addr} {o : HO} (h : H p = none) : Same H (upd H p o) := fun b x e => by
  rw [upd_ne (ne_of_none e h)]
  exact e
theorem Same.mut {H H' : Hp} {p : Addr} {o : HO} (e : Same H H') (h : H p = none) : Same H (upd H' p o) := fun a u ha => by
  rw [upd_ne (ne_of_none ha h)]
  exact e a u ha
theorem SqT.new {K : PySem.W.Frag} {H : Hp} {a : Addr} {xs : List V} (h : H a = some (.tup xs)) : SqT K H a xs := .inl (.inl h)
theorem SqL.new {K : PySem.W.Frag} {H : Hp} {a : Addr} {xs : List V} (h : H a = some (.lst xs)) : SqL K H a xs := .inl (.inl h)
/-- a fraction -/
def Fr (K : PySem.W.Frag) (H : Hp) (a : Addr) (r : Rat) : Prop := SqT K H a [.int r.num, .int (r.den : Nat)]
theorem Fr.mono {K : PySem.W.Frag} {H H' : Hp} {a : Addr} {r : Rat} (h : Fr K H a r) (e : Same H H') : Fr K H' a r := Same.tup e h
abbrev Frs (K : PySem.W.Frag) (H : Hp) (as : List Addr) (p : List Rat) : Prop := Paired (Fr K H) as p
theorem Frs.mono {K : PySem.W.Frag} {H H' : Hp} {as : List Addr} {p : List Rat} (h : Frs K H as p) (e : Same H H') : Frs K H' as p := Paired.mapP h fun _ _ z => z.mono e
/-- a polynomial: a tuple of fractions -/
def Po (K : PySem.W.Frag) (H : Hp) (a : Addr) (p : List Rat) : Prop := ∃ as : List Addr, SqT K H a (as.map V.ref) ∧ Frs K H as p
theorem Po.mono {K : PySem.W.Frag} {H H' : Hp} {a : Addr} {p : List Rat} (h : Po K H a p) (e : Same H H') : Po K H' a p := let ⟨as, x, y⟩ := h; ⟨as, Same.tup e x, y.mono e⟩
/-- an interval -/
def Iv (K : PySem.W.Frag) (H : Hp) (a : Addr) (lo hi : Rat) : Prop := ∃ x y, SqT K H a [.ref x, .ref y] ∧ Fr K H x lo ∧ Fr K H y hi
theorem Iv.mono {K : PySem.W.Frag} {H H' : Hp} {a : Addr} {lo hi : Rat} (h : Iv K H a lo hi) (e : Same H H') : Iv K H' a lo hi := let ⟨x, y, p, q, r⟩ := h; ⟨x, y, Same.tup e p, q.mono e, r.mono e⟩
/-- a list of ints -/
def Zl (K : PySem.W.Frag) (H : Hp) (a : Addr) (l : List Int) : Prop := SqL K H a (l.map V.int)
theorem Zl.mono {K : PySem.W.Frag} {H H' : Hp} {a : Addr} {l : List Int} (h : Zl K H a l) (e : Same H H') : Zl K H' a l := Same.seq e h
/-- rows: a list of lists of ints -/
def Rws (K : PySem.W.Frag) (H : Hp) (a : Addr) (rs : List (List Int)) : Prop := ∃ as : List Addr, SqL K H a (as.map V.ref) ∧ Paired (Zl K H) as rs
theorem Rws.mono {K : PySem.W.Frag} {H H' : Hp} {a : Addr} {rs : List (List Int)} (h : Rws K H a rs) (e : Same H H') : Rws K H' a rs := let ⟨as, x, y⟩ := h; ⟨as, Same.seq e x, Paired.mapP y fun _ _ z => z.mono e⟩

/-! ## steps of readings -/
section
variable {K : PySem.W.Frag} {σ : L2.St} {H : Hp} {Q : VK} {i : Nat} {a : Addr} {r : Rat}
theorem tv {v : V} (h : σ[i]? = some (some v)) (k : Q v H) : tVar i σ H Q := ⟨v, h, k⟩
theorem fr_num (h : σ[i]? = some (some (.ref a))) (f : Fr K H a r) (k : Q (.int r.num) H) : tOp (rIxT K) (tVar i) (tC (.int 0)) σ H Q := ⟨_, h, a, _, 0, _, rfl, rfl, f, atI_nat (j := 0) rfl, k⟩
theorem fr_den (h : σ[i]? = some (some (.ref a))) (f : Fr K H a r) (k : Q (.int (r.den : Nat)) H) : tOp (rIxT K) (tVar i) (tC (.int 1)) σ H Q := ⟨_, h, a, _, 1, _, rfl, rfl, f, atI_nat (j := 1) rfl, k⟩
end
/-- the facts of the head that the defs share -/
structure Txt (P : Program) (K : PySem.W.Frag) (mg : Str → Option Value) (base : Heap) : Prop where
  seer : base.NoSeer
  tree : P.given.tree = none
  abs : mg "abs" = none
  len : mg "len" = none
  lst : mg "list" = none
  tup : mg "tuple" = none
  rev : mg "reversed" = none
  rng : mg "range" = none
  enu : mg "enumerate" = none
  zip : mg "zip" = none
  all : mg "all" = none
  isi : mg "isinstance" = none
  int : mg "int" = none
  bool : mg "bool" = none
  min : mg "min" = none
  zero : ∃ a, mg "ZERO" = some (.ref a) ∧ ∀ H, Fr K H a 0
  one : ∃ a, mg "ONE" = some (.ref a) ∧ ∀ H, Fr K H a 1
  less : ∃ t, mg "LESS" = some (.str "less" t)
  equal : ∃ t, mg "EQUAL" = some (.str "equal" t)
  greater : ∃ t, mg "GREATER" = some (.str "greater" t)
theorem seer_of {P : Program} {w : World} {K : PySem.W.Frag} {mg : Str → Option Value} {base : Heap} {N ps : List Str} {x : Str} {sc : Scope} {f : Addr} {cdv : Value} {A : Around} {outer : List Env} {s : Shared} {H : Hp} {E : XK} {k : Nat}
    (T : Txt P K mg base) (S : FnScope N ps sc) (hr : Room k (A.deeper (envOfC x sc s.heap.objs.size f cdv))) (hk : 32 ≤ k) : SeerX (cxOf CX0 P w K mg base N x sc f cdv A outer s H E).nox :=
  ⟨T.seer, T.tree, ⟨_, _, rfl, S.gen, S.co, rfl, rfl⟩, by
    have := hr.dp
    show (A.deeper (envOfC x sc s.heap.objs.size f cdv)).depth + 100 < recursionLimit
    omega⟩
end Bw

namespace Bw
open PySem PySem.Spec PyProof.Rows L2
abbrev s_divisor : Stmt := topS 3
theorem sc_divisor : FnScope ["a", "b"] ["a", "b"] (defScope s_divisor) := ⟨rfl, rfl, rfl, by decide +kernel, rfl, by decide +kernel, by decide +kernel⟩
theorem bi_divisor {K : PySem.W.Frag} {f : Addr} {fd : FuncData} (F : Fun K "divisor" "divisor" s_divisor f fd) : Binds K fd ["a", "b"] [] := F.binds (ps := ["a", "b"]) fun _ _ _ _ _ _ us hl => match us, hl with | [_, _], _ => rfl
abbrev s_fraction : Stmt := topS 4
theorem sc_fraction : FnScope ["top", "bottom", "common"] ["top", "bottom"] (defScope s_fraction) := ⟨rfl, rfl, rfl, by decide +kernel, rfl, by decide +kernel, by decide +kernel⟩
theorem bi_fraction {K : PySem.W.Frag} {f : Addr} {fd : FuncData} (F : Fun K "fraction" "fraction" s_fraction f fd) : Binds K fd ["top", "bottom"] [] := F.binds (ps := ["top", "bottom"]) fun _ _ _ _ _ _ us hl => match us, hl with | [_, _], _ => rfl
abbrev s_is_fraction : Stmt := topS 5
theorem sc_is_fraction : FnScope ["value", "part"] ["value"] (defScope s_is_fraction) := ⟨rfl, rfl, rfl, by decide +kernel, rfl, by decide +kernel, by decide +kernel⟩
theorem bi_is_fraction {K : PySem.W.Frag} {f : Addr} {fd : FuncData} (F : Fun K "is_fraction" "is_fraction" s_is_fraction f fd) : Binds K fd ["value"] [] := F.binds (ps := ["value"]) fun _ _ _ _ _ _ us hl => match us, hl with | [_], _ => rfl
abbrev s_plus : Stmt := topS 6
theorem sc_plus : FnScope ["a", "b"] ["a", "b"] (defScope s_plus) := ⟨rfl, rfl, rfl, by decide +kernel, rfl, by decide +kernel, by decide +kernel⟩
theorem bi_plus {K : PySem.W.Frag} {f : Addr} {fd : FuncData} (F : Fun K "plus" "plus" s_plus f fd) : Binds K fd ["a", "b"] [] := F.binds (ps := ["a", "b"]) fun _ _ _ _ _ _ us hl => match us, hl with | [_, _], _ => rfl
abbrev s_minus : Stmt := topS 7
theorem sc_minus : FnScope ["a", "b"] ["a", "b"] (defScope s_minus) := ⟨rfl, rfl, rfl, by decide +kernel, rfl, by decide +kernel, by decide +kernel⟩
theorem bi_minus {K : PySem.W.Frag} {f : Addr} {fd : FuncData} (F : Fun K "minus" "minus" s_minus f fd) : Binds K fd ["a", "b"] [] := F.binds (ps := ["a", "b"]) fun _ _ _ _ _ _ us hl => match us, hl with | [_, _], _ => rfl
abbrev s_times : Stmt := topS 8
theorem sc_times : FnScope ["a", "b"] ["a", "b"] (defScope s_times) := ⟨rfl, rfl, rfl, by decide +kernel, rfl, by decide +kernel, by decide +kernel⟩
theorem bi_times {K : PySem.W.Frag} {f : Addr} {fd : FuncData} (F : Fun K "times" "times" s_times f fd) : Binds K fd ["a", "b"] [] := F.binds (ps := ["a", "b"]) fun _ _ _ _ _ _ us hl => match us, hl with | [_, _], _ => rfl
abbrev s_over : Stmt := topS 9
theorem sc_over : FnScope ["a", "b"] ["a", "b"] (defScope s_over) := ⟨rfl, rfl, rfl, by decide +kernel, rfl, by decide +kernel, by decide +kernel⟩
theorem bi_over {K : PySem.W.Frag} {f : Addr} {fd : FuncData} (F : Fun K "over" "over" s_over f fd) : Binds K fd ["a", "b"] [] := F.binds (ps := ["a", "b"]) fun _ _ _ _ _ _ us hl => match us, hl with | [_, _], _ => rfl
abbrev s_is_less : Stmt := topS 10
theorem sc_is_less : FnScope ["a", "b"] ["a", "b"] (defScope s_is_less) := ⟨rfl, rfl, rfl, by decide +kernel, rfl, by decide +kernel, by decide +kernel⟩
theorem bi_is_less {K : PySem.W.Frag} {f : Addr} {fd : FuncData} (F : Fun K "is_less" "is_less" s_is_less f fd) : Binds K fd ["a", "b"] [] := F.binds (ps := ["a", "b"]) fun _ _ _ _ _ _ us hl => match us, hl with | [_, _], _ => rfl
abbrev s_negated : Stmt := topS 11
theorem sc_negated : FnScope ["a"] ["a"] (defScope s_negated) := ⟨rfl, rfl, rfl, by decide +kernel, rfl, by decide +kernel, by decide +kernel⟩
theorem bi_negated {K : PySem.W.Frag} {f : Addr} {fd : FuncData} (F : Fun K "negated" "negated" s_negated f fd) : Binds K fd ["a"] [] := F.binds (ps := ["a"]) fun _ _ _ _ _ _ us hl => match us, hl with | [_], _ => rfl
abbrev s_middle : Stmt := topS 12
theorem sc_middle : FnScope ["a", "b"] ["a", "b"] (defScope s_middle) := ⟨rfl, rfl, rfl, by decide +kernel, rfl, by decide +kernel, by decide +kernel⟩
theorem bi_middle {K : PySem.W.Frag} {f : Addr} {fd : FuncData} (F : Fun K "middle" "middle" s_middle f fd) : Binds K fd ["a", "b"] [] := F.binds (ps := ["a", "b"]) fun _ _ _ _ _ _ us hl => match us, hl with | [_, _], _ => rfl
abbrev s_trimmed : Stmt := topS 14
theorem sc_trimmed : FnScope ["some", "count"] ["some"] (defScope s_trimmed) := ⟨rfl, rfl, rfl, by decide +kernel, rfl, by decide +kernel, by decide +kernel⟩
theorem bi_trimmed {K : PySem.W.Frag} {f : Addr} {fd : FuncData} (F : Fun K "trimmed" "trimmed" s_trimmed f fd) : Binds K fd ["some"] [] := F.binds (ps := ["some"]) fun _ _ _ _ _ _ us hl => match us, hl with | [_], _ => rfl
abbrev s_value_at : Stmt := topS 15
theorem sc_value_at : FnScope ["p", "x", "found", "part"] ["p", "x"] (defScope s_value_at) := ⟨rfl, rfl, rfl, by decide +kernel, rfl, by decide +kernel, by decide +kernel⟩
theorem bi_value_at {K : PySem.W.Frag} {f : Addr} {fd : FuncData} (F : Fun K "value_at" "value_at" s_value_at f fd) : Binds K fd ["p", "x"] [] := F.binds (ps := ["p", "x"]) fun _ _ _ _ _ _ us hl => match us, hl with | [_, _], _ => rfl
abbrev s_scaled : Stmt := topS 16
theorem sc_scaled : FnScope ["p", "factor", "part"] ["p", "factor"] (defScope s_scaled) := ⟨rfl, rfl, rfl, by decide +kernel, rfl, by decide +kernel, by decide +kernel⟩
theorem bi_scaled {K : PySem.W.Frag} {f : Addr} {fd : FuncData} (F : Fun K "scaled" "scaled" s_scaled f fd) : Binds K fd ["p", "factor"] [] := F.binds (ps := ["p", "factor"]) fun _ _ _ _ _ _ us hl => match us, hl with | [_, _], _ => rfl
abbrev s_product_of : Stmt := topS 17
theorem sc_product_of : FnScope ["p", "q", "found", "power", "part", "other", "factor"] ["p", "q"] (defScope s_product_of) := ⟨rfl, rfl, rfl, by decide +kernel, rfl, by decide +kernel, by decide +kernel⟩
theorem bi_product_of {K : PySem.W.Frag} {f : Addr} {fd : FuncData} (F : Fun K "product_of" "product_of" s_product_of f fd) : Binds K fd ["p", "q"] [] := F.binds (ps := ["p", "q"]) fun _ _ _ _ _ _ us hl => match us, hl with | [_, _], _ => rfl
abbrev s_derivative : Stmt := topS 18
theorem sc_derivative : FnScope ["p", "power", "part"] ["p"] (defScope s_derivative) := ⟨rfl, rfl, rfl, by decide +kernel, rfl, by decide +kernel, by decide +kernel⟩
theorem bi_derivative {K : PySem.W.Frag} {f : Addr} {fd : FuncData} (F : Fun K "derivative" "derivative" s_derivative f fd) : Binds K fd ["p"] [] := F.binds (ps := ["p"]) fun _ _ _ _ _ _ us hl => match us, hl with | [_], _ => rfl
abbrev s_divided : Stmt := topS 19
theorem sc_divided : FnScope ["p", "q", "rest", "found", "factor", "shift", "power", "part"] ["p", "q"] (defScope s_divided) := ⟨rfl, rfl, rfl, by decide +kernel, rfl, by decide +kernel, by decide +kernel⟩
theorem bi_divided {K : PySem.W.Frag} {f : Addr} {fd : FuncData} (F : Fun K "divided" "divided" s_divided f fd) : Binds K fd ["p", "q"] [] := F.binds (ps := ["p", "q"]) fun _ _ _ _ _ _ us hl => match us, hl with | [_, _], _ => rfl
abbrev s_rest_of : Stmt := topS 20
theorem sc_rest_of : FnScope ["p", "q"] ["p", "q"] (defScope s_rest_of) := ⟨rfl, rfl, rfl, by decide +kernel, rfl, by decide +kernel, by decide +kernel⟩
theorem bi_rest_of {K : PySem.W.Frag} {f : Addr} {fd : FuncData} (F : Fun K "rest_of" "rest_of" s_rest_of f fd) : Binds K fd ["p", "q"] [] := F.binds (ps := ["p", "q"]) fun _ _ _ _ _ _ us hl => match us, hl with | [_, _], _ => rfl
abbrev s_common : Stmt := topS 21
theorem sc_common : FnScope ["p", "q"] ["p", "q"] (defScope s_common) := ⟨rfl, rfl, rfl, by decide +kernel, rfl, by decide +kernel, by decide +kernel⟩
theorem bi_common {K : PySem.W.Frag} {f : Addr} {fd : FuncData} (F : Fun K "common" "common" s_common f fd) : Binds K fd ["p", "q"] [] := F.binds (ps := ["p", "q"]) fun _ _ _ _ _ _ us hl => match us, hl with | [_, _], _ => rfl
abbrev s_whole_numbers : Stmt := topS 23
theorem sc_whole_numbers : FnScope ["p", "bottom", "part", "found"] ["p"] (defScope s_whole_numbers) := ⟨rfl, rfl, rfl, by decide +kernel, rfl, by decide +kernel, by decide +kernel⟩
theorem bi_whole_numbers {K : PySem.W.Frag} {f : Addr} {fd : FuncData} (F : Fun K "whole_numbers" "whole_numbers" s_whole_numbers f fd) : Binds K fd ["p"] [] := F.binds (ps := ["p"]) fun _ _ _ _ _ _ us hl => match us, hl with | [_], _ => rfl
abbrev s_lowered : Stmt := topS 24
theorem sc_lowered : FnScope ["numbers", "by", "number"] ["numbers"] (defScope s_lowered) := ⟨rfl, rfl, rfl, by decide +kernel, rfl, by decide +kernel, by decide +kernel⟩
theorem bi_lowered {K : PySem.W.Frag} {f : Addr} {fd : FuncData} (F : Fun K "lowered" "lowered" s_lowered f fd) : Binds K fd ["numbers"] [] := F.binds (ps := ["numbers"]) fun _ _ _ _ _ _ us hl => match us, hl with | [_], _ => rfl
abbrev s_turned_rest : Stmt := topS 25
theorem sc_turned_rest : FnScope ["p", "q", "rest", "factor", "shift", "scale", "number", "power", "part"] ["p", "q"] (defScope s_turned_rest) := ⟨rfl, rfl, rfl, by decide +kernel, rfl, by decide +kernel, by decide +kernel⟩
theorem bi_turned_rest {K : PySem.W.Frag} {f : Addr} {fd : FuncData} (F : Fun K "turned_rest" "turned_rest" s_turned_rest f fd) : Binds K fd ["p", "q"] [] := F.binds (ps := ["p", "q"]) fun _ _ _ _ _ _ us hl => match us, hl with | [_, _], _ => rfl
abbrev s_sturm_rows : Stmt := topS 26
theorem sc_sturm_rows : FnScope ["p", "slope", "plain", "rows", "rest"] ["p"] (defScope s_sturm_rows) := ⟨rfl, rfl, rfl, by decide +kernel, rfl, by decide +kernel, by decide +kernel⟩
theorem bi_sturm_rows {K : PySem.W.Frag} {f : Addr} {fd : FuncData} (F : Fun K "sturm_rows" "sturm_rows" s_sturm_rows f fd) : Binds K fd ["p"] [] := F.binds (ps := ["p"]) fun _ _ _ _ _ _ us hl => match us, hl with | [_], _ => rfl
abbrev s_sign_at : Stmt := topS 27
theorem sc_sign_at : FnScope ["row", "x", "found", "scale", "number"] ["row", "x"] (defScope s_sign_at) := ⟨rfl, rfl, rfl, by decide +kernel, rfl, by decide +kernel, by decide +kernel⟩
theorem bi_sign_at {K : PySem.W.Frag} {f : Addr} {fd : FuncData} (F : Fun K "sign_at" "sign_at" s_sign_at f fd) : Binds K fd ["row", "x"] [] := F.binds (ps := ["row", "x"]) fun _ _ _ _ _ _ us hl => match us, hl with | [_, _], _ => rfl
abbrev s_sign_changes : Stmt := topS 28
theorem sc_sign_changes : FnScope ["rows", "x", "signs", "row", "sign", "one", "other"] ["rows", "x"] (defScope s_sign_changes) := ⟨rfl, rfl, rfl, by decide +kernel, rfl, by decide +kernel, by decide +kernel⟩
theorem bi_sign_changes {K : PySem.W.Frag} {f : Addr} {fd : FuncData} (F : Fun K "sign_changes" "sign_changes" s_sign_changes f fd) : Binds K fd ["rows", "x"] [] := F.binds (ps := ["rows", "x"]) fun _ _ _ _ _ _ us hl => match us, hl with | [_, _], _ => rfl
abbrev s_count_by : Stmt := topS 29
theorem sc_count_by : FnScope ["rows", "interval"] ["rows", "interval"] (defScope s_count_by) := ⟨rfl, rfl, rfl, by decide +kernel, rfl, by decide +kernel, by decide +kernel⟩
theorem bi_count_by {K : PySem.W.Frag} {f : Addr} {fd : FuncData} (F : Fun K "count_by" "count_by" s_count_by f fd) : Binds K fd ["rows", "interval"] [] := F.binds (ps := ["rows", "interval"]) fun _ _ _ _ _ _ us hl => match us, hl with | [_, _], _ => rfl
abbrev s_count_roots : Stmt := topS 30
theorem sc_count_roots : FnScope ["p", "interval"] ["p", "interval"] (defScope s_count_roots) := ⟨rfl, rfl, rfl, by decide +kernel, rfl, by decide +kernel, by decide +kernel⟩
theorem bi_count_roots {K : PySem.W.Frag} {f : Addr} {fd : FuncData} (F : Fun K "count_roots" "count_roots" s_count_roots f fd) : Binds K fd ["p", "interval"] [] := F.binds (ps := ["p", "interval"]) fun _ _ _ _ _ _ us hl => match us, hl with | [_, _], _ => rfl
abbrev s_split_by : Stmt := topS 31
theorem sc_split_by : FnScope ["rows", "interval", "count", "low", "high", "half"] ["rows", "interval"] (defScope s_split_by) := ⟨rfl, rfl, rfl, by decide +kernel, rfl, by decide +kernel, by decide +kernel⟩
theorem bi_split_by {K : PySem.W.Frag} {f : Addr} {fd : FuncData} (F : Fun K "split_by" "split_by" s_split_by f fd) : Binds K fd ["rows", "interval"] [] := F.binds (ps := ["rows", "interval"]) fun _ _ _ _ _ _ us hl => match us, hl with | [_, _], _ => rfl
abbrev s_isolated : Stmt := topS 32
theorem sc_isolated : FnScope ["p", "interval"] ["p", "interval"] (defScope s_isolated) := ⟨rfl, rfl, rfl, by decide +kernel, rfl, by decide +kernel, by decide +kernel⟩
theorem bi_isolated {K : PySem.W.Frag} {f : Addr} {fd : FuncData} (F : Fun K "isolated" "isolated" s_isolated f fd) : Binds K fd ["p", "interval"] [] := F.binds (ps := ["p", "interval"]) fun _ _ _ _ _ _ us hl => match us, hl with | [_, _], _ => rfl
abbrev s_halved : Stmt := topS 33
theorem sc_halved : FnScope ["rows", "interval", "low", "high", "half"] ["rows", "interval"] (defScope s_halved) := ⟨rfl, rfl, rfl, by decide +kernel, rfl, by decide +kernel, by decide +kernel⟩
theorem bi_halved {K : PySem.W.Frag} {f : Addr} {fd : FuncData} (F : Fun K "halved" "halved" s_halved f fd) : Binds K fd ["rows", "interval"] [] := F.binds (ps := ["rows", "interval"]) fun _ _ _ _ _ _ us hl => match us, hl with | [_, _], _ => rfl
abbrev s_narrowed : Stmt := topS 34
theorem sc_narrowed : FnScope ["p", "interval", "width", "rows"] ["p", "interval", "width"] (defScope s_narrowed) := ⟨rfl, rfl, rfl, by decide +kernel, rfl, by decide +kernel, by decide +kernel⟩
theorem bi_narrowed {K : PySem.W.Frag} {f : Addr} {fd : FuncData} (F : Fun K "narrowed" "narrowed" s_narrowed f fd) : Binds K fd ["p", "interval", "width"] [] := F.binds (ps := ["p", "interval", "width"]) fun _ _ _ _ _ _ us hl => match us, hl with | [_, _, _], _ => rfl
abbrev s_is_interval : Stmt := topS 35
theorem sc_is_interval : FnScope ["value", "part"] ["value"] (defScope s_is_interval) := ⟨rfl, rfl, rfl, by decide +kernel, rfl, by decide +kernel, by decide +kernel⟩
theorem bi_is_interval {K : PySem.W.Frag} {f : Addr} {fd : FuncData} (F : Fun K "is_interval" "is_interval" s_is_interval f fd) : Binds K fd ["value"] [] := F.binds (ps := ["value"]) fun _ _ _ _ _ _ us hl => match us, hl with | [_], _ => rfl
abbrev s_is_isolated : Stmt := topS 36
theorem sc_is_isolated : FnScope ["p", "interval", "value", "one", "ends", "low", "high", "rows"] ["p", "interval", "value"] (defScope s_is_isolated) := ⟨rfl, rfl, rfl, by decide +kernel, rfl, by decide +kernel, by decide +kernel⟩
theorem bi_is_isolated {K : PySem.W.Frag} {f : Addr} {fd : FuncData} (F : Fun K "is_isolated" "is_isolated" s_is_isolated f fd) : Binds K fd ["p", "interval", "value"] [] := F.binds (ps := ["p", "interval", "value"]) fun _ _ _ _ _ _ us hl => match us, hl with | [_, _, _], _ => rfl
abbrev s_are_equal : Stmt := topS 41
theorem sc_are_equal : FnScope ["p", "one", "q", "other", "low", "high"] ["p", "one", "q", "other"] (defScope s_are_equal) := ⟨rfl, rfl, rfl, by decide +kernel, rfl, by decide +kernel, by decide +kernel⟩
theorem bi_are_equal {K : PySem.W.Frag} {f : Addr} {fd : FuncData} (F : Fun K "are_equal" "are_equal" s_are_equal f fd) : Binds K fd ["p", "one", "q", "other"] [] := F.binds (ps := ["p", "one", "q", "other"]) fun _ _ _ _ _ _ us hl => match us, hl with | [_, _, _, _], _ => rfl
abbrev s_parted : Stmt := topS 42
theorem sc_parted : FnScope ["p", "one", "q", "other", "rows", "beside"] ["p", "one", "q", "other"] (defScope s_parted) := ⟨rfl, rfl, rfl, by decide +kernel, rfl, by decide +kernel, by decide +kernel⟩
theorem bi_parted {K : PySem.W.Frag} {f : Addr} {fd : FuncData} (F : Fun K "parted" "parted" s_parted f fd) : Binds K fd ["p", "one", "q", "other"] [] := F.binds (ps := ["p", "one", "q", "other"]) fun _ _ _ _ _ _ us hl => match us, hl with | [_, _, _, _], _ => rfl
abbrev s_compared : Stmt := topS 43
theorem sc_compared : FnScope ["p", "one", "q", "other"] ["p", "one", "q", "other"] (defScope s_compared) := ⟨rfl, rfl, rfl, by decide +kernel, rfl, by decide +kernel, by decide +kernel⟩
theorem bi_compared {K : PySem.W.Frag} {f : Addr} {fd : FuncData} (F : Fun K "compared" "compared" s_compared f fd) : Binds K fd ["p", "one", "q", "other"] [] := F.binds (ps := ["p", "one", "q", "other"]) fun _ _ _ _ _ _ us hl => match us, hl with | [_, _, _, _], _ => rfl
abbrev s_find_between : Stmt := topS 44
theorem sc_find_between : FnScope ["p", "one", "q", "other"] ["p", "one", "q", "other"] (defScope s_find_between) := ⟨rfl, rfl, rfl, by decide +kernel, rfl, by decide +kernel, by decide +kernel⟩
theorem bi_find_between {K : PySem.W.Frag} {f : Addr} {fd : FuncData} (F : Fun K "find_between" "find_between" s_find_between f fd) : Binds K fd ["p", "one", "q", "other"] [] := F.binds (ps := ["p", "one", "q", "other"]) fun _ _ _ _ _ _ us hl => match us, hl with | [_, _, _, _], _ => rfl
abbrev s_changes : Stmt := topS 46
theorem sc_changes : FnScope ["p", "some", "part", "one", "other"] ["p"] (defScope s_changes) := ⟨rfl, rfl, rfl, by decide +kernel, rfl, by decide +kernel, by decide +kernel⟩
theorem bi_changes {K : PySem.W.Frag} {f : Addr} {fd : FuncData} (F : Fun K "changes" "changes" s_changes f fd) : Binds K fd ["p"] [] := F.binds (ps := ["p"]) fun _ _ _ _ _ _ us hl => match us, hl with | [_], _ => rfl
abbrev s_law_open : Stmt := topS 48
theorem sc_law_open : FnScope ["_law_script", "_law_cells", "_law_k", "_law_cell"] ["_law_script"] (defScope s_law_open) := ⟨rfl, rfl, rfl, by decide +kernel, rfl, by decide +kernel, by decide +kernel⟩
theorem bi_law_open {K : PySem.W.Frag} {f : Addr} {fd : FuncData} (F : Fun K "_law_open" "_law_open" s_law_open f fd) : Binds K fd ["_law_script"] [] := F.binds (ps := ["_law_script"]) fun _ _ _ _ _ _ us hl => match us, hl with | [_], _ => rfl
abbrev s_law_spread : Stmt := topS 49
theorem sc_law_spread : FnScope ["_law_cell", "_law_at", "_law_primes", "_law_one", "_law_two", "_law_three"] ["_law_cell", "_law_at"] (defScope s_law_spread) := ⟨rfl, rfl, rfl, by decide +kernel, rfl, by decide +kernel, by decide +kernel⟩
theorem bi_law_spread {K : PySem.W.Frag} {f : Addr} {fd : FuncData} (F : Fun K "_law_spread" "_law_spread" s_law_spread f fd) : Binds K fd ["_law_cell", "_law_at"] [] := F.binds (ps := ["_law_cell", "_law_at"]) fun _ _ _ _ _ _ us hl => match us, hl with | [_, _], _ => rfl
abbrev s_law_take : Stmt := topS 50
theorem sc_law_take : FnScope ["_law_pen", "_law_amount", "_law_at", "_law_cell", "_law_found"] ["_law_pen", "_law_amount"] (defScope s_law_take) := ⟨rfl, rfl, rfl, by decide +kernel, rfl, by decide +kernel, by decide +kernel⟩
theorem bi_law_take {K : PySem.W.Frag} {f : Addr} {fd : FuncData} (F : Fun K "_law_take" "_law_take" s_law_take f fd) : Binds K fd ["_law_pen", "_law_amount"] [] := F.binds (ps := ["_law_pen", "_law_amount"]) fun _ _ _ _ _ _ us hl => match us, hl with | [_, _], _ => rfl
abbrev s_law_one_of : Stmt := topS 51
theorem sc_law_one_of : FnScope ["_law_pen", "_law_some"] ["_law_pen", "_law_some"] (defScope s_law_one_of) := ⟨rfl, rfl, rfl, by decide +kernel, rfl, by decide +kernel, by decide +kernel⟩
theorem bi_law_one_of {K : PySem.W.Frag} {f : Addr} {fd : FuncData} (F : Fun K "_law_one_of" "_law_one_of" s_law_one_of f fd) : Binds K fd ["_law_pen", "_law_some"] [] := F.binds (ps := ["_law_pen", "_law_some"]) fun _ _ _ _ _ _ us hl => match us, hl with | [_, _], _ => rfl
abbrev s_law_gcd : Stmt := topS 52
theorem sc_law_gcd : FnScope ["_law_a", "_law_b"] ["_law_a", "_law_b"] (defScope s_law_gcd) := ⟨rfl, rfl, rfl, by decide +kernel, rfl, by decide +kernel, by decide +kernel⟩
theorem bi_law_gcd {K : PySem.W.Frag} {f : Addr} {fd : FuncData} (F : Fun K "_law_gcd" "_law_gcd" s_law_gcd f fd) : Binds K fd ["_law_a", "_law_b"] [] := F.binds (ps := ["_law_a", "_law_b"]) fun _ _ _ _ _ _ us hl => match us, hl with | [_, _], _ => rfl
abbrev s_law_fraction : Stmt := topS 53
theorem sc_law_fraction : FnScope ["_law_top", "_law_bottom", "_law_by_all"] ["_law_top", "_law_bottom"] (defScope s_law_fraction) := ⟨rfl, rfl, rfl, by decide +kernel, rfl, by decide +kernel, by decide +kernel⟩
theorem bi_law_fraction {K : PySem.W.Frag} {f : Addr} {fd : FuncData} (F : Fun K "_law_fraction" "_law_fraction" s_law_fraction f fd) : Binds K fd ["_law_top", "_law_bottom"] [] := F.binds (ps := ["_law_top", "_law_bottom"]) fun _ _ _ _ _ _ us hl => match us, hl with | [_, _], _ => rfl
abbrev s_law_plus : Stmt := topS 54
theorem sc_law_plus : FnScope ["_law_a", "_law_b"] ["_law_a", "_law_b"] (defScope s_law_plus) := ⟨rfl, rfl, rfl, by decide +kernel, rfl, by decide +kernel, by decide +kernel⟩
theorem bi_law_plus {K : PySem.W.Frag} {f : Addr} {fd : FuncData} (F : Fun K "_law_plus" "_law_plus" s_law_plus f fd) : Binds K fd ["_law_a", "_law_b"] [] := F.binds (ps := ["_law_a", "_law_b"]) fun _ _ _ _ _ _ us hl => match us, hl with | [_, _], _ => rfl
abbrev s_law_minus : Stmt := topS 55
theorem sc_law_minus : FnScope ["_law_a", "_law_b"] ["_law_a", "_law_b"] (defScope s_law_minus) := ⟨rfl, rfl, rfl, by decide +kernel, rfl, by decide +kernel, by decide +kernel⟩
theorem bi_law_minus {K : PySem.W.Frag} {f : Addr} {fd : FuncData} (F : Fun K "_law_minus" "_law_minus" s_law_minus f fd) : Binds K fd ["_law_a", "_law_b"] [] := F.binds (ps := ["_law_a", "_law_b"]) fun _ _ _ _ _ _ us hl => match us, hl with | [_, _], _ => rfl
abbrev s_law_times : Stmt := topS 56
theorem sc_law_times : FnScope ["_law_a", "_law_b"] ["_law_a", "_law_b"] (defScope s_law_times) := ⟨rfl, rfl, rfl, by decide +kernel, rfl, by decide +kernel, by decide +kernel⟩
theorem bi_law_times {K : PySem.W.Frag} {f : Addr} {fd : FuncData} (F : Fun K "_law_times" "_law_times" s_law_times f fd) : Binds K fd ["_law_a", "_law_b"] [] := F.binds (ps := ["_law_a", "_law_b"]) fun _ _ _ _ _ _ us hl => match us, hl with | [_, _], _ => rfl
abbrev s_law_over : Stmt := topS 57
theorem sc_law_over : FnScope ["_law_a", "_law_b"] ["_law_a", "_law_b"] (defScope s_law_over) := ⟨rfl, rfl, rfl, by decide +kernel, rfl, by decide +kernel, by decide +kernel⟩
theorem bi_law_over {K : PySem.W.Frag} {f : Addr} {fd : FuncData} (F : Fun K "_law_over" "_law_over" s_law_over f fd) : Binds K fd ["_law_a", "_law_b"] [] := F.binds (ps := ["_law_a", "_law_b"]) fun _ _ _ _ _ _ us hl => match us, hl with | [_, _], _ => rfl
abbrev s_law_is_less : Stmt := topS 58
theorem sc_law_is_less : FnScope ["_law_a", "_law_b"] ["_law_a", "_law_b"] (defScope s_law_is_less) := ⟨rfl, rfl, rfl, by decide +kernel, rfl, by decide +kernel, by decide +kernel⟩
theorem bi_law_is_less {K : PySem.W.Frag} {f : Addr} {fd : FuncData} (F : Fun K "_law_is_less" "_law_is_less" s_law_is_less f fd) : Binds K fd ["_law_a", "_law_b"] [] := F.binds (ps := ["_law_a", "_law_b"]) fun _ _ _ _ _ _ us hl => match us, hl with | [_, _], _ => rfl
abbrev s_law_draw_fraction : Stmt := topS 59
theorem sc_law_draw_fraction : FnScope ["_law_pen", "_law_bottom", "_law_top"] ["_law_pen"] (defScope s_law_draw_fraction) := ⟨rfl, rfl, rfl, by decide +kernel, rfl, by decide +kernel, by decide +kernel⟩
theorem bi_law_draw_fraction {K : PySem.W.Frag} {f : Addr} {fd : FuncData} (F : Fun K "_law_draw_fraction" "_law_draw_fraction" s_law_draw_fraction f fd) : Binds K fd ["_law_pen"] [] := F.binds (ps := ["_law_pen"]) fun _ _ _ _ _ _ us hl => match us, hl with | [_], _ => rfl
abbrev s_law_draw_small : Stmt := topS 60
theorem sc_law_draw_small : FnScope ["_law_pen", "_law_bottom"] ["_law_pen"] (defScope s_law_draw_small) := ⟨rfl, rfl, rfl, by decide +kernel, rfl, by decide +kernel, by decide +kernel⟩
theorem bi_law_draw_small {K : PySem.W.Frag} {f : Addr} {fd : FuncData} (F : Fun K "_law_draw_small" "_law_draw_small" s_law_draw_small f fd) : Binds K fd ["_law_pen"] [] := F.binds (ps := ["_law_pen"]) fun _ _ _ _ _ _ us hl => match us, hl with | [_], _ => rfl
abbrev s_law_trimmed : Stmt := topS 61
theorem sc_law_trimmed : FnScope ["_law_some", "_law_found"] ["_law_some"] (defScope s_law_trimmed) := ⟨rfl, rfl, rfl, by decide +kernel, rfl, by decide +kernel, by decide +kernel⟩
theorem bi_law_trimmed {K : PySem.W.Frag} {f : Addr} {fd : FuncData} (F : Fun K "_law_trimmed" "_law_trimmed" s_law_trimmed f fd) : Binds K fd ["_law_some"] [] := F.binds (ps := ["_law_some"]) fun _ _ _ _ _ _ us hl => match us, hl with | [_], _ => rfl
abbrev s_law_draw_end : Stmt := topS 62
theorem sc_law_draw_end : FnScope ["_law_pen", "_law_roots", "_law_some", "_law_root", "_law_near"] ["_law_pen", "_law_roots"] (defScope s_law_draw_end) := ⟨rfl, rfl, rfl, by decide +kernel, rfl, by decide +kernel, by decide +kernel⟩
theorem bi_law_draw_end {K : PySem.W.Frag} {f : Addr} {fd : FuncData} (F : Fun K "_law_draw_end" "_law_draw_end" s_law_draw_end f fd) : Binds K fd ["_law_pen", "_law_roots"] [] := F.binds (ps := ["_law_pen", "_law_roots"]) fun _ _ _ _ _ _ us hl => match us, hl with | [_, _], _ => rfl
abbrev s_law_draw_interval : Stmt := topS 63
theorem sc_law_draw_interval : FnScope ["_law_pen", "_law_roots", "_law_low", "_law_high"] ["_law_pen", "_law_roots"] (defScope s_law_draw_interval) := ⟨rfl, rfl, rfl, by decide +kernel, rfl, by decide +kernel, by decide +kernel⟩
theorem bi_law_draw_interval {K : PySem.W.Frag} {f : Addr} {fd : FuncData} (F : Fun K "_law_draw_interval" "_law_draw_interval" s_law_draw_interval f fd) : Binds K fd ["_law_pen", "_law_roots"] [] := F.binds (ps := ["_law_pen", "_law_roots"]) fun _ _ _ _ _ _ us hl => match us, hl with | [_, _], _ => rfl
abbrev s_law_draw_plain : Stmt := topS 64
theorem sc_law_draw_plain : FnScope ["_law_pen", "_law_most", "_law_found", "_law_k"] ["_law_pen", "_law_most"] (defScope s_law_draw_plain) := ⟨rfl, rfl, rfl, by decide +kernel, rfl, by decide +kernel, by decide +kernel⟩
theorem bi_law_draw_plain {K : PySem.W.Frag} {f : Addr} {fd : FuncData} (F : Fun K "_law_draw_plain" "_law_draw_plain" s_law_draw_plain f fd) : Binds K fd ["_law_pen", "_law_most"] [] := F.binds (ps := ["_law_pen", "_law_most"]) fun _ _ _ _ _ _ us hl => match us, hl with | [_, _], _ => rfl
abbrev s_law_signs_right : Stmt := topS 65
theorem sc_law_signs_right : FnScope ["_law_p", "_law_low", "_law_high", "_law_step", "_law_heights", "_law_k", "_law_signs", "_law_one"] ["_law_p", "_law_low", "_law_high"] (defScope s_law_signs_right) := ⟨rfl, rfl, rfl, by decide +kernel, rfl, by decide +kernel, by decide +kernel⟩
theorem bi_law_signs_right {K : PySem.W.Frag} {f : Addr} {fd : FuncData} (F : Fun K "_law_signs_right" "_law_signs_right" s_law_signs_right f fd) : Binds K fd ["_law_p", "_law_low", "_law_high"] [] := F.binds (ps := ["_law_p", "_law_low", "_law_high"]) fun _ _ _ _ _ _ us hl => match us, hl with | [_, _, _], _ => rfl
abbrev s_law_neighbours_right : Stmt := topS 66
theorem sc_law_neighbours_right : FnScope ["_law_p", "_law_some", "_law_near", "_law_one", "_law_k", "_law_between", "_law_other"] ["_law_p", "_law_some"] (defScope s_law_neighbours_right) := ⟨rfl, rfl, rfl, by decide +kernel, rfl, by decide +kernel, by decide +kernel⟩
theorem bi_law_neighbours_right {K : PySem.W.Frag} {f : Addr} {fd : FuncData} (F : Fun K "_law_neighbours_right" "_law_neighbours_right" s_law_neighbours_right f fd) : Binds K fd ["_law_p", "_law_some"] [] := F.binds (ps := ["_law_p", "_law_some"]) fun _ _ _ _ _ _ us hl => match us, hl with | [_, _], _ => rfl
abbrev s_law : Stmt := topS 67
theorem sc_law : FnScope ["_law_script", "_law_pen", "_law_turn", "_law_p", "_law_q", "_law_low", "_law_high", "_law_cut", "_law_many", "_law_both", "_law_whole", "_law_some"] ["_law_script"] (defScope s_law) := ⟨rfl, rfl, rfl, by decide +kernel, rfl, by decide +kernel, by decide +kernel⟩
theorem bi_law {K : PySem.W.Frag} {f : Addr} {fd : FuncData} (F : Fun K "law" "law" s_law f fd) : Binds K fd ["_law_script"] [] := F.binds (ps := ["_law_script"]) fun _ _ _ _ _ _ us hl => match us, hl with | [_], _ => rfl
end Bw

/-! ## enumerate(a tuple); zip(two lists, strict=False) -/
namespace Bz
open PySem
open PySem.Sem (wp)
theorem type_zip_strict (a b c : Value) : checkTypeCall "zip" ⟨[a, b], [(Str.ofString "strict", c)]⟩ = pure () := by kernel_rfl
theorem new_zip_strict (a b c : Value) : checkBuiltinCall "zip.__new__" ⟨[.type "zip", a, b], [(Str.ofString "strict", c)]⟩ = pure () := by kernel_rfl
theorem init_zip_strict (obj a b c : Value) : argsOk "object.__init__" ⟨[obj, a, b], [(Str.ofString "strict", c)]⟩ := by unfold argsOk; kernel_rfl
set_option maxHeartbeats 1000000 in
theorem zip_strict_new (u v : Addr) (xs ys : Array Value) :
    Meets (Builtin.«zip.__new__» ⟨[.type "zip", .ref u, .ref v], [(Str.ofString "strict", .bool false)]⟩) (fun _ R s => s.heap.IsList u xs ∧ s.heap.IsList v ys ∧
      R (.ok (.ret (.ref (zipH4 s.heap u v).objs.size))) { s with heap := zipH5 s.heap u v }) :=
  .of_wp fun prog w A R s h => by
    obtain ⟨hp, g, d, tk, os⟩ := s
    obtain ⟨hu, hv, h⟩ := h
    have zs := sub_zip
    have k1 : (Str.ofString "strict" != ("strict" : Str)) = false := by decide +kernel
    have k2 : (Str.ofString "strict" == ("strict" : Str)) = true := by decide +kernel
    have HU : Heap.IsList (Shared.heap ⟨hp, g, d, tk, os⟩) u xs := hu
    have HV : Heap.IsList (Shared.heap ⟨zipH1 hp u, g, d, tk, os⟩) v ys := Heap.IsList.push hv _
    wp_walk using wpAny_pyIter_list HU, wpAny_pyIter_list HV
    exact ⟨_, rfl, h⟩
abbrev tupIt (t : Addr) : Obj := { cls := .type "tuple_iterator", data := .fields #[.ref t, .int 0 0] }
abbrev enumOf (it : Addr) : Obj := { cls := .type "enumerate", data := .fields #[.none, .bool false, .ref it, rawInt 0, .none, .none] }
set_option maxHeartbeats 1000000 in
theorem enum_tup_new (t : Addr) (items : Array Value) :
    Meets (Builtin.«enumerate.__new__» ⟨[.type "enumerate", .ref t], []⟩) (fun _ R s => s.heap.IsTuple t items ∧ R (.ok (.ret (.ref (s.heap.push (tupIt t)).objs.size))) { s with heap := (s.heap.push (tupIt t)).push (enumOf s.heap.objs.size) }) :=
  .of_wp fun prog w A R s h => by
    obtain ⟨hp, g, d, tk, os⟩ := s
    obtain ⟨h1, h⟩ := h
    have es := sub_enumerate
    have it : ∀ {A' : Around} {E : Value → Shared → Prop} {Q : Value → Shared → Prop}, Q (.ref hp.objs.size) ⟨hp.push (tupIt t), g, d, tk, os⟩ → wpAny (model prog w) A' (pyIter (.ref t)) Q E ⟨hp, g, d, tk, os⟩ :=
      fun q => (begins_tuple t items).iter prog w _ _ ⟨hp, g, d, tk, os⟩ _ h1 q
    wp_walk using it
    refine wpAny_stack_any fun st => wpAny_pure ?_
    split
    · rename_i c _ _ _ _ _
      cases (c == Value.type "enumerate")
      all_goals
        wp_walk using it
        exact ⟨_, rfl, h⟩
    · wp_walk using it
      exact ⟨_, rfl, h⟩
section
variable {prog : Program} {w : World} {A : Around} {E : Value → Shared → Prop} {s : Shared}
theorem call_zip_strict {u v : Addr} {xs ys : Array Value} {Q : Value → Shared → Prop} (hu : s.heap.IsList u xs) (hv : s.heap.IsList v ys)
    (h : ∀ h', IsZip h' (s.heap.objs.size + 4) (s.heap.objs.size + 2) (s.heap.objs.size + 3) .none → IsPair h' (s.heap.objs.size + 2) (.ref s.heap.objs.size) (.ref (s.heap.objs.size + 1)) → IsPair h' (s.heap.objs.size + 3) .none .none →
      h'.IsListIter s.heap.objs.size u 0 → h'.IsListIter (s.heap.objs.size + 1) v 0 → (∀ c o, s.heap.get? c = some o → h'.get? c = some o) → Q (.ref (s.heap.objs.size + 4)) { s with heap := h' }) :
    wpAny (model prog w) A (call (.type "zip") [.ref u, .ref v] [(Str.ofString "strict", .bool false)]) Q E s := by
  refine callType_newKw F.called_zip (by decide) (type_zip_strict _ _ _) (new_zip_strict _ _ _) (fun obj => init_zip_strict obj _ _ _) F.entry_zip_new (zip_strict_new u v xs ys) ⟨hu, hv, ?_⟩
  have n1 : (zipH1 s.heap u).objs.size = s.heap.objs.size + 1 := by rw [Heap.size_push]
  have n2 : (zipH2 s.heap u v).objs.size = s.heap.objs.size + 2 := by rw [Heap.size_push, n1]
  have n3 : (zipH3 s.heap u v).objs.size = s.heap.objs.size + 3 := by rw [Heap.size_push, n2]
  have n4 : (zipH4 s.heap u v).objs.size = s.heap.objs.size + 4 := by rw [Heap.size_push, n3]
  have a5 : (zipH5 s.heap u v).get? (zipH4 s.heap u v).objs.size = some _ := Heap.get?_push_size (zipH4 s.heap u v) rfl
  have a4 : (zipH5 s.heap u v).get? (zipH3 s.heap u v).objs.size = some _ := Heap.get?_push_of_some _ (Heap.get?_push_size (zipH3 s.heap u v) rfl)
  have a3 : (zipH5 s.heap u v).get? (zipH2 s.heap u v).objs.size = some _ := Heap.get?_push_of_some _ (Heap.get?_push_of_some _ (Heap.get?_push_size (zipH2 s.heap u v) rfl))
  have a2 : (zipH5 s.heap u v).get? (zipH1 s.heap u).objs.size = some _ := Heap.get?_push_of_some _ (Heap.get?_push_of_some _ (Heap.get?_push_of_some _ (Heap.get?_push_size (zipH1 s.heap u) rfl)))
  have a1 : (zipH5 s.heap u v).get? s.heap.objs.size = some _ := Heap.get?_push_of_some _ (Heap.get?_push_of_some _ (Heap.get?_push_of_some _ (Heap.get?_push_of_some _ (Heap.get?_push_size s.heap rfl))))
  rw [n2, n3, n4] at a5
  rw [n1, n2] at a3
  rw [n3] at a4
  rw [n1] at a2
  have all : ∀ c o, s.heap.get? c = some o → (zipH5 s.heap u v).get? c = some o := fun c o x =>
    Heap.get?_push_of_some _ (Heap.get?_push_of_some _ (Heap.get?_push_of_some _ (Heap.get?_push_of_some _ (Heap.get?_push_of_some _ x))))
  show _ ∧ _
  rw [n4]
  exact ⟨⟨_, a5, rfl⟩, h _ a5 a3 a4 ⟨_, a1, rfl, rfl⟩ ⟨_, a2, rfl, rfl⟩ all⟩
theorem call_enum_tup {t : Addr} {items : Array Value} {Q : Value → Shared → Prop} (ht : s.heap.IsTuple t items)
    (h : ∀ h', IsEnum h' (s.heap.objs.size + 1) s.heap.objs.size 0 .none → h'.IsTupleIter s.heap.objs.size t 0 →
      (∀ b o, s.heap.get? b = some o → h'.get? b = some o) → Q (.ref (s.heap.objs.size + 1)) { s with heap := h' }) :
    wpAny (model prog w) A (call (.type "enumerate") [.ref t]) Q E s := by
  refine callType_new F.called_enumerate (by decide) (F.typeCall_enumerate_1 _) (F.newCall_enumerate_1 _) (fun obj => F.args_object_init_2 obj _) F.entry_enumerate_new (enum_tup_new t items) ⟨ht, ?_⟩
  have n1 : (s.heap.push (tupIt t)).objs.size = s.heap.objs.size + 1 := by rw [Heap.size_push]
  have a2 : ((s.heap.push (tupIt t)).push (enumOf s.heap.objs.size)).get? (s.heap.push (tupIt t)).objs.size = some (enumOf s.heap.objs.size) := Heap.get?_push_size (s.heap.push (tupIt t)) rfl
  rw [n1] at a2
  show _ ∧ _
  rw [n1]
  exact ⟨⟨_, a2, rfl⟩, h _ a2 ⟨_, Heap.get?_push_of_some _ (Heap.get?_push_size s.heap rfl), rfl, rfl⟩ fun b o x => Heap.get?_push_of_some _ (Heap.get?_push_of_some _ x)⟩
end
end Bz
namespace Bz
open PySem PySem.Spec PyProof.Rows L2
/-- the tuple at a as it stands at each turn, each item with its place in a new pair -/
def Itet (K : PySem.W.Frag) (a : Addr) : It :=
  ⟨fun i H => ∃ (xs : List V) (x : V), SqT K H a xs ∧ xs[i]? = some x, fun i H v H' => ∃ T x, v = .ref T ∧ H T = none ∧ H' = upd H T (.tup [.int (i : Nat), x]) ∧ ∀ xs, SqT K H a xs → xs[i]? = some x,
    fun i H => ∃ xs : List V, SqT K H a xs ∧ xs.length = i⟩
theorem turn_et {P : Program} {w : World} {K : PySem.W.Frag} {elts : List Expr} {kk : Nat} {tpos : Pos} (a e it : Addr) :
    Turn P w K (.Tuple elts kk tpos) (Itet K a) [e, it] e (fun i h => (∃ old, IsEnum h e it ((i : Nat) : Int) old) ∧ h.IsTupleIter it a i ∧ e ≠ it ∧ e ≠ a ∧ a ≠ it) where
  mem := by simp
  obj := by
    rintro i h ⟨⟨old, he⟩, ⟨o, ho, hc, hd⟩, _⟩ b hb
    rcases (by simpa using hb : b = e ∨ b = it) with z | z
    · rw [z]
      exact ⟨_, he, fun v q => nomatch q⟩
    · rw [z]
      exact ⟨o, ho, fun v q => by rw [hd] at q; cases q⟩
  keep := by
    rintro i h h' ⟨⟨old, he⟩, hi, hne⟩ k
    exact ⟨⟨old, k e (by simp) _ he⟩, hi.at fun o q => k it (by simp) o q, hne⟩
  item := by
    intro X hP hw hK hc i pins s σ H E I hf st hg
    subst hP hw hK
    obtain ⟨⟨old, he⟩, hit, hne, hea, hai⟩ := st
    obtain ⟨xs, x, hq, hx⟩ := hg
    obtain ⟨its, rv, p, hz⟩ := I.tuple hq
    obtain ⟨u, hu, ru⟩ := rv.get hx
    have hu2 : its.toArray[i]? = some u := by simpa using hu
    have hlt : i < its.toArray.size := by
      rcases Nat.lt_or_ge i its.toArray.size with z | z
      · exact z
      · rw [Array.getElem?_eq_none z] at hu2; cases hu2
    have le : e < s.heap.objs.size := Heap.lt_size he
    have li : it < s.heap.objs.size := by obtain ⟨_, q, _⟩ := hit; exact Heap.lt_size q
    refine wpAny_pyNext_enum_itemD (Draws.tuple (prog := X.prog) (w := X.w) (A := X.A.in1) (show X.A.in1.handled = none from I.ok.hd hc) it a hai its.toArray) he ⟨hit, p⟩ hlt hne (by simp [hne, hea]) fun y h' tk hy ho hst hT hsz hk => ?_
    obtain rfl : u = y := Option.some.inj (hu2.symm.trans hy)
    refine ⟨_, rfl, wpAny_letOwnedTupleGo_enum (s := { s with heap := h', toks := tk + 1 }) ho fun h'' he' sb => ?_⟩
    have T2 : h''.get? s.heap.objs.size = some { cls := .type "tuple", data := .seq #[.int i tk, u] } := (sb.2 _ (Nat.ne_of_gt le)).trans hT
    have new : ObjOk X.prog X.w (upd H s.heap.objs.size (.tup [.int (i : Nat), x])) h'' s.heap.objs.size (.tup [.int (i : Nat), x]) :=
      ⟨by show 2 ≤ sizeLine; decide, [.int i tk, u], .cons ⟨_, rfl⟩ (.cons ru .nil), ⟨_, T2, rfl, _, rfl⟩⟩
    have J : Inv X pins σ (upd H s.heap.objs.size (.tup [.int (i : Nat), x])) { s with heap := h'', toks := tk + 1 } :=
      I.turnedNew (t' := tk + 1) (ch := [e, it]) (fun b ob hb q => (sb.2 b (fun z => hb (by simp [z]))).trans (hk b ob (fun z => hb (by simp [z])) (fun z => hb (by simp [z])) q)) hf (Nat.le_refl _) new
    refine ⟨.ref s.heap.objs.size, _, J, rfl, ⟨_, x, rfl, I.hok.fresh (Nat.le_refl _), rfl, fun ys hy => by rw [I.tuple_inj hy hq]; exact hx⟩, ⟨⟨u, ?_⟩, hst.1.at fun o q => (sb.2 it (Ne.symm hne)).trans q, hne, hea, hai⟩, fun b hb => ?_⟩
    · rw [show ((i + 1 : Nat) : Int) = (i : Int) + 1 by omega]
      exact he'
    · have lb : b < s.heap.objs.size := by
        rcases (by simpa using hb : b = e ∨ b = it) with z | z
        · rw [z]; exact le
        · rw [z]; exact li
      rw [upd_ne (Nat.ne_of_lt lb)]
      exact (hf b hb).1
  done := by
    intro X hP hw hK hc i pins s σ H E I hf st hg
    subst hP hw hK
    obtain ⟨⟨old, he⟩, hit, hne, hea, hai⟩ := st
    obtain ⟨xs, hq, hx⟩ := hg
    obtain ⟨its, rv, p, hz⟩ := I.tuple hq
    obtain ⟨f0, f1, f2, f3, f4, f5⟩ := hf it (by simp)
    have hl := rv.length
    subst hx
    have hn : its.toArray.size = xs.length := by simp; omega
    refine wpAny_pyNext_enum_endD (Draws.tuple (prog := X.prog) (w := X.w) (A := X.A.in1) (show X.A.in1.handled = none from I.ok.hd hc) it a hai its.toArray) he ⟨?_, p⟩ fun h' eb => ⟨rfl, I.turned (t' := s.toks) (fun b o hb e => eb b o hb e) f0 f1 f3 f4 f5⟩
    rw [hn]
    exact hit
  self := fun A i s Q E st h => let ⟨⟨_, he⟩, _⟩ := st; wpAny_pyIter_enum he h

theorem walk_et {K : PySem.W.Frag} {a : Addr} {xs : List V} : Walk (Itet K a) xs.length (fun H => SqT K H a xs) (YPair (fun i => some (.int (i : Nat))) (fun i => xs[i]?)) := by
  refine ⟨fun i _ hi q => ⟨xs, xs[i], q, by simp [hi]⟩, fun _ q => ⟨xs, q, rfl⟩, fun i H v H' _ q y => ?_⟩
  obtain ⟨T, x, h1, h2, h3, h4⟩ := y
  exact ⟨T, .int (i : Nat), x, h1, h2, h3, rfl, h4 xs q⟩
def iEnumT (K : PySem.W.Frag) (ta : TA) : TI := fun σ H R => ta σ H fun vs H1 => ∃ a xs, vs = [.ref a] ∧ SqT K H1 a xs ∧ R (Itet K a) H1
theorem pi_enumT {X : Cx} {e : Expr} {ta : TA} {p pos tpos : Pos} {elts : List Expr} {kk : Nat} (hg : Gl X "enumerate") (hm : X.mg "enumerate" = none) (ha : PA X [e] ta) (hs : starEach [e] X.env = [(false, eval e X.env)] := by rfl) :
    PI X (.Tuple elts kk tpos) (.Call (.Name "enumerate" p) [e] [] pos) (iEnumT X.K ta) := by
  refine ⟨fun pins s σ H R I h => ?_⟩
  refine Call_ (ld_blt I hg hm boot_enumerate (PyProof.Rows.callWith_type1 (thn (ha.run pos pins s σ H _ I h) fun us s1 ⟨vs, H1, I1, r1, q1⟩ => ?_) hs rfl))
  obtain ⟨a, xs, ex, hq, q⟩ := q1
  subst ex
  cases r1 with
  | cons r rr =>
    cases rr
    cases r
    obtain ⟨its, rv, p', hz⟩ := I1.tuple hq
    have la : a < s1.heap.objs.size := by obtain ⟨_, q, _⟩ := p'; exact Heap.lt_size q
    refine call_enum_tup p' fun h' he hit hk => wpAny_pyIter_enum he ?_
    refine ⟨s1.heap.objs.size + 1, [s1.heap.objs.size + 1, s1.heap.objs.size], _, _, H1, rfl, I1.kept (t' := s1.toks) hk, turn_et a (s1.heap.objs.size + 1) s1.heap.objs.size, ⟨⟨.none, he⟩, hit, Nat.succ_ne_self _, ?_, Nat.ne_of_lt la⟩, fun b hb => ?_, q⟩
    · exact fun z => by rw [← z] at la; exact absurd (Nat.lt_of_succ_lt la) (Nat.lt_irrefl _)
    · have hle : s1.heap.objs.size ≤ b := by
        rcases (by simpa using hb : b = s1.heap.objs.size + 1 ∨ b = s1.heap.objs.size) with z | z
        · rw [z]; exact Nat.le_succ _
        · rw [z]; exact Nat.le_refl _
      exact I1.fpOk hle (I1.hok.fresh hle)
section
variable {M : Model} {A : Around} {E : Value → Shared → Prop} {s : Shared} {env : Env}
theorem callWith_typeK {pos : Pos} {T : String} {e : Expr} {rest : List Expr} {kws : List Keyword} {Q : Value → Shared → Prop}
    (h : wpAny M A (spliced (backTo pos (starEach (e :: rest) env))) (fun vs s₁ => wpAny M A (evalAll ((backToKw pos (keywordEach kws env)).map (·.2)))
      (fun kvs s₂ => wpAny M A (call (.type T) vs (((backToKw pos (keywordEach kws env)).filterMap (·.1)).zip kvs)) Q E s₂) E s₁) E s)
    (g1 : backTo pos (starEach (e :: rest) env) = (false, eval e env) :: backTo pos (starEach rest env) := by rfl) (g2 : (backTo pos (starEach (e :: rest) env)).any (·.1) = false := by rfl)
    (g3 : (backToKw pos (keywordEach kws env)).all (·.1.isSome) = true := by rfl) (g4 : (backToKw pos (keywordEach kws env)).any (·.1.isNone) = false := by rfl) :
    wpAny M A (callWith pos (.type T) [] (backTo pos (starEach (e :: rest) env)) (backToKw pos (keywordEach kws env))) Q E s := by
  unfold callWith
  have ev : wpAny M A (evalArgs (.type T) true (backTo pos (starEach (e :: rest) env)) (backToKw pos (keywordEach kws env))) (fun a s₁ => wpAny M A (call (.type T) ([] ++ a.pos) a.kw) Q E s₁) E s := by
    rw [g1] at h ⊢
    exact evalArgs_kwB g3 h
  refine wpAny_bind (wpAny_holding (wpAny_mono ev (fun a s₁ k => wpAny_bind (wpAny_standAt ?_)) fun _ _ x => x))
  rw [g2, g4]
  refine wpAny_bind (wpAny_pure ?_)
  exact wpAny_bind (wpAny_mono k (fun r s₂ hr => wpAny_bind (wpAny_holding (wpAny_point (wpAny_pure hr)))) fun _ _ x => x)
end
def iZipS (K : PySem.W.Frag) (ta : TA) : TI := fun σ H R => ta σ H fun vs H1 => ∃ a b xs ys, vs = [.ref a, .ref b] ∧ SqL K H1 a xs ∧ SqL K H1 b ys ∧ R (Itz K a b) H1
theorem pi_zipS {X : Cx} {e e2 : Expr} {ta : TA} {p pos tpos kp vp : Pos} {j : Nat} {elts : List Expr} {kk : Nat} (hg : Gl X "zip") (hm : X.mg "zip" = none) (ha : PA X [e, e2] ta)
    (hs : backTo pos (starEach [e, e2] X.env) = (false, eval e X.env) :: backTo pos (starEach [e2] X.env) := by rfl) (hpl : (backTo pos (starEach [e, e2] X.env)).any (·.1) = false := by rfl) :
    PI X (.Tuple elts kk tpos) (.Call (.Name "zip" p) [e, e2] [⟨some "strict", .Constant (.bool false) j vp, kp⟩] pos) (iZipS X.K ta) := by
  refine ⟨fun pins s σ H R I h => ?_⟩
  refine wpAny_Call_Name_kw (ld_blt I hg hm boot_zip ?_)
  refine callWith_typeK (thn (ha.run pos pins s σ H _ I h) fun us s1 ⟨vs, H1, I1, r1, q1⟩ => ?_) hs hpl
  refine kws_cons (Constant_bool ?_)
  refine kws_nil ?_
  obtain ⟨a, b, xs, ys, ex, hqx, hqy, q⟩ := q1
  subst ex
  cases r1 with
  | cons r rr =>
    cases rr with
    | cons r' rr =>
      cases rr
      cases r
      cases r'
      obtain ⟨its, rv, p1, _⟩ := I1.list hqx
      obtain ⟨its2, rv2, p2, _⟩ := I1.list hqy
      refine call_zip_strict p1.isList p2.isList fun h' hz hTI hTO h1 h2 hk => wpAny_pyIter_zip hz ?_
      refine ⟨s1.heap.objs.size + 4, [s1.heap.objs.size + 4, s1.heap.objs.size + 2, s1.heap.objs.size + 3, s1.heap.objs.size, s1.heap.objs.size + 1], _, _, H1, rfl, I1.kept (t' := s1.toks) hk, turn_zip (PySem.W.ktu_apart s1.heap.objs.size a b p1.lt p2.lt), ⟨hz, hTI, ⟨_, _, hTO⟩, h1, h2⟩, fun c hc => ?_, q⟩
      have hle : s1.heap.objs.size ≤ c := by
        rcases (by simpa using hc : c = s1.heap.objs.size + 4 ∨ c = s1.heap.objs.size + 2 ∨ c = s1.heap.objs.size + 3 ∨ c = s1.heap.objs.size ∨ c = s1.heap.objs.size + 1) with z | z | z | z | z <;> rw [z] <;> first | exact Nat.le_refl _ | exact Nat.le_add_right _ _
      exact I1.fpOk hle (I1.hok.fresh hle)
end Bz

namespace Bw
open PySem PySem.Spec PyProof.Rows L2
/-! ## fractions: what is reckoned -/
theorem gcd_turn (a b : Int) : Int.gcd b (a.fmod b) = Int.gcd a b := by
  rw [Int.fmod_def, Int.gcd_sub_mul_left_right, Int.gcd_comm]
theorem fmod_small (a : Int) {b : Int} (h : b ≠ 0) : (a.fmod b).natAbs < b.natAbs := by
  by_cases hb : 0 < b
  · have h1 := Int.fmod_nonneg_of_pos a hb
    have h2 := Int.fmod_lt_of_pos a hb
    omega
  · have e : a.fmod b = - ((-a).fmod (-b)) := by
      rw [Int.fmod_def, Int.fmod_def, Int.neg_fdiv_neg, Int.neg_mul]
      omega
    have h1 := Int.fmod_nonneg_of_pos (-a) (b := -b) (by omega)
    have h2 := Int.fmod_lt_of_pos (-a) (b := -b) (by omega)
    omega
theorem frac_pos {t b : Int} (h : 0 < b) : t.fdiv (Int.gcd t b : Nat) = (Rat.divInt t b).num ∧ b.fdiv (Int.gcd t b : Nat) = ((Rat.divInt t b).den : Nat) := by
  have g0 : (0 : Int) ≤ (Int.gcd t b : Nat) := Int.natCast_nonneg _
  rw [Int.fdiv_eq_ediv_of_nonneg _ g0, Int.fdiv_eq_ediv_of_nonneg _ g0, Rat.num_divInt, Rat.den_divInt, if_neg (by omega), Int.sign_eq_one_of_pos h, Int.one_mul, Int.gcd_comm]
  refine ⟨rfl, ?_⟩
  rw [Int.natCast_ediv]
  congr 1
  omega
theorem frac_neg {t b : Int} (h : b < 0) : t.fdiv (0 - (Int.gcd t b : Nat)) = (Rat.divInt t b).num ∧ b.fdiv (0 - (Int.gcd t b : Nat)) = ((Rat.divInt t b).den : Nat) := by
  have e : Rat.divInt t b = Rat.divInt (-t) (-b) := (Rat.neg_divInt_neg t b).symm
  have h2 := frac_pos (t := -t) (b := -b) (by omega)
  rw [Int.gcd_neg, Int.neg_gcd] at h2
  rw [e, ← h2.1, ← h2.2]
  have z : (0 : Int) - (Int.gcd t b : Nat) = - (Int.gcd t b : Nat) := by omega
  rw [z]
  constructor
  · have := Int.neg_fdiv_neg (-t) (Int.gcd t b : Nat)
    rw [Int.neg_neg] at this
    exact this
  · have := Int.neg_fdiv_neg (-b) (Int.gcd t b : Nat)
    rw [Int.neg_neg] at this
    exact this
theorem rat_add (a b : Rat) : Rat.divInt (a.num * (b.den : Nat) + b.num * (a.den : Nat)) ((a.den : Nat) * (b.den : Nat) : Int) = a + b := by
  rw [Rat.add_def', ← Rat.divInt_ofNat, Int.natCast_mul]
theorem rat_sub (a b : Rat) : Rat.divInt (a.num * (b.den : Nat) - b.num * (a.den : Nat)) ((a.den : Nat) * (b.den : Nat) : Int) = a - b := by
  rw [Rat.sub_def', ← Rat.divInt_ofNat, Int.natCast_mul]
theorem rat_mul (a b : Rat) : Rat.divInt (a.num * b.num) ((a.den : Nat) * (b.den : Nat) : Int) = a * b := by
  rw [Rat.mul_def', ← Rat.divInt_ofNat, Int.natCast_mul]
theorem rat_div (a b : Rat) : Rat.divInt (a.num * (b.den : Nat)) ((a.den : Nat) * b.num : Int) = a / b := by
  rw [Rat.div_def, Rat.inv_def]
  conv => rhs; rw [← Rat.num_divInt_den a]
  rw [Rat.divInt_mul_divInt]
theorem den_pos' (r : Rat) : (0 : Int) < (r.den : Nat) := by have := r.den_pos; omega
/-- top and bottom below 2 ^ 2 ^ 26 -/
def Lo (r : Rat) : Prop := Low r.num ∧ Low (r.den : Nat)

/-! ## their promises -/
def spDivisor : Sp := fun vs H Q _ => ∃ a b : Int, vs = [.int a, .int b] ∧ Q (.int (Int.gcd a b : Nat)) H
def spFraction (K : PySem.W.Frag) : Sp := fun vs H Q _ => ∃ t b : Int, vs = [.int t, .int b] ∧ b ≠ 0 ∧ ∀ H' p, Same H H' → Fr K H' p (Rat.divInt t b) → Q (.ref p) H'
def spF2 (K : PySem.W.Frag) (C : Rat → Rat → Prop) (g : Rat → Rat → Rat) : Sp := fun vs H Q _ => ∃ a b r s, vs = [.ref a, .ref b] ∧ Fr K H a r ∧ Fr K H b s ∧ Lo r ∧ Lo s ∧ C r s ∧ ∀ H' p, Same H H' → Fr K H' p (g r s) → Q (.ref p) H'
abbrev spPlus (K : PySem.W.Frag) := spF2 K (fun _ _ => True) (· + ·)
abbrev spMinus (K : PySem.W.Frag) := spF2 K (fun _ _ => True) (· - ·)
abbrev spTimes (K : PySem.W.Frag) := spF2 K (fun _ _ => True) (· * ·)
abbrev spOver (K : PySem.W.Frag) := spF2 K (fun _ s => s ≠ 0) (· / ·)
def spIsLess (K : PySem.W.Frag) : Sp := fun vs H Q _ => ∃ a b r s, vs = [.ref a, .ref b] ∧ Fr K H a r ∧ Fr K H b s ∧ Lo r ∧ Lo s ∧ Q (.bl (decide (r < s))) H
def spNegated (K : PySem.W.Frag) : Sp := fun vs H Q _ => ∃ a r, vs = [.ref a] ∧ Fr K H a r ∧ ∀ H' p, Same H H' → Fr K H' p (-r) → Q (.ref p) H'

section
variable {P : Program} {w : World} {K : PySem.W.Frag} {mg : Str → Option Value} {base : Heap}
/-! ## each def keeps its promise -/
theorem ok_divisor {x : Str} (F : Has K mg x s_divisor ["a", "b"]) (T : Txt P K mg base) : Prom P w K mg base 1 x ["a", "b"] spDivisor := by
  refine F.prom sc_divisor (fun vs H Q E h => ?_) (fun f cdv A outer s H vs Q E hr h => ?_)
  · obtain ⟨a, b, rfl, _⟩ := h; rfl
  · obtain ⟨a, b, rfl, q⟩ := h
    refine ⟨_, pss_cons (ps_while PassesOwn.never (pt_cmpR op_ne (pv 1) pe_int (nomark _))
        (pss_one (ps_par (i := 0) (j := 1) (by rfl) sc_divisor.nd rfl rfl (by decide) rfl rfl (pa_cons (pv 1) (pa_cons (pe_op op_modN (pv 0) (pv 1)) pa_nil)) (by rfl))))
      (pss_one (ps_ret (pe_callB call_abs (by rfl) T.abs boot_abs (pa_cons (pv 0) pa_nil)))), ?_⟩
    refine ⟨fun m σ H' => ∃ x y : Int, σ = [some (.int x), some (.int y)] ∧ H' = H ∧ m = y.natAbs ∧ Int.gcd x y = Int.gcd a b, ⟨_, a, b, rfl, rfl, rfl, rfl⟩, ?_⟩
    rintro m σ H' ⟨x, y, rfl, rfl, rfl, eg⟩
    refine ⟨_, rfl, rfl, _, rfl, ?_⟩
    by_cases hy : y = 0
    · subst hy
      refine iteNS rfl ?_
      refine ⟨_, rfl, x, rfl, ?_⟩
      have e : (if x < 0 then -x else x) = ((Int.gcd a b : Nat) : Int) := by
        rw [← eg, Int.gcd_zero_right]
        split <;> omega
      rw [e]
      exact q
    · have e : decide (V.int y = V.int 0) = false := decide_eq_false fun z => hy (V.int.inj z)
      rw [e]
      refine ⟨_, fun _ _ h => h, ?_⟩
      refine ⟨_, rfl, _, rfl, _, rfl, x, y, rfl, rfl, hy, _, _, rfl, ?_⟩
      exact ⟨_, fmod_small x hy, y, x.fmod y, rfl, rfl, rfl, by rw [gcd_turn, eg]⟩
theorem ok_fraction {x : Str} (F : Has K mg x s_fraction ["top", "bottom"]) (T : Txt P K mg base) (cD : Prom P w K mg base 1 "divisor" ["a", "b"] spDivisor) : Prom P w K mg base 40 x ["top", "bottom"] (spFraction K) := by
  refine F.prom sc_fraction (fun vs H Q E h => ?_) (fun f cdv A outer s H vs Q E hr h => ?_)
  · obtain ⟨t, b, rfl, _⟩ := h; rfl
  · obtain ⟨t, b, rfl, hb, q⟩ := h
    have S := seer_of (w := w) (s := s) (H := H) (outer := outer) (E := E) (cdv := cdv) T sc_fraction hr (by decide)
    refine ⟨_, pss_cons (ps_set (i := 2) sc_fraction.nd rfl (.inl rfl) (pe_ca cD (hr.mono (by decide)) (pa_cons (pv 0) (pa_cons (pv 1) pa_nil))))
      (pss_cons (ps_if (pt_cmpR op_lt (pv 1) pe_int (nomark _)) (pss_one (ps_set (i := 2) sc_fraction.nd rfl (.inl rfl) (pe_op op_sub pe_int (pv 2)))) pss_nil)
      (pss_one (ps_ret (pe_tup (pa_cons (pe_op (op_fdivP S) (pv 0) (pv 2)) (pa_cons (pe_op (op_fdivP S) (pv 1) (pv 2)) pa_nil)))))), ?_⟩
    have g0 : Int.gcd t b ≠ 0 := fun z => hb (Int.gcd_eq_zero_iff.mp z).2
    refine ⟨_, rfl, _, rfl, t, b, rfl, ?_⟩
    refine ⟨_, rfl, _, _, rfl, rfl, _, rfl, ?_⟩
    refine ite2 (fun e => ?_) (fun e => ?_)
    · have bn : b < 0 := of_decide_eq_true e
      refine ⟨_, rfl, _, _, rfl, rfl, ?_⟩
      refine ⟨_, rfl, _, rfl, _, _, rfl, rfl, by omega, _, rfl, _, rfl, _, _, rfl, rfl, by omega, by show 2 ≤ sizeLine; decide, fun p hp => ?_⟩
      refine q _ p (Same.new hp) ?_
      dsimp only
      rw [(frac_neg (t := t) bn).1, (frac_neg (t := t) bn).2]
      exact SqT.new upd_same
    · have bp : 0 < b := by
        have : ¬ b < 0 := fun z => e (decide_eq_true z)
        omega
      refine ⟨_, rfl, _, rfl, _, _, rfl, rfl, by omega, _, rfl, _, rfl, _, _, rfl, rfl, by omega, by show 2 ≤ sizeLine; decide, fun p hp => ?_⟩
      refine q _ p (Same.new hp) ?_
      dsimp only
      rw [(frac_pos (t := t) bp).1, (frac_pos (t := t) bp).2]
      exact SqT.new upd_same

theorem pT0 {X : Cx} {a : Expr} {ta : TE} {pos p2 : Pos} {j : Nat} (ha : PE X a ta) : PE X (.Subscript a (.Constant (.int 0) j p2) pos) (tOp (rIxT X.K) ta (tC (.int 0))) := pe_ix ix_tup ha pe_int (fun _ _ => rfl)
theorem pT1 {X : Cx} {a : Expr} {ta : TE} {pos p2 : Pos} {j : Nat} (ha : PE X a ta) : PE X (.Subscript a (.Constant (.int 1) j p2) pos) (tOp (rIxT X.K) ta (tC (.int 1))) := pe_ix ix_tup ha pe_int (fun _ _ => rfl)

theorem ok_plus {x : Str} (F : Has K mg x s_plus ["a", "b"]) (cF : Prom P w K mg base 40 "fraction" ["top", "bottom"] (spFraction K)) : Prom P w K mg base 41 x ["a", "b"] (spPlus K) := by
  refine F.prom sc_plus (fun vs H Q E h => ?_) (fun f cdv A outer s H vs Q E hr h => ?_)
  · obtain ⟨a, b, r, s, rfl, _⟩ := h; rfl
  · obtain ⟨a, b, r, s, rfl, ha, hb, la, lb, hc, q⟩ := h
    refine ⟨_, pss_one (ps_ret (pe_ca cF hr (pa_cons (pe_op op_add (pe_op op_mulX (pT0 (pv 0)) (pT1 (pv 1))) (pe_op op_mulX (pT0 (pv 1)) (pT1 (pv 0)))) (pa_cons (pe_op op_mulX (pT1 (pv 0)) (pT1 (pv 1))) pa_nil)))), ?_⟩
    refine fr_num (by rfl) ha (fr_den (by rfl) hb ⟨_, _, rfl, rfl, low_mul la.1 lb.2, ?_⟩)
    refine fr_num (by rfl) hb (fr_den (by rfl) ha ⟨_, _, rfl, rfl, low_mul lb.1 la.2, _, _, rfl, rfl, ?_⟩)
    refine fr_den (by rfl) ha (fr_den (by rfl) hb ⟨_, _, rfl, rfl, low_mul la.2 lb.2, _, _, rfl, ?_, fun H' p e hp => ?_⟩)
    · exact Int.mul_ne_zero (by have := den_pos' r; omega) (by have := den_pos' s; omega)
    · rw [rat_add] at hp
      exact q H' p e hp

theorem ok_minus {x : Str} (F : Has K mg x s_minus ["a", "b"]) (cF : Prom P w K mg base 40 "fraction" ["top", "bottom"] (spFraction K)) : Prom P w K mg base 41 x ["a", "b"] (spMinus K) := by
  refine F.prom sc_minus (fun vs H Q E h => ?_) (fun f cdv A outer s H vs Q E hr h => ?_)
  · obtain ⟨a, b, r, s, rfl, _⟩ := h; rfl
  · obtain ⟨a, b, r, s, rfl, ha, hb, la, lb, hc, q⟩ := h
    refine ⟨_, pss_one (ps_ret (pe_ca cF hr (pa_cons (pe_op op_sub (pe_op op_mulX (pT0 (pv 0)) (pT1 (pv 1))) (pe_op op_mulX (pT0 (pv 1)) (pT1 (pv 0)))) (pa_cons (pe_op op_mulX (pT1 (pv 0)) (pT1 (pv 1))) pa_nil)))), ?_⟩
    refine fr_num (by rfl) ha (fr_den (by rfl) hb ⟨_, _, rfl, rfl, low_mul la.1 lb.2, ?_⟩)
    refine fr_num (by rfl) hb (fr_den (by rfl) ha ⟨_, _, rfl, rfl, low_mul lb.1 la.2, _, _, rfl, rfl, ?_⟩)
    refine fr_den (by rfl) ha (fr_den (by rfl) hb ⟨_, _, rfl, rfl, low_mul la.2 lb.2, _, _, rfl, ?_, fun H' p e hp => ?_⟩)
    · exact Int.mul_ne_zero (by have := den_pos' r; omega) (by have := den_pos' s; omega)
    · rw [rat_sub] at hp
      exact q H' p e hp

theorem ok_times {x : Str} (F : Has K mg x s_times ["a", "b"]) (cF : Prom P w K mg base 40 "fraction" ["top", "bottom"] (spFraction K)) : Prom P w K mg base 41 x ["a", "b"] (spTimes K) := by
  refine F.prom sc_times (fun vs H Q E h => ?_) (fun f cdv A outer s H vs Q E hr h => ?_)
  · obtain ⟨a, b, r, s, rfl, _⟩ := h; rfl
  · obtain ⟨a, b, r, s, rfl, ha, hb, la, lb, hc, q⟩ := h
    refine ⟨_, pss_one (ps_ret (pe_ca cF hr (pa_cons (pe_op op_mulX (pT0 (pv 0)) (pT0 (pv 1))) (pa_cons (pe_op op_mulX (pT1 (pv 0)) (pT1 (pv 1))) pa_nil)))), ?_⟩
    refine fr_num (by rfl) ha (fr_num (by rfl) hb ⟨_, _, rfl, rfl, low_mul la.1 lb.1, ?_⟩)
    refine fr_den (by rfl) ha (fr_den (by rfl) hb ⟨_, _, rfl, rfl, low_mul la.2 lb.2, _, _, rfl, ?_, fun H' p e hp => ?_⟩)
    · exact Int.mul_ne_zero (by have := den_pos' r; omega) (by have := den_pos' s; omega)
    · rw [rat_mul] at hp
      exact q H' p e hp

theorem ok_over {x : Str} (F : Has K mg x s_over ["a", "b"]) (cF : Prom P w K mg base 40 "fraction" ["top", "bottom"] (spFraction K)) : Prom P w K mg base 41 x ["a", "b"] (spOver K) := by
  refine F.prom sc_over (fun vs H Q E h => ?_) (fun f cdv A outer s H vs Q E hr h => ?_)
  · obtain ⟨a, b, r, s, rfl, _⟩ := h; rfl
  · obtain ⟨a, b, r, s, rfl, ha, hb, la, lb, hc, q⟩ := h
    refine ⟨_, pss_one (ps_ret (pe_ca cF hr (pa_cons (pe_op op_mulX (pT0 (pv 0)) (pT1 (pv 1))) (pa_cons (pe_op op_mulX (pT1 (pv 0)) (pT0 (pv 1))) pa_nil)))), ?_⟩
    refine fr_num (by rfl) ha (fr_den (by rfl) hb ⟨_, _, rfl, rfl, low_mul la.1 lb.2, ?_⟩)
    refine fr_den (by rfl) ha (fr_num (by rfl) hb ⟨_, _, rfl, rfl, low_mul la.2 lb.1, _, _, rfl, ?_, fun H' p e hp => ?_⟩)
    · exact Int.mul_ne_zero (by have := den_pos' r; omega) (fun z => hc (Rat.num_eq_zero.mp z))
    · rw [rat_div] at hp
      exact q H' p e hp

theorem ok_is_less {x : Str} (F : Has K mg x s_is_less ["a", "b"]) : Prom P w K mg base 1 x ["a", "b"] (spIsLess K) := by
  refine F.prom sc_is_less (fun vs H Q E h => ?_) (fun f cdv A outer s H vs Q E hr h => ?_)
  · obtain ⟨a, b, r, s, rfl, _⟩ := h; rfl
  · obtain ⟨a, b, r, s, rfl, ha, hb, la, lb, q⟩ := h
    refine ⟨_, pss_one (ps_ret (pe_cmpR op_lt (pe_op op_mulX (pT0 (pv 0)) (pT1 (pv 1))) (pe_op op_mulX (pT0 (pv 1)) (pT1 (pv 0))) (nomark _))), ?_⟩
    refine fr_num (by rfl) ha (fr_den (by rfl) hb ⟨_, _, rfl, rfl, low_mul la.1 lb.2, ?_⟩)
    refine fr_num (by rfl) hb (fr_den (by rfl) ha ⟨_, _, rfl, rfl, low_mul lb.1 la.2, _, _, rfl, rfl, ?_⟩)
    have e : decide (r.num * (s.den : Nat) < s.num * (r.den : Nat)) = decide (r < s) := decide_eq_decide.mpr (Rat.lt_iff r s).symm
    show Q (.bl (decide (r.num * (s.den : Nat) < s.num * (r.den : Nat)))) H
    rw [e]
    exact q
theorem ok_negated {x : Str} (F : Has K mg x s_negated ["a"]) : Prom P w K mg base 1 x ["a"] (spNegated K) := by
  refine F.prom sc_negated (fun vs H Q E h => ?_) (fun f cdv A outer s H vs Q E hr h => ?_)
  · obtain ⟨a, r, rfl, _⟩ := h; rfl
  · obtain ⟨a, r, rfl, ha, q⟩ := h
    refine ⟨_, pss_one (ps_ret (pe_tup (pa_cons (pe_op op_sub pe_int (pT0 (pv 0))) (pa_cons (pT1 (pv 0)) pa_nil)))), ?_⟩
    refine fr_num (by rfl) ha ⟨_, _, rfl, rfl, ?_⟩
    refine fr_den (by rfl) ha ⟨by show 2 ≤ sizeLine; decide, fun p hp => ?_⟩
    refine q _ p (Same.new hp) ?_
    have e : (0 : Int) - r.num = (-r).num := by rw [Rat.neg_num]; omega
    dsimp only
    rw [e]
    exact SqT.new upd_same
/-- the bits of sums and products -/
theorem lo_of {r : Rat} {n : Nat} (h : n ≤ 2 ^ 26) (h1 : r.num.natAbs < 2 ^ n) (h2 : r.den < 2 ^ n) : Lo r := by
  have := Nat.pow_le_pow_right (n := 2) (by decide) h
  exact ⟨Nat.lt_of_lt_of_le h1 this, by show (r.den : Int).natAbs < _; rw [Int.natAbs_natCast]; exact Nat.lt_of_lt_of_le h2 this⟩
def Bt (n : Nat) (r : Rat) : Prop := r.num.natAbs < 2 ^ n ∧ r.den < 2 ^ n
theorem Bt.lo {n : Nat} {r : Rat} (b : Bt n r) (h : n ≤ 2 ^ 26) : Lo r := lo_of h b.1 b.2
theorem Bt.mono {m n : Nat} {r : Rat} (b : Bt m r) (h : m ≤ n) : Bt n r :=
  ⟨Nat.lt_of_lt_of_le b.1 (Nat.pow_le_pow_right (by decide) h), Nat.lt_of_lt_of_le b.2 (Nat.pow_le_pow_right (by decide) h)⟩
theorem num_dvd {t b : Int} (hb : b ≠ 0) : (Rat.divInt t b).num.natAbs ≤ t.natAbs ∧ (Rat.divInt t b).den ≤ b.natAbs := by
  rw [Rat.num_divInt, Rat.den_divInt, if_neg hb]
  refine ⟨?_, Nat.div_le_self _ _⟩
  have e : (b.sign * t / (b.gcd t : Nat)).natAbs = (b.sign * t).natAbs / (b.gcd t) := by
    have dv : ((b.gcd t : Nat) : Int) ∣ b.sign * t := Int.dvd_trans (Int.gcd_dvd_right _ _) (Int.dvd_mul_left _ _)
    rw [Int.natAbs_ediv_of_dvd dv, Int.natAbs_natCast]
  rw [e, Int.natAbs_mul, Int.natAbs_sign_of_ne_zero hb, Nat.one_mul]
  exact Nat.div_le_self _ _
theorem Bt.mul {m n : Nat} {r s : Rat} (a : Bt m r) (b : Bt n s) : Bt (m + n) (r * s) := by
  rw [← rat_mul]
  have h := num_dvd (t := r.num * s.num) (b := (r.den : Nat) * (s.den : Nat)) (Int.mul_ne_zero (by have := den_pos' r; omega) (by have := den_pos' s; omega))
  rw [Int.natAbs_mul, Int.natAbs_mul, Int.natAbs_natCast, Int.natAbs_natCast] at h
  unfold Bt
  rw [Nat.pow_add]
  exact ⟨Nat.lt_of_le_of_lt h.1 (Nat.mul_lt_mul'' a.1 b.1), Nat.lt_of_le_of_lt h.2 (Nat.mul_lt_mul'' a.2 b.2)⟩
theorem Bt.add {m n : Nat} {r s : Rat} (a : Bt m r) (b : Bt n s) : Bt (m + n + 1) (r + s) := by
  rw [← rat_add]
  have h := num_dvd (t := r.num * (s.den : Nat) + s.num * (r.den : Nat)) (b := (r.den : Nat) * (s.den : Nat)) (Int.mul_ne_zero (by have := den_pos' r; omega) (by have := den_pos' s; omega))
  rw [Int.natAbs_mul, Int.natAbs_natCast, Int.natAbs_natCast] at h
  have p1 := Nat.mul_lt_mul'' a.1 b.2
  have p2 := Nat.mul_lt_mul'' b.1 a.2
  have p3 := Nat.mul_lt_mul'' a.2 b.2
  rw [← Nat.pow_add] at p1 p2 p3
  have t := Int.natAbs_add_le (r.num * (s.den : Nat)) (s.num * (r.den : Nat))
  rw [Int.natAbs_mul, Int.natAbs_mul, Int.natAbs_natCast, Int.natAbs_natCast] at t
  rw [Nat.add_comm n m] at p2
  unfold Bt
  rw [Nat.pow_succ]
  omega
theorem Bt.neg {m : Nat} {r : Rat} (a : Bt m r) : Bt m (-r) := by
  unfold Bt
  rw [Rat.neg_num, Rat.neg_den, Int.natAbs_neg]
  exact a
def spMiddle (K : PySem.W.Frag) : Sp := fun vs H Q _ => ∃ a b r s, vs = [.ref a, .ref b] ∧ Fr K H a r ∧ Fr K H b s ∧ Bt 1000000 r ∧ Bt 1000000 s ∧ ∀ H' p, Same H H' → Fr K H' p ((r + s) / 2) → Q (.ref p) H'
theorem half_eq (r s : Rat) : (r + s) * (1 / 2) = (r + s) / 2 := by grind
theorem ok_middle {x : Str} (F : Has K mg x s_middle ["a", "b"]) (cP : Prom P w K mg base 41 "plus" ["a", "b"] (spPlus K)) (cT : Prom P w K mg base 41 "times" ["a", "b"] (spTimes K)) : Prom P w K mg base 42 x ["a", "b"] (spMiddle K) := by
  refine F.prom sc_middle (fun vs H Q E h => ?_) (fun f cdv A outer s H vs Q E hr h => ?_)
  · obtain ⟨a, b, r, s, rfl, _⟩ := h; rfl
  · obtain ⟨a, b, r, s, rfl, ha, hb, la, lb, q⟩ := h
    refine ⟨_, pss_one (ps_ret (pe_ca cT hr (pa_cons (pe_ca cP hr (pa_cons (pv 0) (pa_cons (pv 1) pa_nil))) (pa_cons (pe_tup (pa_cons pe_int (pa_cons pe_int pa_nil))) pa_nil)))), ?_⟩
    refine ⟨_, rfl, _, rfl, a, b, r, s, rfl, ha, hb, la.lo (by decide), lb.lo (by decide), trivial, fun H1 p e1 hp => ?_⟩
    refine ⟨by show 2 ≤ sizeLine; decide, fun t ht => ?_⟩
    have e2 : Same H1 (upd H1 t (.tup [.int 1, .int 2])) := Same.new ht
    have e12 : (1 / 2 : Rat).num = 1 ∧ (1 / 2 : Rat).den = 2 := by decide +kernel
    refine ⟨p, t, r + s, 1 / 2, rfl, hp.mono e2, ?_, (la.add lb).lo (by decide), ?_, trivial, fun H2 u e3 hu => ?_⟩
    · unfold Fr
      rw [e12.1, e12.2]
      exact SqT.new upd_same
    · exact lo_of (n := 2) (by decide) (by rw [e12.1]; decide) (by rw [e12.2]; decide)
    · dsimp only at hu
      rw [half_eq] at hu
      exact q H2 u (e1.trans (e2.trans e3)) hu
end
end Bw

namespace Bw
open PySem PySem.Spec PyProof.Rows L2 Bz
/-! ## what stands while lists change: tuples, and what is locked -/
def TupS (H H' : Hp) : Prop := (∀ a xs, H a = some (.tup xs) → H' a = some (.tup xs)) ∧ ∀ a o u, H a = some (.frz o u) → H' a = some (.frz o u)
theorem TupS.refl (H : Hp) : TupS H H := ⟨fun _ _ h => h, fun _ _ _ h => h⟩
theorem TupS.trans {H H1 H2 : Hp} (a : TupS H H1) (b : TupS H1 H2) : TupS H H2 := ⟨fun x y h => b.1 x y (a.1 x y h), fun x y z h => b.2 x y z (a.2 x y z h)⟩
theorem _root_.L2.Same.tups {H H' : Hp} (e : Same H H') : TupS H H' := ⟨fun a xs h => e a _ h, fun a o u h => e a _ h⟩
theorem TupS.lst {H : Hp} {p : Addr} {l : List V} {o : HO} (h : H p = some (.lst l)) : TupS H (upd H p o) :=
  ⟨fun a xs e => by rw [upd_ne (ne_of e h (fun z => by cases z))]; exact e, fun a o u e => by rw [upd_ne (ne_of e h (fun z => by cases z))]; exact e⟩
theorem TupS.tup {K : PySem.W.Frag} {H H' : Hp} {a : Addr} {xs : List V} (e : TupS H H') (h : SqT K H a xs) : SqT K H' a xs := by
  rcases h with (h | ⟨o, h⟩) | h
  · exact .inl (.inl (e.1 _ _ h))
  · exact .inl (.inr ⟨o, e.2 _ _ _ h⟩)
  · exact .inr h
section
variable {K : PySem.W.Frag} {H H' : Hp} {a : Addr}
theorem Fr.tm {r : Rat} (h : Fr K H a r) (e : TupS H H') : Fr K H' a r := e.tup h
theorem Frs.tm {as : List Addr} {p : List Rat} (h : Frs K H as p) (e : TupS H H') : Frs K H' as p := Paired.mapP h fun _ _ z => z.tm e
theorem Po.tm {p : List Rat} (h : Po K H a p) (e : TupS H H') : Po K H' a p := let ⟨as, x, y⟩ := h; ⟨as, e.tup x, y.tm e⟩
theorem Iv.tm {lo hi : Rat} (h : Iv K H a lo hi) (e : TupS H H') : Iv K H' a lo hi := let ⟨x, y, p, q, r⟩ := h; ⟨x, y, e.tup p, q.tm e, r.tm e⟩
end
theorem paired_len {α β : Type} {F : α → β → Prop} {l : List α} {m : List β} (h : Paired F l m) : l.length = m.length := Paired.length h
theorem paired_app {α β : Type} {F : α → β → Prop} : ∀ {l l' : List α} {m m' : List β}, Paired F l m → Paired F l' m' → Paired F (l ++ l') (m ++ m')
  | _, _, _, _, .nil, s => s
  | _, _, _, _, .cons r t, s => .cons r (paired_app t s)
theorem paired_get {α β : Type} {F : α → β → Prop} : ∀ {l : List α} {m : List β} {i : Nat} {x : α}, Paired F l m → l[i]? = some x → ∃ y, m[i]? = some y ∧ F x y
  | _, _, _, _, .nil, e => by simp at e
  | _, _, 0, _, .cons r _, e => by simp at e; subst e; exact ⟨_, rfl, r⟩
  | _, _, i + 1, x, .cons _ t, e => by
    obtain ⟨u, h1, h2⟩ := paired_get (i := i) (x := x) t (by simpa using e)
    exact ⟨u, by simpa using h1, h2⟩
theorem paired_set {α β : Type} {F : α → β → Prop} {x : α} {y : β} (r : F x y) : ∀ {l : List α} {m : List β} (i : Nat), Paired F l m → Paired F (l.set i x) (m.set i y)
  | _, _, _, .nil => .nil
  | _, _, 0, .cons _ t => .cons r t
  | _, _, i + 1, .cons q t => .cons q (paired_set r i t)
theorem paired_take {α β : Type} {F : α → β → Prop} : ∀ {l : List α} {m : List β} (n : Nat), Paired F l m → Paired F (l.take n) (m.take n)
  | _, _, 0, _ => .nil
  | _, _, _ + 1, .nil => .nil
  | _, _, n + 1, .cons r t => .cons r (paired_take n t)
theorem paired_drop {α β : Type} {F : α → β → Prop} : ∀ {l : List α} {m : List β} (n : Nat), Paired F l m → Paired F (l.drop n) (m.drop n)
  | _, _, 0, r => r
  | _, _, _ + 1, .nil => .nil
  | _, _, n + 1, .cons _ t => paired_drop n t

/-! ## comprehensions: what is kept and made, turn by turn -/
theorem lc_gen {J : It} {n : Nat} {G : Hp → Prop} {Y : Nat → Hp → V → Hp → Prop} (w : Walk J n G Y) {g : TG} {tt : TT} {te : TE} {vs : List Nat} {σ : L2.St} {H1 : Hp} {D : Addr} {Qd : Hp → Prop}
    (keep : Nat → Bool) (R : Nat → V → Hp → Prop) (hR : ∀ i v H H', TupS H H' → R i v H → R i v H') (hD : H1 D = none) (hn : n ≤ 100000) (hG : ∀ H, Same H1 H → G H)
    (el : ∀ i x H H', i < n → Same H1 H → Y i H x H' → ∀ (Q : VK) (Qn : Hp → Prop), (∀ y H4, Same H H4 → R i y H4 → Q y H4) → (∀ H4, Same H H4 → Qn H4) →
      g x (wipe σ vs) H' fun σ2 H2 => wipe σ2 vs = wipe σ vs ∧ tt σ2 H2 fun b H3 => if b = true then keep i = true ∧ te σ2 H3 Q else keep i = false ∧ Qn H3)
    (mg : ∀ x σ H (Q Q' : L2.St → Hp → Prop), (∀ σ2 H2, Q σ2 H2 → Q' σ2 H2) → g x σ H Q → g x σ H Q') (mt : ∀ σ H (Q Q' : Bool → Hp → Prop), (∀ b H2, Q b H2 → Q' b H2) → tt σ H Q → tt σ H Q')
    (done : ∀ H' bs, Same H1 H' → H' D = some (.lst bs) → Paired (fun i v => R i v H') ((List.range n).filter keep) bs → Qd H') :
    ∃ W : Nat → Nat → Hp → Prop, (∃ m, W 0 m (upd H1 D (.lst []))) ∧ ∀ i m H, W i m H →
      (J.stop i H ∧ Qd H) ∨ (J.go i H ∧ ∃ Nx : Hp → Prop, (∀ H', Nx H' → ∃ m', m' < m ∧ W (i + 1) m' H') ∧ ∀ x H', J.yld i H x H' → g x (wipe σ vs) H' fun σ2 H2 => wipe σ2 vs = wipe σ vs ∧ tt σ2 H2 fun b H3 =>
        if b = true then te σ2 H3 fun y H4 => ∃ acc, H4 D = some (.lst acc) ∧ acc.length < sizeLine ∧ Nx (upd H4 D (.lst (acc ++ [y]))) else Nx H3) := by
  refine lc_it w (fun i H => Same H1 H ∧ ∃ bs, H D = some (.lst bs) ∧ Paired (fun i v => R i v H) ((List.range i).filter keep) bs) ⟨Same.new hD, [], upd_same, .nil⟩ (fun i H _ p => hG H p.1) (fun i x H H' hi p y => ?_) (fun H p => ?_)
  · obtain ⟨s1, bs, hb, pr⟩ := p
    have ln : bs.length < sizeLine := by
      have := paired_len pr
      have h2 := List.length_filter_le keep (List.range i)
      rw [List.length_range] at h2
      exact Nat.lt_of_lt_of_le (show bs.length < 100001 by omega) (by decide)
    have up : ∀ {H4 : Hp}, Same H H4 → Paired (fun i v => R i v H4) ((List.range i).filter keep) bs := fun s4 => Paired.mapP pr fun _ _ z => hR _ _ _ _ s4.tups z
    cases hk : keep i with
    | true =>
      refine mg _ _ _ _ _ (fun σ2 H2 q => ⟨q.1, mt _ _ _ _ (fun b H3 q => ?_) q.2⟩) (el i x H H' hi s1 y (fun y H4 => ∃ acc, H4 D = some (.lst acc) ∧ acc.length < sizeLine ∧ (fun H' => Same H1 H' ∧ ∃ bs, H' D = some (.lst bs) ∧ Paired (fun i v => R i v H') ((List.range (i + 1)).filter keep) bs) (upd H4 D (.lst (acc ++ [y]))))
        (fun _ => True) (fun y H4 s4 r => ?_) (fun _ _ => trivial))
      · cases b with
        | true =>
          rw [if_pos rfl] at q ⊢
          exact q.2
        | false =>
          rw [if_neg Bool.false_ne_true, hk] at q
          exact Bool.noConfusion q.1
      · have hb4 := s4 _ _ hb
        have tl := TupS.lst (o := .lst (bs ++ [y])) hb4
        refine ⟨bs, hb4, ln, Same.mut (s1.trans s4) hD, bs ++ [y], upd_same, ?_⟩
        rw [List.range_succ, List.filter_append, List.filter_cons_of_pos hk, List.filter_nil]
        exact paired_app (Paired.mapP (up s4) fun _ _ z => hR _ _ _ _ tl z) (.cons (hR _ _ _ _ tl r) .nil)
    | false =>
      refine mg _ _ _ _ _ (fun σ2 H2 q => ⟨q.1, mt _ _ _ _ (fun b H3 q => ?_) q.2⟩) (el i x H H' hi s1 y (fun y H4 => True)
        (fun H4 => Same H1 H4 ∧ ∃ bs, H4 D = some (.lst bs) ∧ Paired (fun i v => R i v H4) ((List.range (i + 1)).filter keep) bs) (fun _ _ _ _ => trivial) (fun H4 s4 => ?_))
      · cases b with
        | true =>
          rw [if_pos rfl, hk] at q
          exact Bool.noConfusion q.1
        | false =>
          rw [if_neg Bool.false_ne_true] at q ⊢
          exact q.2
      · refine ⟨s1.trans s4, bs, s4 _ _ hb, ?_⟩
        rw [List.range_succ, List.filter_append, List.filter_cons_of_neg (by rw [hk]; exact Bool.false_ne_true), List.filter_nil, List.append_nil]
        exact up s4
  · obtain ⟨s1, bs, hb, pr⟩ := p
    exact done H bs s1 hb pr
/-- without a test -/
theorem lc_map {J : It} {n : Nat} {G : Hp → Prop} {Y : Nat → Hp → V → Hp → Prop} (w : Walk J n G Y) {g : TG} {te : TE} {vs : List Nat} {σ : L2.St} {H1 : Hp} {D : Addr} {Qd : Hp → Prop}
    (R : Nat → V → Hp → Prop) (hR : ∀ i v H H', TupS H H' → R i v H → R i v H') (hD : H1 D = none) (hn : n ≤ 100000) (hG : ∀ H, Same H1 H → G H)
    (el : ∀ i x H H', i < n → Same H1 H → Y i H x H' → ∀ (Q : VK), (∀ y H4, Same H H4 → R i y H4 → Q y H4) → g x (wipe σ vs) H' fun σ2 H2 => wipe σ2 vs = wipe σ vs ∧ te σ2 H2 Q)
    (mg : ∀ x σ H (Q Q' : L2.St → Hp → Prop), (∀ σ2 H2, Q σ2 H2 → Q' σ2 H2) → g x σ H Q → g x σ H Q')
    (done : ∀ H' bs, Same H1 H' → H' D = some (.lst bs) → Paired (fun i v => R i v H') (List.range n) bs → Qd H') :
    ∃ W : Nat → Nat → Hp → Prop, (∃ m, W 0 m (upd H1 D (.lst []))) ∧ ∀ i m H, W i m H →
      (J.stop i H ∧ Qd H) ∨ (J.go i H ∧ ∃ Nx : Hp → Prop, (∀ H', Nx H' → ∃ m', m' < m ∧ W (i + 1) m' H') ∧ ∀ x H', J.yld i H x H' → g x (wipe σ vs) H' fun σ2 H2 => wipe σ2 vs = wipe σ vs ∧ tYes σ2 H2 fun b H3 =>
        if b = true then te σ2 H3 fun y H4 => ∃ acc, H4 D = some (.lst acc) ∧ acc.length < sizeLine ∧ Nx (upd H4 D (.lst (acc ++ [y]))) else Nx H3) := by
  refine lc_gen w (tt := tYes) (fun _ => true) R hR hD hn hG (fun i x H H' hi s y Q Qn hq hn => ?_) mg (fun _ _ _ _ k h => k _ _ h) (fun H' bs s hb pr => done H' bs s hb ?_)
  · refine mg _ _ _ _ _ (fun σ2 H2 q => ⟨q.1, ?_⟩) (el i x H H' hi s y Q hq)
    show if true = true then true = true ∧ te σ2 H2 Q else true = false ∧ Qn H2
    rw [if_pos rfl]
    exact ⟨rfl, q.2⟩
  · rw [List.filter_eq_self.mpr fun _ _ => rfl] at pr
    exact pr
end Bw

namespace Bw
open PySem PySem.Spec PyProof.Rows L2 Bz
/-! ## small steps -/
section
variable {K : PySem.W.Frag} {H : Hp} {Q : VK} {a b : Addr} {r s : Rat}
theorem fr_dp (h : Fr K H a r) : Dp K H (.ref a) (.tuple [.int r.num, .int (r.den : Nat)]) := .tup h (.cons (.int _) (.cons (.int _) .nil))
theorem fr_eqv (r s : Rat) : PyData.eqv (.tuple [.int r.num, .int (r.den : Nat)]) (.tuple [.int s.num, .int (s.den : Nat)]) = decide (r = s) := by
  by_cases h : r = s
  · subst h
    simp [PyData.eqv, PyData.eqvAll]
  · rw [decide_eq_false h]
    have : ¬ (r.num = s.num ∧ r.den = s.den) := fun z => h (Rat.ext z.1 z.2)
    simp [PyData.eqv, PyData.eqvAll]
    omega
theorem fr_eq (ha : Fr K H a r) (hb : Fr K H b s) (k : Q (.bl (decide (r = s))) H) : rEqD K (.ref a) (.ref b) H Q :=
  ⟨_, _, fr_dp ha, fr_dp hb, rfl, rfl, by rw [fr_eqv]; exact k⟩
theorem fr_ne (ha : Fr K H a r) (hb : Fr K H b s) (k : Q (.bl (!decide (r = s))) H) : rNeD K (.ref a) (.ref b) H Q :=
  ⟨_, _, fr_dp ha, fr_dp hb, rfl, rfl, by rw [fr_eqv]; exact k⟩
end
theorem cut_to (xs : List V) (k : Nat) : cutV xs none (some (k : Int)) = xs.take k := by
  unfold cutV
  rw [HT.sIx_none, HT.sIx_nat, List.drop_zero, Nat.sub_zero]
  by_cases h : k ≤ xs.length
  · rw [Nat.min_eq_left h]
  · rw [Nat.min_eq_right (by omega), List.take_length, List.take_of_length_le (by omega)]
theorem cut_from (xs : List V) (k : Nat) : cutV xs (some (k : Int)) none = xs.drop k := by
  unfold cutV
  rw [HT.sIx_none, HT.sIx_nat]
  by_cases h : k ≤ xs.length
  · rw [Nat.min_eq_left h, ← List.length_drop]
    exact List.take_length
  · rw [Nat.min_eq_right (by omega), List.drop_length, List.drop_of_length_le (by omega)]
    simp
theorem cut_from1 (xs : List V) : cutV xs (some 1) none = xs.drop 1 := cut_from xs 1
theorem frs_get {K : PySem.W.Frag} {H : Hp} {as : List Addr} {p : List Rat} (h : Frs K H as p) {i : Nat} (hi : i < p.length) : ∃ a, as[i]? = some a ∧ (as.map V.ref)[i]? = some (.ref a) ∧ Fr K H a (p.getD i 0) := by
  have l := paired_len h
  have e : as[i]? = some as[i] := List.getElem?_eq_getElem (by omega)
  obtain ⟨y, h1, h2⟩ := paired_get h e
  refine ⟨_, e, by rw [List.getElem?_map, e]; rfl, ?_⟩
  rw [List.getD_eq_getElem?_getD, h1]
  exact h2
theorem ite_and {B C : Prop} {a : Bool} (h1 : a = true → B) (h2 : a = false → C) : if a = true then B else C := by
  cases a with
  | true => rw [if_pos rfl]; exact h1 rfl
  | false => rw [if_neg Bool.false_ne_true]; exact h2 rfl

/-! ## promises -/
def spTrimmed (K : PySem.W.Frag) : Sp := fun vs H Q _ => ∃ (l : Addr) (as : List Addr) (p : List Rat), vs = [.ref l] ∧ SqL K H l (as.map V.ref) ∧ Frs K H as p ∧ p.length ≤ 1000 ∧ ∀ H' t r, Same H H' → Bd.TrimOf p r → Po K H' t r → Q (.ref t) H'
section
variable {P : Program} {w : World} {K : PySem.W.Frag} {mg : Str → Option Value} {base : Heap}
theorem tr_take {p : List Rat} {c : Nat} (hc : c ≤ p.length) (hz : ∀ i, c ≤ i → p.getD i 0 = 0) (h : c = 0 ∨ p.getD (c - 1) 0 ≠ 0) : Bd.TrimOf p (p.take c) := by
  have l : (p.take c).length = c := by rw [List.length_take]; omega
  refine ⟨?_, by omega, by rw [l], by rw [l]; exact hz⟩
  rcases h with rfl | h
  · exact .inl rfl
  · cases c with
    | zero => exact .inl rfl
    | succ c =>
      refine .inr ⟨p.take c, p.getD c 0, ?_, h⟩
      rw [List.take_succ, List.getD_eq_getElem?_getD, List.getElem?_eq_getElem (by omega)]
      rfl
theorem ok_trimmed {x : Str} (F : Has K mg x s_trimmed ["some"]) (T : Txt P K mg base) : Prom P w K mg base 1 x ["some"] (spTrimmed K) := by
  refine F.prom sc_trimmed (fun vs H Q E h => ?_) (fun f cdv A outer s H vs Q E hr h => ?_)
  · obtain ⟨l, as, p, rfl, _⟩ := h; rfl
  · obtain ⟨l, as, p, rfl, hl, hp, hn, q⟩ := h
    obtain ⟨z, mz, fz⟩ := T.zero
    have lp := paired_len hp
    refine ⟨_, pss_cons (ps_set (i := 1) sc_trimmed.nd rfl (.inl rfl) (pe_callB call_len_seq (by rfl) T.len boot_len (pa_cons (pv 0) pa_nil)))
      (pss_cons (ps_while PassesOwn.never (PW.pt (pw_and (pt_cmpR op_gt (pv 1) pe_int (nomark _)) (pw_and1 (pt_cmpR (op_eqD hr.units) (pe_ix ix_list (pv 0) (pe_op op_sub (pv 1) pe_int) (fun _ _ => rfl)) (pe_glob (v := .ref z) rfl mz rfl) (nomark _)))))
        (pss_one (ps_aug (i := 1) sc_trimmed.nd rfl (.inl rfl) pe_int ip_sub)))
      (pss_one (ps_ret (pe_callTy call_tuple_of (by rfl) T.tup boot_tuple (pa_cons (pe_slice sl_list (pv 0) po_none (po_some (pv 1))) pa_nil))))), ?_⟩
    refine ⟨_, rfl, l, _, rfl, .inl hl, ?_⟩
    refine ⟨fun m σ H' => ∃ c : Nat, σ = [some (.ref l), some (.int c)] ∧ H' = H ∧ m = c ∧ c ≤ p.length ∧ ∀ i, c ≤ i → p.getD i 0 = 0, ⟨p.length, p.length, ?_, rfl, rfl, Nat.le_refl _, fun i hi => ?_⟩, ?_⟩
    · rw [List.length_map, lp]; rfl
    · rw [List.getD_eq_getElem?_getD, List.getElem?_eq_none hi]; rfl
    · rintro m σ H' ⟨c, rfl, rfl, em, hc, hz⟩
      refine ⟨_, rfl, _, _, rfl, rfl, _, rfl, ?_⟩
      have fin : c = 0 ∨ p.getD (c - 1) 0 ≠ 0 → ∀ D : Ends, D.rt = Q → tRet (tCB (fun xs H Q => ∃ p ys, xs = [V.ref p] ∧ ((SqL K H p ys ∧ ∀ l, H l = none → Q (.ref l) (upd H l (.tup ys))) ∨ (SqT K H p ys ∧ Q (.ref p) H))) (tCons (tSl (rSlL K) (tVar 0) tNoPart (tPart (tVar 1))) tNil)) D [some (.ref l), some (.int (c : Int))] H' := fun hd D hD => by
        refine ⟨_, rfl, _, rfl, _, rfl, l, _, rfl, hl, fun n hnew => ?_⟩
        rw [cut_to, ← List.map_take]
        refine ⟨n, _, rfl, .inl ⟨SqL.new upd_same, fun t ht => ?_⟩⟩
        rw [hD]
        have e1 : Same H' (upd H' n (.lst ((as.take c).map V.ref))) := Same.new hnew
        have e2 := e1.trans (Same.new (o := .tup ((as.take c).map V.ref)) ht)
        exact q _ t _ e2 (tr_take hc hz hd) ⟨as.take c, SqT.new upd_same, Frs.mono (paired_take c hp) e2⟩
      refine ite_and (fun e => ?_) (fun e => ?_)
      · have c0 : 0 < c := by have := of_decide_eq_true e; omega
        obtain ⟨a, h1, h2, h3⟩ := frs_get hp (i := c - 1) (by omega)
        refine ⟨_, rfl, _, rfl, _, _, rfl, rfl, l, _, _, .ref a, rfl, rfl, hl, ?_, ?_⟩
        · show atI (as.map V.ref) ((c : Int) - 1) = some (.ref a)
          rw [show (c : Int) - 1 = ((c - 1 : Nat) : Int) by omega]
          exact atI_nat h2
        · refine ⟨_, _, fr_dp h3, fr_dp (fz _), rfl, rfl, _, rfl, ?_⟩
          rw [fr_eqv]
          refine ite_and (fun e => ?_) (fun e => ?_)
          · refine ⟨_, fun _ _ h => h, ?_⟩
            refine ⟨_, rfl, _, _, rfl, rfl, c - 1, by omega, c - 1, ?_, rfl, rfl, by omega, fun i hi => ?_⟩
            · rw [show ((c - 1 : Nat) : Int) = (c : Int) - 1 by omega]; rfl
            · by_cases k : i = c - 1
              · rw [k]; exact of_decide_eq_true e
              · exact hz i (by omega)
          · exact fin (.inr (of_decide_eq_false e)) _ rfl
      · exact iteF (fin (.inl (by have := of_decide_eq_false e; omega)) _ rfl)

/-! ## comprehensions of fractions -/
theorem refs_of {H : Hp} {f : Nat → Rat} : ∀ {l : List Nat} {bs : List V}, Paired (fun i v => ∃ b, v = V.ref b ∧ Fr K H b (f i)) l bs → ∃ as : List Addr, bs = as.map V.ref ∧ Frs K H as (l.map f)
  | _, _, .nil => ⟨[], rfl, .nil⟩
  | _, _, .cons ⟨b, e, h⟩ t => by
    obtain ⟨as, e2, h2⟩ := refs_of t
    exact ⟨b :: as, by rw [e, e2]; rfl, .cons h h2⟩
theorem range_all (n : Nat) : (List.range n).filter (fun _ => true) = List.range n := List.filter_eq_self.mpr fun _ _ => rfl
theorem map_getD (p : List Rat) (g : Rat → Rat) : (List.range p.length).map (fun i => g (p.getD i 0)) = p.map g := by
  refine List.ext_getElem (by simp) fun i h1 h2 => ?_
  have hi : i < p.length := by simpa using h1
  simp [List.getD_eq_getElem?_getD, List.getElem?_eq_getElem hi]
theorem fr_rel {f : Nat → Rat} : ∀ i v H H', TupS H H' → (∃ b, v = V.ref b ∧ Fr K H b (f i)) → ∃ b, v = V.ref b ∧ Fr K H' b (f i) := fun _ _ _ _ e ⟨b, h1, h2⟩ => ⟨b, h1, h2.tm e⟩
theorem g_mono {i : Nat} : ∀ x σ H (Q Q' : L2.St → Hp → Prop), (∀ σ2 H2, Q σ2 H2 → Q' σ2 H2) → gName i x σ H Q → gName i x σ H Q' := fun _ _ _ _ _ k h => k _ _ h
theorem t_mono : ∀ σ H (Q Q' : Bool → Hp → Prop), (∀ b H2, Q b H2 → Q' b H2) → tYes σ H Q → tYes σ H Q' := fun _ _ _ _ k h => k _ _ h
def spScaled (K : PySem.W.Frag) : Sp := fun vs H Q _ => ∃ (a b : Addr) (p : List Rat) (c : Rat), vs = [.ref a, .ref b] ∧ Po K H a p ∧ Fr K H b c ∧ p.length ≤ 1000 ∧ (∀ r ∈ p, Lo r) ∧ Lo c ∧ ∀ H' t r, Same H H' → Bd.TrimOf (p.map (· * c)) r → Po K H' t r → Q (.ref t) H'
theorem ok_scaled {x : Str} (F : Has K mg x s_scaled ["p", "factor"]) (T : Txt P K mg base) (cT : Prom P w K mg base 1 "trimmed" ["some"] (spTrimmed K)) (cM : Prom P w K mg base 41 "times" ["a", "b"] (spTimes K)) : Prom P w K mg base 42 x ["p", "factor"] (spScaled K) := by
  refine F.prom sc_scaled (fun vs H Q E h => ?_) (fun f cdv A outer s H vs Q E hr h => ?_)
  · obtain ⟨a, b, p, c, rfl, _⟩ := h; rfl
  · obtain ⟨a, b, p, c, rfl, ⟨as, ha, hp⟩, hb, hn, lp, lc, q⟩ := h
    have lp' := paired_len hp
    refine ⟨_, pss_one (ps_ret (pe_ca cT (hr.mono (by decide)) (pa_cons (pe_lc (own := [("part", 2)]) (g := gName 2) (tt := tYes) rfl sc_scaled.nd (pi_tup (pv 0)) (blkOk_by (N := ["p", "factor", "part"]) (sc := defScope s_scaled) (by decide +kernel))
      (fun _ _ _ _ _ => pg_name (i := 2) sc_scaled.nd rfl (Or.inl rfl)) (fun _ _ _ _ _ => pts_nil) (fun _ _ _ _ _ => pe_ca cM hr (pa_cons (pv 2) (pa_cons (pv 1) pa_nil)))) pa_nil))), ?_⟩
    refine ⟨_, rfl, a, rfl, ⟨_, ha⟩, fun D nD => ?_⟩
    refine lc_map (walk_tup (K := K) (a := a) (xs := as.map V.ref)) (fun i v H => ∃ b, v = V.ref b ∧ Fr K H b (p.getD i 0 * c)) fr_rel nD (by rw [List.length_map]; omega) (fun H' e => Same.tup e ha) ?_ g_mono ?_
    · rintro i v H' H2 hi e ⟨rfl, ev⟩ Q1 hq
      rw [List.length_map] at hi
      obtain ⟨y, h1, h2, h3⟩ := frs_get hp (i := i) (by omega)
      obtain rfl : v = .ref y := Option.some.inj (ev.symm.trans h2)
      refine ⟨rfl, ?_⟩
      refine ⟨_, rfl, _, rfl, y, b, p.getD i 0, c, rfl, h3.mono e, hb.mono e, lp _ (Bd.getD_mem (by omega)), lc, trivial, fun H3 u e3 hu => ?_⟩
      exact hq _ _ e3 ⟨u, rfl, hu⟩
    · intro H' bs e hD pr
      rw [List.length_map, lp'] at pr
      obtain ⟨cs, rfl, hc⟩ := refs_of pr
      rw [map_getD p (· * c)] at hc
      refine ⟨D, cs, _, rfl, SqL.new hD, hc, by rw [List.length_map]; exact hn, fun H3 t r e3 tr hr => ?_⟩
      exact q H3 t r (e.trans e3) tr hr

theorem g2_mono {n i j : Nat} : ∀ x σ H (Q Q' : L2.St → Hp → Prop), (∀ σ2 H2, Q σ2 H2 → Q' σ2 H2) → gTup K n (gCons (gName i) (gCons (gName j) gNil)) x σ H Q → gTup K n (gCons (gName i) (gCons (gName j) gNil)) x σ H Q' :=
  fun _ _ _ _ _ k ⟨a, xs, e1, h1, h2, v, r, e2, v2, r2, e3, e4, q⟩ => ⟨a, xs, e1, h1, h2, v, r, e2, v2, r2, e3, e4, k _ _ q⟩
theorem bt_int {n : Int} {B : Nat} (h : n.natAbs < 2 ^ B) (hB : 0 < B) : Bt B (n : Rat) := ⟨h, by show 1 < 2 ^ B; exact Nat.one_lt_two_pow (by omega)⟩
theorem fr_int {H : Hp} {a : Addr} {n : Int} (h : SqT K H a [.int n, .int 1]) : Fr K H a (n : Rat) := h
theorem dq_range (p : List Rat) : (List.range p.length).map (fun i => p.getD i 0 * ((i : Int) : Rat)) = Bd.dq 0 p := by
  have key : ∀ (p : List Rat) (k : Nat), (List.range p.length).map (fun i => p.getD i 0 * (((k + i : Nat) : Int) : Rat)) = Bd.dq k p := fun p => by
    induction p with
    | nil => intro k; rfl
    | cons a p ih =>
      intro k
      rw [List.length_cons, List.range_succ_eq_map, List.map_cons, List.map_map, Bd.dq, ← ih (k + 1)]
      have e1 : (a :: p).getD 0 0 * (((k + 0 : Nat) : Int) : Rat) = a * ((k : Int) : Rat) := by simp
      rw [e1]
      congr 1
      refine List.map_congr_left fun i _ => ?_
      simp only [Function.comp, List.getD_cons_succ, show k + i.succ = k + 1 + i by omega]
  have := key p 0
  simp only [Nat.zero_add] at this
  exact this
def spDerivative (K : PySem.W.Frag) : Sp := fun vs H Q _ => ∃ (a : Addr) (p : List Rat), vs = [.ref a] ∧ Po K H a p ∧ p.length ≤ 1000 ∧ (∀ r ∈ p, Lo r) ∧ ∀ H' t r, Same H H' → Bd.TrimOf (Bd.derQ p) r → Po K H' t r → Q (.ref t) H'
theorem ok_derivative {x : Str} (F : Has K mg x s_derivative ["p"]) (T : Txt P K mg base) (cT : Prom P w K mg base 1 "trimmed" ["some"] (spTrimmed K)) (cM : Prom P w K mg base 41 "times" ["a", "b"] (spTimes K)) : Prom P w K mg base 42 x ["p"] (spDerivative K) := by
  refine F.prom sc_derivative (fun vs H Q E h => ?_) (fun f cdv A outer s H vs Q E hr h => ?_)
  · obtain ⟨a, p, rfl, _⟩ := h; rfl
  · obtain ⟨a, p, rfl, ⟨as, ha, hp⟩, hn, lp, q⟩ := h
    have lp' := paired_len hp
    refine ⟨_, pss_one (ps_ret (pe_ca cT (hr.mono (by decide)) (pa_cons (pe_slice sl_list (pe_lc (own := [("power", 1), ("part", 2)]) (g := gTup K 2 (gCons (gName 1) (gCons (gName 2) gNil))) (tt := tYes) rfl sc_derivative.nd (pi_enumT (by rfl) T.enu (pa_cons (pv 0) pa_nil)) (blkOk_by (N := ["p", "power", "part"]) (sc := defScope s_derivative) (by decide +kernel))
      (fun _ _ _ _ _ => pg_tup rfl (pgs_cons (pg_name (i := 1) sc_derivative.nd rfl (Or.inl rfl)) (pgs_cons (pg_name (i := 2) sc_derivative.nd rfl (Or.inl rfl)) pgs_nil))) (fun _ _ _ _ _ => pts_nil)
      (fun _ _ _ _ _ => pe_ca cM hr (pa_cons (pv 2) (pa_cons (pe_tup (pa_cons (pv 1) (pa_cons pe_int pa_nil))) pa_nil)))) (po_some pe_int) po_none) pa_nil))), ?_⟩
    refine ⟨_, rfl, a, _, rfl, ha, fun D nD => ?_⟩
    refine lc_map (walk_et (K := K) (a := a) (xs := as.map V.ref)) (fun i v H => ∃ b, v = V.ref b ∧ Fr K H b (p.getD i 0 * ((i : Int) : Rat))) fr_rel nD (by rw [List.length_map]; omega) (fun H' e => Same.tup e ha) ?_ g2_mono ?_
    · rintro i v H' H2 hi e ⟨t, x1, x2, rfl, nt, rfl, e1, ev⟩ Q1 hq
      rw [List.length_map] at hi
      obtain ⟨y, h1, h2, h3⟩ := frs_get hp (i := i) (by omega)
      obtain rfl : x2 = .ref y := Option.some.inj (ev.symm.trans h2)
      obtain rfl : V.int (i : Nat) = x1 := Option.some.inj e1
      have st : Same H' (upd H' t (.tup [.int (i : Nat), .ref y])) := Same.new nt
      refine ⟨t, _, rfl, SqT.new upd_same, rfl, _, _, rfl, _, _, rfl, rfl, rfl, ?_⟩
      refine ⟨_, rfl, _, rfl, by show 2 ≤ sizeLine; decide, fun u hu => ?_⟩
      have e5 := st.trans (Same.new (o := .tup [.int (i : Nat), .int 1]) hu)
      refine ⟨y, u, p.getD i 0, ((i : Int) : Rat), rfl, h3.mono (e.trans e5), fr_int (SqT.new upd_same), lp _ (Bd.getD_mem (by omega)), ?_, trivial, fun H3 v3 e3 hv => ?_⟩
      · exact (bt_int (B := 10) (by have : (2 : Nat) ^ 10 = 1024 := by decide
                                    omega) (by decide)).lo (by decide)
      · exact hq _ _ (e5.trans e3) ⟨v3, rfl, hv⟩
    · intro H' bs e hD pr
      rw [List.length_map, lp'] at pr
      obtain ⟨cs, rfl, hc⟩ := refs_of pr
      rw [dq_range] at hc
      refine ⟨_, rfl, D, _, rfl, SqL.new hD, fun n hn' => ?_⟩
      rw [cut_from1, ← List.map_drop]
      have e2 : Same H' (upd H' n (.lst ((cs.drop 1).map V.ref))) := Same.new hn'
      refine ⟨n, cs.drop 1, Bd.derQ p, rfl, SqL.new upd_same, ?_, by rw [Bd.derQ_len]; omega, fun H3 t r e3 tr hr => ?_⟩
      · have := paired_drop 1 hc
        rw [List.drop_one (l := Bd.dq 0 p)] at this
        exact Frs.mono this e2
      · exact q H3 t r (e.trans (e2.trans e3)) tr hr
end
end Bw

namespace Bw
open PySem PySem.Spec PyProof.Rows L2 Bz RT
theorem none_of {H H' : Hp} {a : Addr} (e : Same H H') (h : H' a = none) : H a = none := by
  cases k : H a with
  | none => rfl
  | some u => rw [e a u k] at h; cases h
theorem Bt.div {m n : Nat} {r s : Rat} (a : Bt m r) (b : Bt n s) (h : s ≠ 0) : Bt (m + n) (r / s) := by
  rw [← rat_div]
  have h := num_dvd (t := r.num * (s.den : Nat)) (b := (r.den : Nat) * s.num) (Int.mul_ne_zero (by have := den_pos' r; omega) (fun z => h (Rat.num_eq_zero.mp z)))
  rw [Int.natAbs_mul, Int.natAbs_mul, Int.natAbs_natCast, Int.natAbs_natCast] at h
  unfold Bt
  rw [Nat.pow_add]
  exact ⟨Nat.lt_of_le_of_lt h.1 (Nat.mul_lt_mul'' a.1 b.2), Nat.lt_of_le_of_lt h.2 (Nat.mul_lt_mul'' a.2 b.1)⟩
theorem bt0 {n : Nat} (h : 0 < n) : Bt n 0 := ⟨by show 0 < 2 ^ n; exact Nat.pow_pos (by decide), by show 1 < 2 ^ n; exact Nat.one_lt_two_pow (by omega)⟩
theorem bt_cm {l : List Rat} {B : Nat} (h : Bd.Cm l B) {r : Rat} (hr : r ∈ l) : Bt B r := h.bits hr
theorem bt_get {l : List Rat} {B : Nat} (h : Bd.Cm l B) (i : Nat) : Bt B (l.getD i 0) := by
  by_cases hi : i < l.length
  · exact bt_cm h (Bd.getD_mem hi)
  · rw [List.getD_eq_getElem?_getD, List.getElem?_eq_none (by omega)]
    exact bt0 h.pos
section
variable {P : Program} {w : World} {K : PySem.W.Frag} {mg : Str → Option Value} {base : Heap}
def spValueAt (K : PySem.W.Frag) : Sp := fun vs H Q _ => ∃ (a b : Addr) (p : List Rat) (x : Rat) (B c : Nat), vs = [.ref a, .ref b] ∧ Po K H a p ∧ Fr K H b x ∧ Bd.Cm p B ∧ Bt c x ∧ p.length * (B + c + 1) + B + c + 5 ≤ 2 ^ 26 ∧ ∀ H' t, Same H H' → Fr K H' t (Bd.evr p x) → Q (.ref t) H'
theorem ok_value_at {x : Str} (F : Has K mg x s_value_at ["p", "x"]) (T : Txt P K mg base) (cP : Prom P w K mg base 41 "plus" ["a", "b"] (spPlus K)) (cM : Prom P w K mg base 41 "times" ["a", "b"] (spTimes K)) : Prom P w K mg base 42 x ["p", "x"] (spValueAt K) := by
  refine F.prom sc_value_at (fun vs H Q E h => ?_) (fun f cdv A outer s H vs Q E hr h => ?_)
  · obtain ⟨a, b, p, y, B, c, rfl, _⟩ := h; rfl
  · obtain ⟨a, b, p, y, B, c, rfl, ⟨as, ha, hp⟩, hb, hB, hc, hn, q⟩ := h
    obtain ⟨z, mz, fz⟩ := T.zero
    have lp := paired_len hp
    refine ⟨_, pss_cons (ps_set (i := 2) sc_value_at.nd rfl (.inl rfl) (pe_glob (v := .ref z) rfl mz rfl))
      (pss_cons (ps_for PassesOwn.never rfl (pi_revA (by rfl) T.rev (pv 0)) (pg_name (i := 3) sc_value_at.nd rfl (.inl rfl))
        (pss_one (ps_set (i := 2) sc_value_at.nd rfl (.inl rfl) (pe_ca cP hr (pa_cons (pe_ca cM hr (pa_cons (pv 2) (pa_cons (pv 1) pa_nil))) (pa_cons (pv 3) pa_nil))))))
      (pss_one (ps_ret (pv 2)))), ?_⟩
    refine ⟨_, rfl, a, _, rfl, .inr ⟨ha, ?_⟩⟩
    refine for_ItvT (K := K) (a := a) (xs := as.map V.ref) (fun i σ H' => ∃ u o, σ = [some (.ref a), some (.ref b), some (.ref u), o] ∧ Same H H' ∧ Fr K H' u (Bd.evr (p.drop (p.length - i)) y) ∧ Bt (i * (B + c + 1) + 1) (Bd.evr (p.drop (p.length - i)) y)) ?_ ?_ ?_ ?_
    · refine ⟨z, _, rfl, Same.refl _, ?_⟩
      rw [Nat.sub_zero, List.drop_length]
      exact ⟨fz _, bt0 (by omega)⟩
    · rintro i σ H' ⟨u, o, rfl, e, _⟩
      exact Same.tup e ha
    · rintro i v σ H' hi ev ⟨u, o, rfl, e, fu, bu⟩
      rw [List.length_map] at hi ev
      obtain ⟨t, h1, h2, h3⟩ := frs_get hp (i := as.length - 1 - i) (by omega)
      obtain rfl : v = .ref t := Option.some.inj (ev.symm.trans h2)
      have sz : i * (B + c + 1) + 1 + c + B + 1 ≤ 2 ^ 26 := by
        have : i * (B + c + 1) ≤ p.length * (B + c + 1) := Nat.mul_le_mul_right _ (by omega)
        omega
      have b1 := bu.mul hc
      have b2 := bt_get hB (as.length - 1 - i)
      refine ⟨_, rfl, _, rfl, u, b, _, y, rfl, fu, hb.mono e, bu.lo (by omega), hc.lo (by omega), trivial, fun H1 t1 e1 f1 => ?_⟩
      refine ⟨_, rfl, t1, t, _, _, rfl, f1, h3.mono (e.trans e1), b1.lo (by omega), b2.lo (by omega), trivial, fun H2 t2 e2 f2 => ?_⟩
      have dr : p.drop (p.length - (i + 1)) = p.getD (as.length - 1 - i) 0 :: p.drop (p.length - i) := by
        rw [List.drop_eq_getElem_cons (by omega), show p.length - (i + 1) + 1 = p.length - i by omega, List.getD_eq_getElem?_getD]
        congr 1
        rw [List.getElem?_eq_getElem (by omega)]
        simp only [Option.getD_some]
        congr 1
        omega
      refine ⟨t2, _, rfl, e.trans (e1.trans e2), ?_⟩
      rw [dr]
      exact ⟨f2, (b1.add b2).mono (by rw [Nat.succ_mul]; omega)⟩
    · rintro σ H' ⟨u, o, rfl, e, fu, bu⟩
      rw [List.length_map, lp, Nat.sub_self, List.drop_zero] at fu
      exact ⟨_, rfl, q H' u e fu⟩
end
end Bw

namespace Bw
open PySem PySem.Spec PyProof.Rows L2 Bz RT
theorem ix_nat {n j : Nat} (h : j < n) : ixN n (j : Int) = some j := by
  unfold ixN
  rw [if_pos (by omega), if_pos (by omega), Int.toNat_natCast]
/-! ## a list of fractions that changes -/
def LQ (K : PySem.W.Frag) (H : Hp) (l : Addr) (R : List Rat) : Prop := ∃ cs : List Addr, H l = some (.lst (cs.map V.ref)) ∧ Frs K H cs R
section
variable {K : PySem.W.Frag} {H H' : Hp} {l : Addr} {R : List Rat}
theorem LQ.mono (h : LQ K H l R) (e : Same H H') : LQ K H' l R := let ⟨cs, a, b⟩ := h; ⟨cs, e _ _ a, b.mono e⟩
theorem LQ.sql (h : LQ K H l R) : ∃ cs : List Addr, H l = some (.lst (cs.map V.ref)) ∧ SqL K H l (cs.map V.ref) ∧ Frs K H cs R ∧ cs.length = R.length := let ⟨cs, a, b⟩ := h; ⟨cs, a, SqL.new a, b, paired_len b⟩
theorem LQ.get (h : LQ K H l R) {i : Nat} (hi : i < R.length) : ∃ xs u, SqL K H l xs ∧ xs.length = R.length ∧ xs[i]? = some (.ref u) ∧ Fr K H u (R.getD i 0) := by
  obtain ⟨cs, a, b⟩ := h
  obtain ⟨u, h1, h2, h3⟩ := frs_get b hi
  exact ⟨_, u, SqL.new a, by rw [List.length_map]; exact paired_len b, h2, h3⟩
theorem LQ.set (h : LQ K H l R) {i : Nat} {u : Addr} {c : Rat} (hu : Fr K H u c) : ∃ xs, H l = some (.lst xs) ∧ xs.length = R.length ∧ LQ K (upd H l (.lst (xs.set i (.ref u)))) l (R.set i c) := by
  obtain ⟨cs, a, b⟩ := h
  refine ⟨_, a, by rw [List.length_map]; exact paired_len b, cs.set i u, ?_, ?_⟩
  · rw [upd_same, List.map_set]
  · have tl := TupS.lst (o := .lst ((cs.map V.ref).set i (.ref u))) a
    exact paired_set (hu.tm tl) i (b.tm tl)
/-- another list is written -/
theorem LQ.other {m : Addr} {xs ys : List V} (h : LQ K H l R) (hm : H m = some (.lst xs)) (ne : l ≠ m) : LQ K (upd H m (.lst ys)) l R := by
  obtain ⟨cs, a, b⟩ := h
  exact ⟨cs, by rw [upd_ne ne]; exact a, b.tm (TupS.lst hm)⟩
theorem flat_one {α : Type} (z : α) : ∀ n, (List.replicate n [z]).flatten = List.replicate n z
  | 0 => rfl
  | n + 1 => by rw [List.replicate_succ, List.flatten_cons, flat_one z n, List.replicate_succ]; rfl
theorem frs_rep {z : Addr} {r : Rat} (h : Fr K H z r) : ∀ n, Frs K H (List.replicate n z) (List.replicate n r)
  | 0 => .nil
  | n + 1 => .cons h (frs_rep h n)
theorem LQ.rep {z : Addr} (f : ∀ H, Fr K H z 0) (n : Nat) : LQ K (upd H l (.lst (List.replicate n [V.ref z]).flatten)) l (List.replicate n 0) :=
  ⟨List.replicate n z, by rw [upd_same, flat_one, List.map_replicate], frs_rep (f _) n⟩
end
theorem Ib.bt {M B : Nat} {p : List Rat} (h : Bd.Ib M p) (k : M < 2 ^ B) (hB : 0 < B) (i : Nat) : Bt B (p.getD i 0) := bt_get (h.cm k hB) i
section
variable {P : Program} {w : World} {K : PySem.W.Frag} {mg : Str → Option Value} {base : Heap}
def spProduct (K : PySem.W.Frag) : Sp := fun vs H Q _ => ∃ (a b : Addr) (p q : List Rat), vs = [.ref a, .ref b] ∧ Po K H a p ∧ Po K H b q ∧ Bd.Ib 6 p ∧ Bd.Ib 6 q ∧ p.length ≤ 7 ∧ q.length ≤ 7 ∧
  ∀ H' t r, Same H H' → Bd.TrimOf (Bd.px (List.replicate (p.length + q.length) 0) 0 p q) r → Po K H' t r → Q (.ref t) H'
theorem take_succ_getD {p : List Rat} {i : Nat} (h : i < p.length) : p.take (i + 1) = p.take i ++ [p.getD i 0] := by
  rw [List.take_succ, List.getD_eq_getElem?_getD, List.getElem?_eq_getElem h]
  rfl
theorem ok_product_of {x : Str} (F : Has K mg x s_product_of ["p", "q"]) (T : Txt P K mg base) (cT : Prom P w K mg base 1 "trimmed" ["some"] (spTrimmed K)) (cP : Prom P w K mg base 41 "plus" ["a", "b"] (spPlus K)) (cM : Prom P w K mg base 41 "times" ["a", "b"] (spTimes K)) : Prom P w K mg base 42 x ["p", "q"] (spProduct K) := by
  refine F.prom sc_product_of (fun vs H Q E h => ?_) (fun f cdv A outer s H vs Q E hr h => ?_)
  · obtain ⟨a, b, p, q, rfl, _⟩ := h; rfl
  · obtain ⟨a, b, p, q, rfl, ⟨as, ha, hp⟩, ⟨bs, hb, hq⟩, ip, iq, lp, lq, k⟩ := h
    obtain ⟨z, mz, fz⟩ := T.zero
    have lp' := paired_len hp
    have lq' := paired_len hq
    refine ⟨_, pss_cons (ps_set (i := 2) sc_product_of.nd rfl (.inl rfl) (pe_op op_rep (pe_lst (pa_cons (pe_glob (v := .ref z) rfl mz rfl) pa_nil)) (pe_op op_add (pe_callB call_len_seq (by rfl) T.len boot_len (pa_cons (pv 0) pa_nil)) (pe_callB call_len_seq (by rfl) T.len boot_len (pa_cons (pv 1) pa_nil)))))
      (pss_cons (ps_for PassesOwn.never rfl (pi_enumT (by rfl) T.enu (pa_cons (pv 0) pa_nil)) (pg_tup rfl (pgs_cons (pg_name (i := 3) sc_product_of.nd rfl (.inl rfl)) (pgs_cons (pg_name (i := 4) sc_product_of.nd rfl (.inl rfl)) pgs_nil)))
        (pss_one (ps_for PassesOwn.never rfl (pi_enumT (by rfl) T.enu (pa_cons (pv 1) pa_nil)) (pg_tup rfl (pgs_cons (pg_name (i := 5) sc_product_of.nd rfl (.inl rfl)) (pgs_cons (pg_name (i := 6) sc_product_of.nd rfl (.inl rfl)) pgs_nil)))
          (pss_one (ps_asg (pe_ca cP hr (pa_cons (pe_ix ix_list (pv 2) (pe_op op_add (pv 3) (pv 5)) (fun _ _ => rfl)) (pa_cons (pe_ca cM hr (pa_cons (pv 4) (pa_cons (pv 6) pa_nil))) pa_nil))) (pg_sub (pv 2) (pe_op op_add (pv 3) (pv 5)) set_list))))))
      (pss_one (ps_ret (pe_ca cT (hr.mono (by decide)) (pa_cons (pv 2) pa_nil))))), ?_⟩
    refine ⟨by show 1 ≤ sizeLine; decide, fun l0 n0 => ?_⟩
    have s0 : Same H (upd H l0 (.lst [.ref z])) := Same.new n0
    refine ⟨_, rfl, a, _, rfl, .inr (Same.tup s0 ha), _, rfl, b, _, rfl, .inr (Same.tup s0 hb), _, _, rfl, rfl, ?_⟩
    have en : ((as.map V.ref).length : Int) + ((bs.map V.ref).length : Int) = ((p.length + q.length : Nat) : Int) := by
      rw [List.length_map, List.length_map, lp', lq']; rfl
    dsimp only
    rw [en]
    refine ⟨l0, ((p.length + q.length : Nat) : Int), _, rfl, rfl, upd_same, by omega, by omega, ?_, fun l hl => ?_⟩
    · rw [Int.toNat_natCast, List.length_cons, List.length_nil, Nat.zero_add, Nat.one_mul]
      exact Nat.le_trans (show p.length + q.length ≤ 14 by omega) (by decide)
    rw [Int.toNat_natCast]
    have nl : H l = none := none_of s0 hl
    have s1 : Same H (upd (upd H l0 (.lst [.ref z])) l (.lst (List.replicate (p.length + q.length) [V.ref z]).flatten)) := Same.mut s0 nl
    have L0 := LQ.rep (K := K) (H := upd H l0 (.lst [.ref z])) (l := l) fz (p.length + q.length)
    generalize upd (upd H l0 (.lst [.ref z])) l (.lst (List.replicate (p.length + q.length) [V.ref z]).flatten) = H1 at s1 L0 ⊢
    have Z0 : Bd.Ib 0 (List.replicate (p.length + q.length) 0) := fun r hr => ⟨0, (List.mem_replicate.mp hr).2, Nat.le_refl _⟩
    have tk : ∀ {i : Nat}, i ≤ p.length → (p.take i).length = i := fun h => by rw [List.length_take]; omega
    have tkq : ∀ {i : Nat}, i ≤ q.length → (q.take i).length = i := fun h => by rw [List.length_take]; omega
    have P1 : ∀ i, i ≤ p.length → Bd.Ib (i * 36) (Bd.px (List.replicate (p.length + q.length) 0) 0 (p.take i) q) := fun i hi => by
      have := Z0.px (p.take i) (A := 6) (C := 6) (q := q) (sh := 0) (ip.sub fun r hr => List.mem_of_mem_take hr) iq (by rw [tk hi, List.length_replicate]; omega)
      rw [tk hi, Nat.zero_add] at this
      exact this
    have P2 : ∀ i j, i < p.length → j ≤ q.length → Bd.Ib (i * 36 + 36) (Bd.ax (Bd.px (List.replicate (p.length + q.length) 0) 0 (p.take i) q) i (-(p.getD i 0)) (q.take j)) := fun i j hi hj => by
      obtain ⟨m, em, bm⟩ := ip _ (Bd.getD_mem hi)
      rw [em, ← Rat.intCast_neg]
      exact (P1 i (by omega)).ax (A := 6) (C := 6) (by rw [Int.natAbs_neg]; exact bm) (iq.sub fun r hr => List.mem_of_mem_take hr) (by rw [Bd.px_len, List.length_replicate, tkq hj]; omega)
    refine ⟨_, rfl, a, _, rfl, Same.tup s1 ha, ?_⟩
    refine for_it (walk_et (K := K) (a := a) (xs := as.map V.ref)) (fun i σ H' => ∃ o1 o2 o3 o4, σ = [some (.ref a), some (.ref b), some (.ref l), o1, o2, o3, o4] ∧ Same H H' ∧ LQ K H' l (Bd.px (List.replicate (p.length + q.length) 0) 0 (p.take i) q)) ⟨_, _, _, _, rfl, s1, L0⟩ ?_ ?_ ?_
    · rintro i σ H' hi ⟨o1, o2, o3, o4, rfl, e, hL⟩
      exact Same.tup e ha
    · rintro i v σ H' H2 hi ⟨o1, o2, o3, o4, rfl, e, hL⟩ ⟨t, x1, x2, rfl, nt, rfl, e1, ev⟩
      rw [List.length_map] at hi
      obtain ⟨y, h1, h2, h3⟩ := frs_get hp (i := i) (by omega)
      obtain rfl : x2 = .ref y := Option.some.inj (ev.symm.trans h2)
      obtain rfl : V.int (i : Nat) = x1 := Option.some.inj e1
      have st : Same H' (upd H' t (.tup [.int (i : Nat), .ref y])) := Same.new nt
      refine ⟨t, _, rfl, SqT.new upd_same, rfl, _, _, rfl, _, _, rfl, rfl, ?_⟩
      refine ⟨_, rfl, b, _, rfl, Same.tup (e.trans st) hb, ?_⟩
      refine for_it (walk_et (K := K) (a := b) (xs := bs.map V.ref)) (fun j σ H' => ∃ o3 o4, σ = [some (.ref a), some (.ref b), some (.ref l), some (.int (i : Nat)), some (.ref y), o3, o4] ∧ Same H H' ∧ LQ K H' l (Bd.ax (Bd.px (List.replicate (p.length + q.length) 0) 0 (p.take i) q) i (-(p.getD i 0)) (q.take j))) ⟨_, _, rfl, e.trans st, hL.mono st⟩ ?_ ?_ ?_
      · rintro j σ H3 hj ⟨o3, o4, rfl, e3, hL3⟩
        exact Same.tup e3 hb
      · rintro j v σ H3 H4 hj ⟨o3, o4, rfl, e3, hL3⟩ ⟨t', x1, x2, rfl, nt', rfl, e1, ev⟩
        rw [List.length_map] at hj
        obtain ⟨y', g1, g2, g3⟩ := frs_get hq (i := j) (by omega)
        obtain rfl : x2 = .ref y' := Option.some.inj (ev.symm.trans g2)
        obtain rfl : V.int (j : Nat) = x1 := Option.some.inj e1
        have st' : Same H3 (upd H3 t' (.tup [.int (j : Nat), .ref y'])) := Same.new nt'
        refine ⟨t', _, rfl, SqT.new upd_same, rfl, _, _, rfl, _, _, rfl, rfl, ?_⟩
        have e4 := e3.trans st'
        have hL4 := hL3.mono st'
        generalize upd H3 t' (.tup [.int (j : Nat), .ref y']) = H4 at e4 hL4 ⊢
        have ll := Bd.ax_len (q.take j) (Bd.px (List.replicate (p.length + q.length) 0) 0 (p.take i) q) i (-(p.getD i 0))
        rw [Bd.px_len, List.length_replicate] at ll
        obtain ⟨xs, u, hx1, hx2, hx3, hx4⟩ := hL4.get (i := i + j) (by omega)
        have bR := Ib.bt (P2 i j (by omega) (by omega)) (B := 10) (Nat.lt_of_lt_of_le (show i * 36 + 36 < 289 by omega) (by decide)) (by decide) (i + j)
        have bp := Ib.bt ip (B := 3) (by decide) (by decide) i
        have bq := Ib.bt iq (B := 3) (by decide) (by decide) j
        refine ⟨_, rfl, _, rfl, _, rfl, _, _, rfl, rfl, l, xs, _, .ref u, rfl, rfl, hx1, atI_nat (j := i + j) hx3, ?_⟩
        refine ⟨_, rfl, _, rfl, y, y', _, _, rfl, h3.mono e4, g3.mono e4, bp.lo (by decide), bq.lo (by decide), trivial, fun H5 w5 e5 f5 => ?_⟩
        refine ⟨u, w5, _, _, rfl, hx4.mono e5, f5, bR.lo (by decide), (bp.mul bq).lo (by decide), trivial, fun H6 w6 e6 f6 => ?_⟩
        have hL6 := hL4.mono (e5.trans e6)
        obtain ⟨ys, y1, y2, y3⟩ := hL6.set (i := i + j) f6
        refine ⟨_, rfl, _, rfl, _, rfl, _, _, rfl, rfl, l, ys, _, i + j, rfl, rfl, y1, ix_nat (by omega), ?_⟩
        refine ⟨_, _, rfl, Same.mut (e4.trans (e5.trans e6)) nl, ?_⟩
        rw [take_succ_getD (by omega), Bd.ax_snoc, tkq (by omega)]
        have er : ∀ u v w : Rat, w + u * v = w + -(-u * v) := fun u v w => by grind
        dsimp only at y3
        rw [er] at y3
        exact y3
      · rintro σ H3 ⟨o3, o4, rfl, e3, hL3⟩
        refine ⟨_, _, _, _, rfl, e3, ?_⟩
        rw [List.length_map, lq', List.take_length] at hL3
        rw [take_succ_getD (by omega), Bd.px_snoc, tk (by omega), Nat.zero_add]
        exact hL3
    · rintro σ H' ⟨o1, o2, o3, o4, rfl, e, hL⟩
      rw [List.length_map, lp', List.take_length] at hL
      obtain ⟨cs, c1, c2, c3, c4⟩ := hL.sql
      refine ⟨_, rfl, l, cs, _, rfl, c2, c3, ?_, fun H2 t r e2 tr hr => k H2 t r (e.trans e2) tr hr⟩
      rw [Bd.px_len, List.length_replicate]; omega
end
end Bw

namespace Bw
open PySem PySem.Spec PyProof.Rows L2 Bz RT
theorem ne_some {H : Hp} {a b : Addr} {u : HO} (h : H a = some u) (k : H b = none) : a ≠ b := fun z => by rw [z, k] at h; cases h
theorem last_get {α : Type} {xs : List α} {v : α} (h : xs[xs.length - 1]? = some v) (n : 0 < xs.length) : atI xs (-1) = some v := by
  unfold atI ixN
  rw [if_neg (by decide), if_pos (by omega), show ((-1 : Int) + (xs.length : Nat)).toNat = xs.length - 1 by omega]
  exact h
section
variable {P : Program} {w : World} {K : PySem.W.Frag} {mg : Str → Option Value} {base : Heap}
def spDivided (K : PySem.W.Frag) : Sp := fun vs H Q _ => ∃ (a b : Addr) (p q : List Rat) (Bp C : Nat), vs = [.ref a, .ref b] ∧ Po K H a p ∧ Po K H b q ∧ Bd.Tr p ∧ Bd.Tr q ∧ q ≠ [] ∧ Bd.Cm p Bp ∧ Bd.Cm q C ∧ p.length ≤ 100 ∧
  Bp + (p.length + 1 - q.length) * (C + 1) + 2 * C ≤ 2 ^ 26 ∧ ∀ H' t tF tR F R, Same H H' → SqT K H' t [.ref tF, .ref tR] → Po K H' tF F → Po K H' tR R → Bd.Dv p q F R Bp C → Q (.ref t) H'
theorem ok_divided {x : Str} (F : Has K mg x s_divided ["p", "q"]) (T : Txt P K mg base) (cT : Prom P w K mg base 1 "trimmed" ["some"] (spTrimmed K)) (cP : Prom P w K mg base 41 "plus" ["a", "b"] (spPlus K)) (cM : Prom P w K mg base 41 "times" ["a", "b"] (spTimes K))
    (cO : Prom P w K mg base 41 "over" ["a", "b"] (spOver K)) (cN : Prom P w K mg base 1 "negated" ["a"] (spNegated K)) : Prom P w K mg base 42 x ["p", "q"] (spDivided K) := by
  refine F.prom sc_divided (fun vs H Q E h => ?_) (fun f cdv A outer s H vs Q E hr h => ?_)
  · obtain ⟨a, b, p, q, Bp, C, rfl, _⟩ := h; rfl
  · obtain ⟨a, b, p, q, Bp, C, rfl, ⟨as, ha, hp⟩, ⟨bs, hb, hq⟩, tp, tq, nq, cp, cq, lp, hB, k⟩ := h
    obtain ⟨z, mz, fz⟩ := T.zero
    have lp' := paired_len hp
    have lq' := paired_len hq
    have lq0 : 0 < q.length := List.length_pos_iff.mpr nq
    refine ⟨_, pss_cons (ps_par (i := 2) (j := 3) (by rfl) sc_divided.nd rfl rfl (by decide) rfl rfl (pa_cons (pe_callTy call_list_of (by rfl) T.lst boot_list (pa_cons (pv 0) pa_nil)) (pa_cons (pe_op op_rep (pe_lst (pa_cons (pe_glob (v := .ref z) rfl mz rfl) pa_nil)) (pe_callB call_len_seq (by rfl) T.len boot_len (pa_cons (pv 0) pa_nil))) pa_nil)) (by rfl))
      (pss_cons (ps_while PassesOwn.never (pt_cmpR op_ge (pe_callB call_len_seq (by rfl) T.len boot_len (pa_cons (pv 2) pa_nil)) (pe_callB call_len_seq (by rfl) T.len boot_len (pa_cons (pv 1) pa_nil)) (nomark _))
        (pss_cons (ps_par (i := 4) (j := 5) (by rfl) sc_divided.nd rfl rfl (by decide) rfl rfl (pa_cons (pe_ca cO hr (pa_cons (pe_ix ix_list (pv 2) (pe_un un_neg pe_int) (fun _ _ => rfl)) (pa_cons (pe_ix ix_tup (pv 1) (pe_un un_neg pe_int) (fun _ _ => rfl)) pa_nil)))
            (pa_cons (pe_op op_sub (pe_callB call_len_seq (by rfl) T.len boot_len (pa_cons (pv 2) pa_nil)) (pe_callB call_len_seq (by rfl) T.len boot_len (pa_cons (pv 1) pa_nil))) pa_nil)) (by rfl))
        (pss_cons (ps_asg (pv 4) (pg_sub (pv 3) (pv 5) set_list))
        (pss_cons (ps_for PassesOwn.never rfl (pi_enumT (by rfl) T.enu (pa_cons (pv 1) pa_nil)) (pg_tup rfl (pgs_cons (pg_name (i := 6) sc_divided.nd rfl (.inl rfl)) (pgs_cons (pg_name (i := 7) sc_divided.nd rfl (.inl rfl)) pgs_nil)))
          (pss_one (ps_asg (pe_ca cP hr (pa_cons (pe_ix ix_list (pv 2) (pe_op op_add (pv 5) (pv 6)) (fun _ _ => rfl)) (pa_cons (pe_ca cN (hr.mono (by decide)) (pa_cons (pe_ca cM hr (pa_cons (pv 4) (pa_cons (pv 7) pa_nil))) pa_nil)) pa_nil))) (pg_sub (pv 2) (pe_op op_add (pv 5) (pv 6)) set_list))))
        (pss_one (ps_set (i := 2) sc_divided.nd rfl (.inl rfl) (pe_callTy call_list_of (by rfl) T.lst boot_list (pa_cons (pe_ca cT (hr.mono (by decide)) (pa_cons (pv 2) pa_nil)) pa_nil))))))))
      (pss_one (ps_ret (pe_tup (pa_cons (pe_ca cT (hr.mono (by decide)) (pa_cons (pv 3) pa_nil)) (pa_cons (pe_callTy call_tuple_of (by rfl) T.tup boot_tuple (pa_cons (pv 2) pa_nil)) pa_nil)))))), ?_⟩
    refine ⟨_, rfl, a, _, rfl, .inr ha, fun l0 n0 => ?_⟩
    have s0 : Same H (upd H l0 (.lst (as.map V.ref))) := Same.new n0
    have Lr0 : LQ K (upd H l0 (.lst (as.map V.ref))) l0 p := ⟨as, upd_same, Frs.mono hp s0⟩
    generalize upd H l0 (.lst (as.map V.ref)) = H1 at s0 Lr0 ⊢
    refine ⟨by show 1 ≤ sizeLine; decide, fun l1 n1 => ?_⟩
    have s1 : Same H (upd H1 l1 (.lst [.ref z])) := s0.trans (Same.new n1)
    have Lr1 := Lr0.mono (Same.new (o := .lst [.ref z]) n1)
    refine ⟨_, rfl, a, _, rfl, .inr (Same.tup s1 ha), ?_⟩
    refine ⟨l1, ((as.map V.ref).length : Nat), _, rfl, rfl, upd_same, by omega, ?_, ?_, fun l2 n2 => ?_⟩
    · rw [List.length_map]; omega
    · rw [Int.toNat_natCast, List.length_map, List.length_cons, List.length_nil, Nat.zero_add, Nat.one_mul]
      exact Nat.le_trans (show as.length ≤ 100 by omega) (by decide)
    rw [Int.toNat_natCast, List.length_map, lp']
    have s2 : Same H (upd (upd H1 l1 (.lst [.ref z])) l2 (.lst (List.replicate p.length [V.ref z]).flatten)) := s1.trans (Same.new n2)
    have Lr2 := Lr1.mono (Same.new (o := .lst (List.replicate p.length [V.ref z]).flatten) n2)
    have Lf2 := LQ.rep (K := K) (H := upd H1 l1 (.lst [.ref z])) (l := l2) fz p.length
    have ne2 : l0 ≠ l2 := by obtain ⟨cs, c1, _⟩ := Lr1; exact ne_some c1 n2
    have nl2 := none_of s1 n2
    generalize upd (upd H1 l1 (.lst [.ref z])) l2 (.lst (List.replicate p.length [V.ref z]).flatten) = H2 at s2 Lr2 Lf2 ⊢
    refine ⟨_, _, rfl, ?_⟩
    refine ⟨fun m σ H' => ∃ lr lf R Fd o4 o5 o6 o7, σ = [some (.ref a), some (.ref b), some (.ref lr), some (.ref lf), o4, o5, o6, o7] ∧ Same H H' ∧ LQ K H' lr R ∧ LQ K H' lf Fd ∧ lr ≠ lf ∧ H lr = none ∧ H lf = none ∧ m = R.length ∧ Bd.DvI p q Fd R Bp C,
      ⟨_, l0, l2, p, _, _, _, _, _, rfl, s2, Lr2, Lf2, ne2, n0, nl2, rfl, Bd.DvI.start tp cp⟩, ?_⟩
    rintro m σ H' ⟨lr, lf, R, Fd, o4, o5, o6, o7, rfl, e, hR, hF, ne, nr, nf, em, D⟩
    obtain ⟨cs, c1, c2, c3, c4⟩ := hR.sql
    have tb := Same.tup e hb
    refine ⟨_, rfl, lr, _, rfl, .inl c2, _, rfl, b, _, rfl, .inr tb, _, _, rfl, rfl, _, rfl, ?_⟩
    rw [List.length_map, List.length_map, c4, lq']
    refine ite_and (fun ge => ?_) (fun ge => ?_)
    · have ge' : q.length ≤ R.length := by have := of_decide_eq_true ge; omega
      have cR := D.cm'
      have b1 := bt_get cR (R.length - 1)
      have b2 := bt_get cq (q.length - 1)
      have q0 := Bd.getD_last_ne tq nq
      obtain ⟨u1, _, g1, g2⟩ := frs_get c3 (i := R.length - 1) (by omega)
      obtain ⟨u2, _, g3, g4⟩ := frs_get hq (i := q.length - 1) (by omega)
      refine ⟨_, fun _ _ h => h, ?_⟩
      refine ⟨_, rfl, _, rfl, lr, _, _, .ref u1, rfl, rfl, c2, ?_, ?_⟩
      · exact last_get (by rw [List.length_map, c4]; exact g1) (by rw [List.length_map]; omega)
      refine ⟨_, rfl, _, rfl, b, _, _, .ref u2, rfl, rfl, tb, ?_, ?_⟩
      · exact last_get (by rw [List.length_map, lq']; exact g3) (by rw [List.length_map]; omega)
      refine ⟨u1, u2, _, _, rfl, g2, g4.mono e, b1.lo (by omega), b2.lo (by omega), q0, fun H3 v e3 hv => ?_⟩
      have bf := b1.div b2 q0
      dsimp only at hv
      refine ⟨_, rfl, lr, _, rfl, .inl (Same.seq e3 c2), _, rfl, b, _, rfl, .inr (Same.tup e3 tb), _, _, rfl, rfl, ?_⟩
      dsimp only
      rw [List.length_map, List.length_map, c4, lq', show (R.length : Int) - (q.length : Int) = ((R.length - q.length : Nat) : Int) by omega]
      refine ⟨_, _, rfl, ?_⟩
      -- found[shift] = factor
      have hF3 := hF.mono e3
      have hR3 := hR.mono e3
      obtain ⟨ys, y1, y2, y3⟩ := hF3.set (i := R.length - q.length) hv
      have lFd := D.lf
      have lRp := D.lr
      refine ⟨_, rfl, _, rfl, _, rfl, lf, ys, _, R.length - q.length, rfl, rfl, y1, ix_nat (by omega), ?_⟩
      have e4 : Same H (upd H3 lf (.lst (ys.set (R.length - q.length) (.ref v)))) := Same.mut (e.trans e3) nf
      have hR4 := hR3.other y1 (ys := ys.set (R.length - q.length) (.ref v)) ne
      have hv4 := hv.tm (TupS.lst (o := .lst (ys.set (R.length - q.length) (.ref v))) y1)
      generalize upd H3 lf (.lst (ys.set (R.length - q.length) (.ref v))) = H4 at e4 hR4 hv4 y3 ⊢
      refine ⟨_, rfl, b, _, rfl, Same.tup e4 hb, ?_⟩
      refine for_it (walk_et (K := K) (a := b) (xs := bs.map V.ref)) (fun j σ H' => ∃ o6 o7, σ = [some (.ref a), some (.ref b), some (.ref lr), some (.ref lf), some (.ref v), some (.int ((R.length - q.length : Nat) : Int)), o6, o7] ∧ Same H H' ∧ Fr K H' v (R.getD (R.length - 1) 0 / q.getD (q.length - 1) 0) ∧
        LQ K H' lr (Bd.ax R (R.length - q.length) (R.getD (R.length - 1) 0 / q.getD (q.length - 1) 0) (q.take j)) ∧ LQ K H' lf (Fd.set (R.length - q.length) (R.getD (R.length - 1) 0 / q.getD (q.length - 1) 0))) ⟨_, _, rfl, e4, hv4, hR4, y3⟩ ?_ ?_ ?_
      · rintro j σ H5 hj ⟨o6, o7, rfl, e5, _⟩
        exact Same.tup e5 hb
      · rintro j x σ H5 H6 hj ⟨o6, o7, rfl, e5, f5, hR5, hF5⟩ ⟨t', x1, x2, rfl, nt', rfl, e1, ev⟩
        rw [List.length_map] at hj
        obtain ⟨y', j1, j2, j3⟩ := frs_get hq (i := j) (by omega)
        obtain rfl : x2 = .ref y' := Option.some.inj (ev.symm.trans j2)
        obtain rfl : V.int (j : Nat) = x1 := Option.some.inj e1
        have st' : Same H5 (upd H5 t' (.tup [.int (j : Nat), .ref y'])) := Same.new nt'
        refine ⟨t', _, rfl, SqT.new upd_same, rfl, _, _, rfl, _, _, rfl, rfl, ?_⟩
        have e6 := e5.trans st'
        have hR6 := hR5.mono st'
        have hF6 := hF5.mono st'
        have f6 := f5.mono st'
        generalize upd H5 t' (.tup [.int (j : Nat), .ref y']) = H6 at e6 hR6 hF6 f6 ⊢
        have ll := Bd.ax_len (q.take j) R (R.length - q.length) (R.getD (R.length - 1) 0 / q.getD (q.length - 1) 0)
        have tkq : (q.take j).length = j := by rw [List.length_take]; omega
        obtain ⟨xs, u, hx1, hx2, hx3, hx4⟩ := hR6.get (i := R.length - q.length + j) (by omega)
        rw [Bd.ax_get _ _ _ _ (by omega), if_neg (by omega)] at hx4
        have bR := bt_get cR (R.length - q.length + j)
        have bq := bt_get cq j
        refine ⟨_, rfl, _, rfl, _, rfl, _, _, rfl, rfl, lr, xs, _, .ref u, rfl, rfl, hx1, atI_nat (j := R.length - q.length + j) hx3, ?_⟩
        refine ⟨_, rfl, _, rfl, v, y', _, _, rfl, f6, j3.mono e6, bf.lo (by omega), bq.lo (by omega), trivial, fun H7 w7 e7 f7 => ?_⟩
        refine ⟨w7, _, rfl, f7, fun H8 w8 e8 f8 => ?_⟩
        refine ⟨u, w8, _, _, rfl, hx4.mono (e7.trans e8), f8, bR.lo (by omega), ((bf.mul bq).neg).lo (by omega), trivial, fun H9 w9 e9 f9 => ?_⟩
        have e69 := e7.trans (e8.trans e9)
        have hR9 := hR6.mono e69
        obtain ⟨zs, z1, z2, z3⟩ := hR9.set (i := R.length - q.length + j) f9
        refine ⟨_, rfl, _, rfl, _, rfl, _, _, rfl, rfl, lr, zs, _, R.length - q.length + j, rfl, rfl, z1, ix_nat (by omega), ?_⟩
        refine ⟨_, _, rfl, Same.mut (e6.trans e69) nr, (f6.mono e69).tm (TupS.lst z1), ?_, (hF6.mono e69).other z1 (Ne.symm ne)⟩
        rw [take_succ_getD (by omega), Bd.ax_snoc, tkq, Bd.ax_get _ _ _ _ (by omega), if_neg (by omega)]
        exact z3
      · rintro σ H5 ⟨o6, o7, rfl, e5, f5, hR5, hF5⟩
        rw [List.length_map, lq', List.take_length] at hR5
        obtain ⟨ds, d1, d2, d3, d4⟩ := hR5.sql
        rw [Bd.ax_len] at d4
        refine ⟨_, rfl, lr, ds, _, rfl, d2, d3, by rw [Bd.ax_len]; omega, fun H6 t R' e6 tr hR' => ?_⟩
        obtain ⟨D', lt⟩ := D.step tq nq cq ge' tr
        obtain ⟨gs, i1, i2⟩ := hR'
        refine ⟨t, _, rfl, .inr i1, fun l9 n9 => ?_⟩
        have e7 : Same H6 (upd H6 l9 (.lst (gs.map V.ref))) := Same.new n9
        have hF6 := hF5.mono e6
        refine ⟨R'.length, by omega, l9, lf, R', _, _, _, _, _, rfl, e5.trans (e6.trans e7), ⟨gs, upd_same, i2.mono e7⟩, hF6.mono e7, ?_, none_of (e5.trans e6) n9, nf, rfl, D'⟩
        obtain ⟨js, k1, _⟩ := hF6
        exact Ne.symm (ne_some k1 n9)
    · have lt' : R.length < q.length := by have := of_decide_eq_false ge; omega
      obtain ⟨ds, d1, d2, d3, d4⟩ := hF.sql
      have lFd := D.lf
      refine ⟨_, rfl, lf, ds, _, rfl, d2, d3, by omega, fun H3 tF F e3 tr hF' => ?_⟩
      refine ⟨_, rfl, lr, _, rfl, .inl ⟨Same.seq e3 c2, fun tR nR => ?_⟩⟩
      have e4 : Same H3 (upd H3 tR (.tup (cs.map V.ref))) := Same.new nR
      refine ⟨by show 2 ≤ sizeLine; decide, fun t nt => ?_⟩
      have e5 : Same (upd H3 tR (.tup (cs.map V.ref))) (upd (upd H3 tR (.tup (cs.map V.ref))) t (.tup [.ref tF, .ref tR])) := Same.new nt
      refine k _ t tF tR F R (e.trans (e3.trans (e4.trans e5))) (SqT.new upd_same) (hF'.mono (e4.trans e5)) ?_ (D.done lt' tr)
      exact Po.mono ⟨cs, SqT.new upd_same, c3.mono (e3.trans e4)⟩ e5
end
end Bw

namespace Bw
open PySem PySem.Spec PyProof.Rows L2 Bz RT
def frD (r : Rat) : PyData := .tuple [.int r.num, .int (r.den : Nat)]
theorem frs_dp {K : PySem.W.Frag} {H : Hp} : ∀ {as : List Addr} {p : List Rat}, Frs K H as p → DpAll K H (as.map V.ref) (p.map frD)
  | _, _, .nil => .nil
  | _, _, .cons h t => .cons (fr_dp h) (frs_dp t)
theorem po_dp {K : PySem.W.Frag} {H : Hp} {a : Addr} {p : List Rat} (h : Po K H a p) : Dp K H (.ref a) (.tuple (p.map frD)) := by
  obtain ⟨as, h1, h2⟩ := h
  exact .tup h1 (frs_dp h2)
theorem po_shaped : ∀ (p : List Rat), SeqAt.shaped (.tuple (p.map frD)) = true := by
  intro p
  unfold SeqAt.shaped
  rw [Bool.and_eq_true]
  constructor
  · simp only [PyData.canLay0]
    induction p with
    | nil => simp [PyData.canLay0, PyData.canLayAll0]
    | cons a p ih => simp_all [PyData.canLay0, PyData.canLayAll0, frD]
  · refine decide_eq_true ?_
    have : (PyData.tuple (p.map frD)).depth ≤ 2 := by
      induction p with
      | nil => simp [PyData.depth, PyData.depthAll]
      | cons a p ih => simp_all [PyData.depth, PyData.depthAll, frD]
    omega
theorem po_empty (p : List Rat) : PyData.eqv (.tuple (p.map frD)) (.tuple []) = decide (p = []) := by
  cases p with
  | nil => rfl
  | cons a p => simp [PyData.eqv, PyData.eqvAll]
section
variable {P : Program} {w : World} {K : PySem.W.Frag} {mg : Str → Option Value} {base : Heap}
def spRestOf (K : PySem.W.Frag) : Sp := fun vs H Q _ => ∃ (a b : Addr) (p q : List Rat) (Bp C : Nat), vs = [.ref a, .ref b] ∧ Po K H a p ∧ Po K H b q ∧ Bd.Tr p ∧ Bd.Tr q ∧ q ≠ [] ∧ Bd.Cm p Bp ∧ Bd.Cm q C ∧ p.length ≤ 100 ∧
  Bp + (p.length + 1 - q.length) * (C + 1) + 2 * C ≤ 2 ^ 26 ∧ ∀ H' tR F R, Same H H' → Po K H' tR R → Bd.Dv p q F R Bp C → Q (.ref tR) H'
theorem ok_rest_of {x : Str} (F : Has K mg x s_rest_of ["p", "q"]) (cD : Prom P w K mg base 42 "divided" ["p", "q"] (spDivided K)) : Prom P w K mg base 43 x ["p", "q"] (spRestOf K) := by
  refine F.prom sc_rest_of (fun vs H Q E h => ?_) (fun f cdv A outer s H vs Q E hr h => ?_)
  · obtain ⟨a, b, p, q, Bp, C, rfl, _⟩ := h; rfl
  · obtain ⟨a, b, p, q, Bp, C, rfl, hp, hq, tp, tq, nq, cp, cq, lp, hB, k⟩ := h
    refine ⟨_, pss_one (ps_ret (pT1 (pe_ca cD hr (pa_cons (pv 0) (pa_cons (pv 1) pa_nil))))), ?_⟩
    refine ⟨_, rfl, _, rfl, a, b, p, q, Bp, C, rfl, hp, hq, tp, tq, nq, cp, cq, lp, hB, fun H' t tF tR F R e ht hF hR D => ?_⟩
    exact ⟨t, _, 1, _, rfl, rfl, ht, atI_nat (j := 1) rfl, k H' tR F R e hR D⟩
def spCommon (K : PySem.W.Frag) : Sp := fun vs H Q _ => ∃ (a b : Addr) (p q : List Rat) (Bp Bq C : Nat), vs = [.ref a, .ref b] ∧ Po K H a p ∧ Po K H b q ∧ Bd.CP p q Bp Bq C ∧ p.length ≤ 20 ∧ q.length ≤ 20 ∧
  3 * (C * Bd.wv q.length) ≤ 2 ^ 26 ∧ ∀ H' t g, Same H H' → Po K H' t g → Bd.CD p q C g → Q (.ref t) H'
theorem bt1 : Bt 1 1 := ⟨by decide, by decide⟩
theorem ok_common {x : Str} (F : Has K mg x s_common ["p", "q"]) (T : Txt P K mg base) (cR : Prom P w K mg base 43 "rest_of" ["p", "q"] (spRestOf K)) (cS : Prom P w K mg base 42 "scaled" ["p", "factor"] (spScaled K)) (cO : Prom P w K mg base 41 "over" ["a", "b"] (spOver K)) :
    Prom P w K mg base 44 x ["p", "q"] (spCommon K) := by
  refine F.prom sc_common (fun vs H Q E h => ?_) (fun f cdv A outer s H vs Q E hr h => ?_)
  · obtain ⟨a, b, p, q, Bp, Bq, C, rfl, _⟩ := h; rfl
  · obtain ⟨a, b, p0, q0, Bp, Bq, C, rfl, hp0, hq0, hC, lp0, lq0, hB, k⟩ := h
    obtain ⟨o, mo, fo⟩ := T.one
    -- scaled(r, over(ONE, r[-1]))
    have body : ∀ (i : Nat) (σ : L2.St) (H1 : Hp) (Q1 : VK) (u : Addr) (R : List Rat) (B : Nat), σ[i]? = some (some (.ref u)) → Po K H1 u R → Bd.Tr R → R ≠ [] → Bd.Cm R B → B ≤ 2 ^ 26 → R.length ≤ 1000 →
        (∀ H2 t r, Same H1 H2 → Bd.TrimOf (R.map (· * (1 / R.getD (R.length - 1) 0))) r → Po K H2 t r → Q1 (.ref t) H2) →
        tCall (spScaled K) [] E0 (tCons (tVar i) (tCons (tCall (spOver K) [] E0 (tCons (tC (.ref o)) (tCons (tOp (rIxT K) (tVar i) (tUn (rU fun i => .int (-i)) (tC (.int 1)))) tNil))) tNil)) σ H1 Q1 := by
      intro i σ H1 Q1 u R B hσ hR tr nR cB hB' lR kk
      have l0 : 0 < R.length := List.length_pos_iff.mpr nR
      obtain ⟨gs, g1, g2⟩ := hR
      obtain ⟨u2, _, g3, g4⟩ := frs_get g2 (i := R.length - 1) (by omega)
      have lg := paired_len g2
      have bl := bt_get cB (R.length - 1)
      have nz := Bd.getD_last_ne tr nR
      refine ⟨_, hσ, _, hσ, 1, rfl, u, _, _, .ref u2, rfl, rfl, g1, ?_, ?_⟩
      · exact last_get (by rw [List.length_map, lg]; exact g3) (by rw [List.length_map]; omega)
      refine ⟨o, u2, 1, _, rfl, fo _, g4, bt1.lo (by decide), bl.lo hB', nz, fun H2 c e2 hc => ?_⟩
      dsimp only at hc
      refine ⟨u, c, R, _, rfl, Po.mono ⟨gs, g1, g2⟩ e2, hc, lR, fun r hr => (bt_cm cB hr).lo hB', ?_, fun H3 t r e3 ht hr => kk H3 t r (e2.trans e3) ht hr⟩
      have := bt1.div bl nz
      have b' : Bt (B + 1) (1 / R.getD (R.length - 1) 0) := this.mono (by omega)
      -- one over a fraction: no more bits than it
      refine ⟨?_, ?_⟩
      · rw [← rat_div]
        have h := (num_dvd (t := (1 : Rat).num * ((R.getD (R.length - 1) 0).den : Nat)) (b := ((1 : Rat).den : Nat) * (R.getD (R.length - 1) 0).num) (Int.mul_ne_zero (by decide) (fun z => nz (Rat.num_eq_zero.mp z)))).1
        have e1 : ((1 : Rat).num * ((R.getD (R.length - 1) 0).den : Nat) : Int) = ((R.getD (R.length - 1) 0).den : Nat) := by
          show (1 : Int) * _ = _
          rw [Int.one_mul]
        rw [e1, Int.natAbs_natCast] at h
        rw [e1]
        have := (bl.lo hB').2
        unfold Low at this ⊢
        rw [Int.natAbs_natCast] at this
        exact Nat.lt_of_le_of_lt h this
      · rw [← rat_div]
        have h := (num_dvd (t := (1 : Rat).num * ((R.getD (R.length - 1) 0).den : Nat)) (b := ((1 : Rat).den : Nat) * (R.getD (R.length - 1) 0).num) (Int.mul_ne_zero (by decide) (fun z => nz (Rat.num_eq_zero.mp z)))).2
        have e1 : (((1 : Rat).den : Nat) * (R.getD (R.length - 1) 0).num : Int) = (R.getD (R.length - 1) 0).num := by
          show (1 : Int) * _ = _
          rw [Int.one_mul]
        rw [e1] at h
        rw [e1]
        have := (bl.lo hB').1
        unfold Low at this ⊢
        rw [Int.natAbs_natCast]
        exact Nat.lt_of_le_of_lt h this
    have neq : ∀ {H1 : Hp} {Q1 : VK} {u : Addr} {R : List Rat}, Po K H1 u R → (∀ H2, Same H1 H2 → Q1 (.bl (!decide (R = []))) H2) →
        (0 ≤ sizeLine ∧ ∀ p, H1 p = none → rNeD K (.ref u) (.ref p) (upd H1 p (.tup [])) Q1) := fun {H1 Q1 u R} hR kk => by
      refine ⟨Nat.zero_le _, fun p np => ?_⟩
      have e : Same H1 (upd H1 p (.tup [])) := Same.new np
      refine ⟨_, _, po_dp (hR.mono e), .tup (SqT.new upd_same) .nil, po_shaped R, rfl, ?_⟩
      rw [po_empty]
      exact kk _ e
    refine ⟨_, pss_cons (ps_while PassesOwn.never (pt_cmpR (op_neD hr.units) (pv 1) (pe_tup pa_nil) (nomark _))
        (pss_cons (ps_par (i := 0) (j := 1) (by rfl) sc_common.nd rfl rfl (by decide) rfl rfl (pa_cons (pv 1) (pa_cons (pe_ca cR hr (pa_cons (pv 0) (pa_cons (pv 1) pa_nil))) pa_nil)) (by rfl))
        (pss_one (ps_if (pt_cmpR (op_neD hr.units) (pv 1) (pe_tup pa_nil) (nomark _))
          (pss_one (ps_set (i := 1) sc_common.nd rfl (.inl rfl) (pe_ca cS (hr.mono (by decide)) (pa_cons (pv 1) (pa_cons (pe_ca cO (hr.mono (by decide)) (pa_cons (pe_glob (v := .ref o) rfl mo rfl) (pa_cons (pe_ix ix_tup (pv 1) (pe_un un_neg pe_int) (fun _ _ => rfl)) pa_nil))) pa_nil))))) pss_nil))))
      (pss_one (ps_ret (pe_ca cS (hr.mono (by decide)) (pa_cons (pv 0) (pa_cons (pe_ca cO (hr.mono (by decide)) (pa_cons (pe_glob (v := .ref o) rfl mo rfl) (pa_cons (pe_ix ix_tup (pv 0) (pe_un un_neg pe_int) (fun _ _ => rfl)) pa_nil))) pa_nil))))), ?_⟩
    refine ⟨fun m σ H' => ∃ u v p q, σ = [some (.ref u), some (.ref v)] ∧ Same H H' ∧ Po K H' u p ∧ Po K H' v q ∧ m = q.length ∧ p.length ≤ 20 ∧ q.length ≤ 20 ∧ Bd.CI p0 q0 Bp Bq C p q, ⟨_, a, b, p0, q0, rfl, Same.refl _, hp0, hq0, rfl, lp0, lq0, Bd.CI.start hC⟩, ?_⟩
    rintro m σ H' ⟨u, v, p, q, rfl, e, hp, hq, em, lp, lq, c⟩
    refine ⟨_, rfl, neq hq fun H2 e2 => ?_⟩
    refine ⟨_, rfl, ?_⟩
    by_cases nq : q = []
    · subst nq
      refine iteNS rfl ?_
      obtain ⟨B, cB, hb⟩ := c.pbits hC
      refine body 0 _ H2 _ u p B rfl (hp.mono e2) c.euc.trp c.euc.ne cB (by omega) (by omega) fun H3 t r e3 ht hr => ?_
      exact k H3 t r (e.trans (e2.trans e3)) hr (c.done hC ht)
    · rw [decide_eq_false nq]
      obtain ⟨b1, b2, cb1, cb2, hs, hb2, next⟩ := c.bits hC nq
      have e02 := e.trans e2
      refine ⟨_, fun _ _ h => h, ?_⟩
      refine ⟨_, rfl, _, rfl, _, rfl, u, v, p, q, b1, b2, rfl, hp.mono e2, hq.mono e2, c.euc.trp, c.euc.trq, nq, cb1, cb2, by omega, by omega, fun H3 tR F R e3 hR D => ?_⟩
      refine ⟨_, _, rfl, ?_⟩
      refine ⟨_, rfl, neq hR fun H4 e4 => ?_⟩
      refine ⟨_, rfl, ?_⟩
      have hq4 := hq.mono (e2.trans (e3.trans e4))
      have lt := D.lt
      by_cases nR : R = []
      · subst nR
        refine iteNS rfl ?_
        refine ⟨0, by have := List.length_pos_iff.mpr nq; omega, v, tR, q, [], rfl, e02.trans (e3.trans e4), hq4, hR.mono e4, rfl, lq, by simp, next F [] [] D (.inl rfl) rfl (fun _ h => h) ⟨1, by decide, fun x => by rw [show Bd.cQ [] = [] from rfl, Bd.ev_nil]; grind⟩⟩
      · rw [decide_eq_false nR]
        refine iteT ?_
        refine body 1 _ H4 _ tR R _ rfl (hR.mono e4) D.tr nR D.cm (by omega) (by omega) fun H5 t r e5 ht hr => ?_
        obtain ⟨⟨s1, hm⟩, lr, er, cr⟩ := Bd.scale_last D.tr nR ht
        have nz := Bd.getD_last_ne D.tr nR
        refine ⟨r.length, by omega, v, t, q, r, rfl, e02.trans (e3.trans (e4.trans e5)), hq4.mono e5, hr, rfl, lq, by omega, next F R r D ht.tr lr cr ⟨_, by grind, er⟩⟩
end
end Bw

namespace Bw
open PySem PySem.Spec PyProof.Rows L2 Bz RT
/-! ## two rules more -/
theorem get_listP {X : Cx} : PGet X (fun o i H Q => ∃ (p : Addr) (xs : List V) (j : Nat) (v : V), o = .ref p ∧ i = .int (j : Nat) ∧ SqL X.K H p xs ∧ xs[j]? = some v ∧ Q v H) := by
  intro pins s σ H o i ov iv Q I ro ri h
  obtain ⟨p, xs, j, v, rfl, rfl, hq, he, q⟩ := h
  cases ro
  obtain ⟨t, rfl⟩ := ri
  obtain ⟨its, r, pl, hz⟩ := I.list hq
  obtain ⟨w, ew, rw'⟩ := r.get he
  have hl := r.length
  have hj : j < xs.length := by
    refine Classical.byContradiction fun n => ?_
    rw [List.getElem?_eq_none (by omega)] at he
    cases he
  have hn := line63
  exact wpAny_getItem_list pl.isList (by omega) (by omega) (by rw [Int.toNat_natCast]; simpa using ew) ⟨v, H, I, rw', q⟩
def ipC (C : Int → Int → Prop) (f : Int → Int → Int) : TIp := fun x y H Q => ∃ i j, x = .int i ∧ y = .int j ∧ C i j ∧ Q (.int (f i j)) H
theorem ip_mulX {X : Cx} : PIp X .Mult (ipC CMulX fun i j => i * j) := by
  intro pins s σ H x y v u Q I r1 r2 h
  obtain ⟨i, j, e1, e2, hc, q⟩ := h
  subst e1; subst e2
  obtain ⟨t, rfl⟩ := r1
  obtain ⟨t', rfl⟩ := r2
  exact imul_int ⟨.int _, H, I.tok _, ⟨_, rfl⟩, q⟩ hc.ok
/-! ## lists of ints -/
theorem z_get (l : List Int) {i : Nat} (h : i < l.length) : (l.map V.int)[i]? = some (.int (l.getD i 0)) := by
  rw [List.getElem?_map, List.getD_eq_getElem?_getD, List.getElem?_eq_getElem h]
  rfl
theorem ints_pr {f : Nat → Int} : ∀ {l : List Nat} {bs : List V}, Paired (fun i v => v = V.int (f i)) l bs → bs = (l.map f).map V.int
  | _, _, .nil => rfl
  | _, _, .cons e t => by rw [e, ints_pr t]; rfl
theorem range_map {α β : Type} (d : α) (p : List α) (g : α → β) : (List.range p.length).map (fun i => g (p.getD i d)) = p.map g := by
  refine List.ext_getElem (by simp) fun i h1 h2 => ?_
  have hi : i < p.length := by simpa using h1
  simp [List.getD_eq_getElem?_getD, List.getElem?_eq_getElem hi]
theorem int_rel {f : Nat → Int} : ∀ i v H H', TupS H H' → v = V.int (f i) → v = V.int (f i) := fun _ _ _ _ _ h => h
section
variable {P : Program} {w : World} {K : PySem.W.Frag} {mg : Str → Option Value} {base : Heap}
def spLowered (K : PySem.W.Frag) : Sp := fun vs H Q _ => ∃ (a : Addr) (l : List Int), vs = [.ref a] ∧ Zl K H a l ∧ l.length ≤ 1000 ∧ (l = [] ∨ Bd.gz l ≠ 0) ∧ ∀ H' t, Same H H' → H' t = some (.lst ((Bd.low l).map V.int)) → Q (.ref t) H'
theorem ok_lowered {x : Str} (F : Has K mg x s_lowered ["numbers"]) (T : Txt P K mg base) (cD : Prom P w K mg base 1 "divisor" ["a", "b"] spDivisor) : Prom P w K mg base 41 x ["numbers"] (spLowered K) := by
  refine F.prom sc_lowered (fun vs H Q E h => ?_) (fun f cdv A outer s H vs Q E hr h => ?_)
  · obtain ⟨a, l, rfl, _⟩ := h; rfl
  · obtain ⟨a, l, rfl, hl, ln, g0, k⟩ := h
    have S := seer_of (w := w) (s := s) (H := H) (outer := outer) (E := E) (cdv := cdv) T sc_lowered hr (by decide)
    refine ⟨_, pss_cons (ps_set (i := 1) sc_lowered.nd rfl (.inr rfl) pe_int)
      (pss_cons (ps_for PassesOwn.never rfl (pi_list (pv 0)) (pg_name (i := 2) sc_lowered.nd rfl (.inl rfl))
        (pss_one (ps_set (i := 1) sc_lowered.nd rfl (.inr rfl) (pe_ifExp (PW.pt (pw_or (pt_cmpR op_ne (pv 1) pe_int (nomark _)) (pw_or1 (pt_cmpR op_ne (pv 2) pe_int (nomark _))))) (pe_ca cD (hr.mono (by decide)) (pa_cons (pv 1) (pa_cons (pv 2) pa_nil))) pe_int))))
      (pss_one (ps_ret (pe_lc (own := [("number", 2)]) (g := gName 2) (tt := tYes) rfl sc_lowered.nd (pi_list (pv 0)) (blkOk_by (N := ["numbers", "by", "number"]) (sc := defScope s_lowered) (by decide +kernel))
        (fun _ _ _ _ _ => pg_name (i := 2) sc_lowered.nd rfl (Or.inl rfl)) (fun _ _ _ _ _ => pts_nil) (fun _ _ _ _ _ => pe_op (op_fdivP ⟨S.seer, S.tree, S.head, S.room⟩) (pv 2) (pv 1)))))), ?_⟩
    refine ⟨_, rfl, a, rfl, ⟨_, hl⟩, ?_⟩
    refine for_list (K := K) (a := a) (xs := l.map V.int) (fun i σ H' => ∃ o, σ = [some (.ref a), some (.int (Bd.gz (l.take i) : Nat)), o] ∧ H' = H) ⟨_, rfl, rfl⟩ ?_ ?_ ?_
    · rintro i σ H' hi ⟨o, rfl, rfl⟩
      exact hl
    · rintro i v σ H' ev ⟨o, rfl, eH⟩
      have hi : i < l.length := by
        refine Classical.byContradiction fun n => ?_
        rw [List.getElem?_eq_none (by rw [List.length_map]; omega)] at ev
        cases ev
      rw [z_get l hi] at ev
      obtain rfl := Option.some.inj ev
      have tk : l.take (i + 1) = l.take i ++ [l.getD i 0] := by
        rw [List.take_succ, List.getD_eq_getElem?_getD, List.getElem?_eq_getElem hi]
        rfl
      have fin : ∀ z : Int, z = (Int.gcd (Bd.gz (l.take i) : Nat) (l.getD i 0) : Nat) → ∃ o, [some (V.ref a), some (V.int z), some (V.int (l.getD i 0))] = [some (V.ref a), some (V.int (Bd.gz (l.take (i + 1)) : Nat)), o] ∧ H' = H := fun z hz => by
        rw [tk, Bd.gz_snoc, hz]
        exact ⟨_, rfl, eH⟩
      have nz : ∀ {z : Int}, z ≠ 0 → (!decide (V.int z = V.int 0)) = true := fun h => by rw [decide_eq_false fun y => h (V.int.inj y)]; rfl
      refine ⟨_, rfl, rfl, _, rfl, ?_⟩
      by_cases g0' : ((Bd.gz (l.take i) : Nat) : Int) = 0
      · refine iteNS (by rw [g0']) ?_
        refine ⟨_, rfl, rfl, _, rfl, ?_⟩
        by_cases n0 : l.getD i 0 = 0
        · rw [n0]
          refine iteNS rfl ?_
          have := fin 0 (by rw [g0', n0]; rfl)
          rw [n0] at this
          exact this
        · refine ite_and (fun _ => ?_) (fun e => by rw [nz n0] at e; cases e)
          exact ⟨_, rfl, _, rfl, _, _, rfl, fin _ rfl⟩
      · refine ite_and (fun _ => ?_) (fun e => by rw [nz g0'] at e; cases e)
        refine iteT ?_
        exact ⟨_, rfl, _, rfl, _, _, rfl, fin _ rfl⟩
    · rintro σ H' ⟨o, rfl, eH⟩
      subst eH
      rw [List.length_map, List.take_length]
      refine ⟨_, rfl, a, rfl, ⟨_, hl⟩, fun D nD => ?_⟩
      refine lc_map (walk_list (K := K) (a := a) (xs := l.map V.int)) (fun i v H => v = .int ((l.getD i 0).fdiv (Bd.gz l : Nat))) int_rel nD (by rw [List.length_map]; omega) (fun H2 e => Same.seq e hl) ?_ g_mono ?_
      · rintro i v H1 H2 hi e ⟨rfl, ev⟩ Q1 hq
        rw [List.length_map] at hi
        rw [z_get l hi] at ev
        obtain rfl := Option.some.inj ev
        refine ⟨rfl, ?_⟩
        refine ⟨_, rfl, _, rfl, _, _, rfl, rfl, ?_, hq _ _ (Same.refl _) rfl⟩
        rcases g0 with rfl | g0
        · simp at hi
        · omega
      · intro H1 bs e hD pr
        rw [List.length_map] at pr
        refine k H1 D e ?_
        rw [hD, ints_pr pr, range_map 0 l (fun n => n.fdiv (Bd.gz l : Nat))]
        rfl
end
end Bw

namespace Bw
open PySem PySem.Spec PyProof.Rows L2 Bz RT
theorem lcm_turn (b d : Nat) : ((b : Int) * (d : Int)).fdiv (Int.gcd b d : Nat) = (Nat.lcm b d : Nat) := by
  rw [Int.fdiv_eq_ediv_of_nonneg _ (Int.natCast_nonneg _), show Int.gcd (b : Int) (d : Int) = Nat.gcd b d from rfl, ← Int.natCast_mul, ← Int.natCast_ediv]
  rfl
theorem low_nat {n B : Nat} (h : n < 2 ^ B) (hB : B ≤ 2 ^ 26) : Low (n : Nat) := by
  show (n : Int).natAbs < _
  rw [Int.natAbs_natCast]
  exact Nat.lt_of_lt_of_le h (Nat.pow_le_pow_right (by decide) hB)
theorem low_int {n : Int} {B : Nat} (h : n.natAbs < 2 ^ B) (hB : B ≤ 2 ^ 26) : Low n := Nat.lt_of_lt_of_le h (Nat.pow_le_pow_right (by decide) hB)
section
variable {P : Program} {w : World} {K : PySem.W.Frag} {mg : Str → Option Value} {base : Heap}
def spWhole (K : PySem.W.Frag) : Sp := fun vs H Q _ => ∃ (a : Addr) (p : List Rat) (B : Nat), vs = [.ref a] ∧ Po K H a p ∧ Bd.Tr p ∧ p ≠ [] ∧ Bd.Cm p B ∧ p.length ≤ 1000 ∧ B ≤ 2 ^ 26 ∧ ∀ H' t A, Same H H' → H' t = some (.lst (A.map V.int)) → Bd.WN p B A → Q (.ref t) H'
theorem ok_whole_numbers {x : Str} (F : Has K mg x s_whole_numbers ["p"]) (T : Txt P K mg base) (cD : Prom P w K mg base 1 "divisor" ["a", "b"] spDivisor) (cL : Prom P w K mg base 41 "lowered" ["numbers"] (spLowered K)) : Prom P w K mg base 42 x ["p"] (spWhole K) := by
  refine F.prom sc_whole_numbers (fun vs H Q E h => ?_) (fun f cdv A outer s H vs Q E hr h => ?_)
  · obtain ⟨a, p, B, rfl, _⟩ := h; rfl
  · obtain ⟨a, p, B, rfl, ⟨as, ha, hp⟩, tp, np, cp, ln, hB, k⟩ := h
    have S := seer_of (w := w) (s := s) (H := H) (outer := outer) (E := E) (cdv := cdv) T sc_whole_numbers hr (by decide)
    have lp := paired_len hp
    obtain ⟨g0, bw, wn⟩ := Bd.wn_of tp np cp
    have lzb : ∀ i, Bd.lz (p.take i) < 2 ^ B := fun i => by
      obtain ⟨D, d0, d1, d2⟩ := cp
      have := Bd.lz_le (p := p.take i) d0 fun r hr => let ⟨n, e, _⟩ := d2 r (List.mem_of_mem_take hr); ⟨n, e⟩
      omega
    refine ⟨_, pss_cons (ps_set (i := 1) sc_whole_numbers.nd rfl (.inr rfl) pe_int)
      (pss_cons (ps_for PassesOwn.never rfl (pi_tup (pv 0)) (pg_name (i := 2) sc_whole_numbers.nd rfl (.inl rfl))
        (pss_one (ps_set (i := 1) sc_whole_numbers.nd rfl (.inr rfl) (pe_op (op_fdivP S) (pe_op op_mulX (pv 1) (pT1 (pv 2))) (pe_ca cD (hr.mono (by decide)) (pa_cons (pv 1) (pa_cons (pT1 (pv 2)) pa_nil)))))))
      (pss_cons (ps_setLc (i := 3) (own := [("part", 2)]) (g := gName 2) (tt := tYes) (te := tOp (rI CMulX fun i j => .int (i * j)) (tOp (rIxT K) (tVar 2) (tC (.int 0))) (tOp (rI (fun _ j => j ≠ 0) fun i j => .int (i.fdiv j)) (tVar 1) (tOp (rIxT K) (tVar 2) (tC (.int 1))))) rfl sc_whole_numbers.nd rfl rfl (sw_true rfl rfl rfl rfl) (pi_tup (pv 0)) (blkOk_by (N := ["p", "bottom", "part", "found"]) (sc := defScope s_whole_numbers) (by decide +kernel))
        (fun _ _ _ _ _ => pg_name (i := 2) sc_whole_numbers.nd rfl (Or.inl rfl)) (fun _ _ _ _ _ => pts_nil) (fun _ _ _ _ _ => pe_op op_mulX (pT0 (pv 2)) (pe_op (op_fdivP ⟨S.seer, S.tree, S.head, S.room⟩) (pv 1) (pT1 (pv 2)))))
      (pss_one (ps_ret (pe_ca cL hr (pa_cons (pv 3) pa_nil)))))), ?_⟩
    refine ⟨_, rfl, a, rfl, ⟨_, ha⟩, ?_⟩
    refine for_tup (K := K) (a := a) (xs := as.map V.ref) (fun i σ H' => ∃ o o2, σ = [some (.ref a), some (.int (Bd.lz (p.take i) : Nat)), o, o2] ∧ H' = H) ⟨_, _, rfl, rfl⟩ ?_ ?_ ?_
    · rintro i σ H' hi ⟨o, o2, rfl, rfl⟩
      exact ha
    · rintro i v σ H' ev ⟨o, o2, rfl, eH⟩
      subst eH
      have hi : i < p.length := by
        refine Classical.byContradiction fun n => ?_
        rw [List.getElem?_eq_none (by rw [List.length_map]; omega)] at ev
        cases ev
      obtain ⟨y, h1, h2, h3⟩ := frs_get hp hi
      obtain rfl : v = .ref y := Option.some.inj (ev.symm.trans h2)
      have bd := (bt_get cp i).lo hB
      refine ⟨_, rfl, fr_den (by rfl) h3 ⟨_, _, rfl, rfl, low_mul (low_nat (lzb i) hB) bd.2, _, rfl, fr_den (by rfl) h3 ⟨_, _, rfl, _, _, rfl, rfl, ?_, ?_⟩⟩⟩
      · intro z
        have := (Int.gcd_eq_zero_iff.mp (Int.natCast_eq_zero.mp z)).2
        have := den_pos' (p.getD i 0)
        omega
      · dsimp only
        rw [lcm_turn, take_succ_getD hi, Bd.lz_snoc]
        exact ⟨_, _, rfl, rfl⟩
    · rintro σ H' ⟨o, o2, rfl, eH⟩
      subst eH
      rw [List.length_map, lp, List.take_length]
      refine ⟨_, rfl, a, rfl, ⟨_, ha⟩, fun D nD => ?_⟩
      refine lc_map (walk_tup (K := K) (a := a) (xs := as.map V.ref)) (fun i v H => v = .int ((p.getD i 0).num * ((Bd.lz p : Nat) : Int).fdiv ((p.getD i 0).den : Nat))) int_rel nD (by rw [List.length_map]; omega) (fun H2 e => Same.tup e ha) ?_ g_mono ?_
      · rintro i v H1 H2 hi e ⟨rfl, ev⟩ Q1 hq
        rw [List.length_map] at hi
        obtain ⟨y, h1, h2, h3⟩ := frs_get hp (i := i) (by omega)
        obtain rfl : v = .ref y := Option.some.inj (ev.symm.trans h2)
        have bd := (bt_get cp i).lo hB
        refine ⟨rfl, ?_⟩
        have h3' := h3.mono e
        refine fr_num (by rfl) h3' ⟨_, rfl, fr_den (by rfl) h3' ⟨_, _, rfl, rfl, ?_, _, _, rfl, rfl, low_mul bd.1 ?_, hq _ _ (Same.refl _) rfl⟩⟩
        · have := den_pos' (p.getD i 0)
          omega
        · have lt := lzb p.length
          rw [List.take_length] at lt
          rw [Int.fdiv_eq_ediv_of_nonneg _ (Int.natCast_nonneg _), ← Int.natCast_ediv]
          exact low_nat (Nat.lt_of_le_of_lt (Nat.div_le_self _ _) lt) hB
      · intro H1 bs e hD pr
        rw [List.length_map, lp] at pr
        rw [ints_pr pr, range_map 0 p (fun r => r.num * ((Bd.lz p : Nat) : Int).fdiv (r.den : Nat))] at hD
        refine ⟨_, rfl, D, Bd.whole p, rfl, SqL.new hD, by rw [Bd.whole_len]; exact ln, .inr g0, fun H2 t e2 ht => ?_⟩
        exact k H2 t _ (e.trans e2) ht wn
end
end Bw

namespace Bw
open PySem PySem.Spec PyProof.Rows L2 Bz RT
theorem zl_dp {K : PySem.W.Frag} {H : Hp} {a : Addr} {l : List Int} (h : Zl K H a l) : Dp K H (.ref a) (.list (l.map .int)) := by
  refine .lst h ?_
  induction l with
  | nil => exact .nil
  | cons x l ih => exact .cons (.int x) (ih' l)
where ih' {K : PySem.W.Frag} {H : Hp} : ∀ l : List Int, DpAll K H (l.map V.int) (l.map .int)
  | [] => .nil
  | x :: l => .cons (.int x) (ih' l)
theorem zl_shaped : ∀ (p : List Int), SeqAt.shaped (.list (p.map .int)) = true := by
  intro p
  unfold SeqAt.shaped
  rw [Bool.and_eq_true]
  constructor
  · simp only [PyData.canLay0]
    induction p with
    | nil => simp [PyData.canLayAll0]
    | cons a p ih => simp_all [PyData.canLay0, PyData.canLayAll0]
  · refine decide_eq_true ?_
    have : (PyData.list (p.map .int)).depth ≤ 1 := by
      induction p with
      | nil => simp [PyData.depth, PyData.depthAll]
      | cons a p ih => simp_all [PyData.depth, PyData.depthAll]
    omega
theorem zl_empty (p : List Int) : PyData.eqv (.list (p.map .int)) (.list []) = decide (p = []) := by
  cases p with
  | nil => rfl
  | cons a p => simp [PyData.eqv, PyData.eqvAll]
theorem zl_ne {K : PySem.W.Frag} {H : Hp} {Q : VK} {a : Addr} {l : List Int} (h : Zl K H a l) (k : ∀ H', Same H H' → Q (.bl (!decide (l = []))) H') : 0 ≤ sizeLine ∧ ∀ p, H p = none → rNeD K (.ref a) (.ref p) (upd H p (.lst [])) Q := by
  refine ⟨Nat.zero_le _, fun p np => ?_⟩
  have e : Same H (upd H p (.lst [])) := Same.new np
  refine ⟨_, _, zl_dp (h.mono e), .lst (SqL.new upd_same) .nil, zl_shaped l, rfl, ?_⟩
  rw [zl_empty]
  exact k _ e
theorem zl_eq {K : PySem.W.Frag} {H : Hp} {Q : VK} {a : Addr} {l : List Int} (h : Zl K H a l) (k : ∀ H', Same H H' → Q (.bl (decide (l = []))) H') : 0 ≤ sizeLine ∧ ∀ p, H p = none → rEqD K (.ref a) (.ref p) (upd H p (.lst [])) Q := by
  refine ⟨Nat.zero_le _, fun p np => ?_⟩
  have e : Same H (upd H p (.lst [])) := Same.new np
  refine ⟨_, _, zl_dp (h.mono e), .lst (SqL.new upd_same) .nil, zl_shaped l, rfl, ?_⟩
  rw [zl_empty]
  exact k _ e
theorem z_last (l : List Int) (h : 0 < l.length) : atI (l.map V.int) (-1) = some (.int (l.getD (l.length - 1) 0)) :=
  last_get (by rw [List.length_map]; exact z_get l (by omega)) (by rw [List.length_map]; exact h)
theorem z_get' {l : List Int} (h : 0 < l.length) : (l.map V.int)[(l.map V.int).length - 1]? = some (.int (l.getD (l.length - 1) 0)) := by
  rw [List.length_map]
  exact z_get l (by omega)
theorem take_drop_last {l : List Int} {c : Nat} (h : c ≤ l.length) : (l.take c).dropLast = l.take (c - 1) := by
  rw [List.dropLast_eq_take, List.take_take, List.length_take]
  congr 1
  omega
section
variable {P : Program} {w : World} {K : PySem.W.Frag} {mg : Str → Option Value} {base : Heap}
def spTurned (K : PySem.W.Frag) : Sp := fun vs H Q _ => ∃ (a b : Addr) (p q : List Int) (B C : Nat), vs = [.ref a, .ref b] ∧ Zl K H a p ∧ Zl K H b q ∧ p.getD (p.length - 1) 0 ≠ 0 ∧ q.getD (q.length - 1) 0 ≠ 0 ∧ 0 < q.length ∧ (∀ n ∈ p, n.natAbs < 2 ^ B) ∧ (∀ n ∈ q, n.natAbs < 2 ^ C) ∧ p.length ≤ 100 ∧
  B + (p.length + 1 - q.length) * (C + 1) ≤ 2 ^ 26 ∧ C ≤ 2 ^ 26 ∧ ∀ H' t R, Same H H' → H' t = some (.lst (R.map V.int)) → Bd.TR p q R B C → Q (.ref t) H'
theorem ok_turned_rest {x : Str} (F : Has K mg x s_turned_rest ["p", "q"]) (T : Txt P K mg base) (cL : Prom P w K mg base 41 "lowered" ["numbers"] (spLowered K)) : Prom P w K mg base 42 x ["p", "q"] (spTurned K) := by
  refine F.prom sc_turned_rest (fun vs H Q E h => ?_) (fun f cdv A outer s H vs Q E hr h => ?_)
  · obtain ⟨a, b, p, q, B, C, rfl, _⟩ := h; rfl
  · obtain ⟨a, b, p, q, B, C, rfl, hp, hq, np, nq, lq, bp, bq, lp, hB, hC, k⟩ := h
    refine ⟨_, pss_cons (ps_set (i := 2) sc_turned_rest.nd rfl (.inl rfl) (pe_callTy call_list_of (by rfl) T.lst boot_list (pa_cons (pv 0) pa_nil)))
      (pss_cons (ps_while PassesOwn.never (pt_cmpR op_ge (pe_callB call_len_seq (by rfl) T.len boot_len (pa_cons (pv 2) pa_nil)) (pe_callB call_len_seq (by rfl) T.len boot_len (pa_cons (pv 1) pa_nil)) (nomark _))
        (pss_cons (ps_par (i := 3) (j := 4) (by rfl) sc_turned_rest.nd rfl rfl (by decide) rfl rfl (pa_cons (pe_ix ix_list (pv 2) (pe_un un_neg pe_int) (fun _ _ => rfl))
            (pa_cons (pe_op op_sub (pe_callB call_len_seq (by rfl) T.len boot_len (pa_cons (pv 2) pa_nil)) (pe_callB call_len_seq (by rfl) T.len boot_len (pa_cons (pv 1) pa_nil))) pa_nil)) (by rfl))
        (pss_cons (ps_set (i := 5) sc_turned_rest.nd rfl (.inr rfl) (pe_callB call_abs (by rfl) T.abs boot_abs (pa_cons (pe_ix ix_list (pv 1) (pe_un un_neg pe_int) (fun _ _ => rfl)) pa_nil)))
        (pss_cons (ps_if (pt_cmpR op_lt (pe_ix ix_list (pv 1) (pe_un un_neg pe_int) (fun _ _ => rfl)) pe_int (nomark _)) (pss_one (ps_set (i := 3) sc_turned_rest.nd rfl (.inl rfl) (pe_op op_sub pe_int (pv 3)))) pss_nil)
        (pss_cons (ps_setLc (i := 2) (own := [("number", 6)]) (g := gName 6) (tt := tYes) (te := tOp (rI CMulX fun i j => .int (i * j)) (tVar 6) (tVar 5)) rfl sc_turned_rest.nd rfl rfl (sw_true rfl rfl rfl rfl) (pi_list (pv 2)) (blkOk_by (N := ["p", "q", "rest", "factor", "shift", "scale", "number", "power", "part"]) (sc := defScope s_turned_rest) (by decide +kernel))
          (fun _ _ _ _ _ => pg_name (i := 6) sc_turned_rest.nd rfl (Or.inl rfl)) (fun _ _ _ _ _ => pts_nil) (fun _ _ _ _ _ => pe_op op_mulX (pv 6) (pv 5)))
        (pss_cons (ps_for PassesOwn.never rfl (pi_enum (by rfl) T.enu (pa_cons (pv 1) pa_nil)) (pg_tup rfl (pgs_cons (pg_name (i := 7) sc_turned_rest.nd rfl (.inl rfl)) (pgs_cons (pg_name (i := 8) sc_turned_rest.nd rfl (.inl rfl)) pgs_nil)))
          (pss_one (ps_augS (pv 2) (pe_op op_add (pv 4) (pv 7)) get_listP (pe_op op_mulX (pv 3) (pv 8)) ip_sub set_list)))
        (pss_one (ps_while PassesOwn.never (PW.pt (pw_and (pt_cmpR (op_neD hr.units) (pv 2) (pe_lst pa_nil) (nomark _)) (pw_and1 (pt_cmpR op_eq (pe_ix ix_list (pv 2) (pe_un un_neg pe_int) (fun _ _ => rfl)) pe_int (nomark _)))))
          (pss_one (ps_expr (pe_bm0 PySem.F.plainAttrs_list PySem.F.slot_list_pop PySem.F.type_list_pop mt_pop (pv 2)))))))))))) 
      (pss_one (ps_ret (pe_ifExp (pt_cmpR (op_neD hr.units) (pv 2) (pe_lst pa_nil) (nomark _)) (pe_ca cL hr (pa_cons (pe_lc (own := [("number", 6)]) (g := gName 6) (tt := tYes) (te := tOp (rI0 fun i j => .int (i - j)) (tC (.int 0)) (tVar 6)) rfl sc_turned_rest.nd (pi_list (pv 2)) (blkOk_by (N := ["p", "q", "rest", "factor", "shift", "scale", "number", "power", "part"]) (sc := defScope s_turned_rest) (by decide +kernel))
          (fun _ _ _ _ _ => pg_name (i := 6) sc_turned_rest.nd rfl (Or.inl rfl)) (fun _ _ _ _ _ => pts_nil) (fun _ _ _ _ _ => pe_op op_sub pe_int (pv 6))) pa_nil)) (pe_lst pa_nil))))), ?_⟩
    refine ⟨_, rfl, a, _, rfl, .inl hp, fun l0 n0 => ?_⟩
    refine ⟨fun m σ H' => ∃ lr R o3 o4 o5 o6 o7 o8, σ = [some (.ref a), some (.ref b), some (.ref lr), o3, o4, o5, o6, o7, o8] ∧ Same H H' ∧ H' lr = some (.lst ((R : List Int).map V.int)) ∧ m = R.length ∧ Bd.TI p q R B C,
      ⟨_, l0, p, _, _, _, _, _, _, rfl, Same.new n0, upd_same, rfl, Bd.TI.start (.inr np) bp⟩, ?_⟩
    rintro m σ H' ⟨lr, R, o3, o4, o5, o6, o7, o8, rfl, e, hR, em, D⟩
    have sR : Zl K H' lr R := SqL.new hR
    have sb := hq.mono e
    refine ⟨_, rfl, lr, _, rfl, .inl sR, _, rfl, b, _, rfl, .inl sb, _, _, rfl, rfl, _, rfl, ?_⟩
    rw [List.length_map, List.length_map]
    refine ite_and (fun ge => ?_) (fun ge => ?_)
    · have ge' : q.length ≤ R.length := by have := of_decide_eq_true ge; omega
      have bR := D.bits'
      have leR := D.le
      have bl : ∀ n ∈ R, Low n := fun n hn => low_int (bR n hn) hB
      have ql := low_int (bq _ (Bd.getZ_mem (l := q) (i := q.length - 1) (by omega))) hC
      refine ⟨_, fun _ _ h => h, ?_⟩
      refine ⟨_, rfl, _, rfl, lr, _, _, .int (R.getD (R.length - 1) 0), rfl, rfl, sR, z_last R (by omega), ?_⟩
      refine ⟨_, rfl, lr, _, rfl, .inl sR, _, rfl, b, _, rfl, .inl sb, _, _, rfl, rfl, ?_⟩
      dsimp only
      rw [List.length_map, List.length_map, show (R.length : Int) - (q.length : Int) = ((R.length - q.length : Nat) : Int) by omega]
      refine ⟨_, _, rfl, ?_⟩
      refine ⟨_, rfl, _, rfl, b, _, _, .int (q.getD (q.length - 1) 0), rfl, rfl, sb, z_last q lq, _, rfl, ?_⟩
      refine ⟨_, rfl, _, rfl, b, _, _, .int (q.getD (q.length - 1) 0), rfl, rfl, sb, z_last q lq, _, _, rfl, rfl, _, rfl, ?_⟩
      generalize hf : Bd.fz (q.getD (q.length - 1) 0) (R.getD (R.length - 1) 0) = fv
      have fl : Low fv := by
        rw [← hf]
        show (Bd.fz _ _).natAbs < _
        rw [Bd.fz_natAbs]
        exact bl _ (Bd.getZ_mem (by omega))
      have al : Low (Bd.abz (q.getD (q.length - 1) 0)) := by
        show (Bd.abz _).natAbs < _
        rw [Bd.abz_natAbs]
        exact ql
      refine ite2 (fun lt => ?_) (fun lt => ?_)
      · refine ⟨_, rfl, _, _, rfl, rfl, ?_⟩
        have ef : 0 - R.getD (R.length - 1) 0 = fv := by
          rw [← hf]
          exact (if_pos (of_decide_eq_true lt)).symm
        dsimp only
        rw [ef]
        refine ⟨_, rfl, lr, rfl, ⟨_, sR⟩, fun G nG => ?_⟩
        refine lc_map (walk_list (K := K) (a := lr) (xs := R.map V.int)) (fun i v H => v = .int (R.getD i 0 * Bd.abz (q.getD (q.length - 1) 0))) int_rel nG (by rw [List.length_map]; omega) (fun H2 e => Same.seq e sR) ?_ g_mono ?_
        · rintro i v H1 H3 hi e1 ⟨rfl, ev⟩ Q1 hq
          rw [List.length_map] at hi
          rw [z_get R hi] at ev
          obtain rfl := Option.some.inj ev
          exact ⟨rfl, _, rfl, _, rfl, _, _, rfl, rfl, low_mul (bl _ (Bd.getZ_mem hi)) al, hq _ _ (Same.refl _) rfl⟩
        intro H1 bs e1 hG pr
        rw [List.length_map] at pr
        rw [ints_pr pr, range_map 0 R (fun n => n * Bd.abz (q.getD (q.length - 1) 0))] at hG
        have e01 := e.trans e1
        have nG0 : H G = none := none_of e nG
        refine ⟨_, rfl, b, _, rfl, hq.mono e01, ?_⟩
        have lR1 : (R.map fun n => n * Bd.abz (q.getD (q.length - 1) 0)).length = R.length := List.length_map _
        have lA : ∀ j, (Bd.axz (R.map fun n => n * Bd.abz (q.getD (q.length - 1) 0)) (R.length - q.length) fv (q.take j)).length = R.length := fun j => by rw [Bd.axz_len, lR1]
        refine for_it (walk_enum (K := K) (a := b) (xs := q.map V.int)) (fun j σ H' => ∃ o6 o7 o8, σ = [some (.ref a), some (.ref b), some (.ref G), some (.int fv), some (.int ((R.length - q.length : Nat) : Int)), some (.int (Bd.abz (q.getD (q.length - 1) 0))), o6, o7, o8] ∧ Same H H' ∧
          H' G = some (.lst ((Bd.axz (R.map fun n => n * Bd.abz (q.getD (q.length - 1) 0)) (R.length - q.length) fv (q.take j)).map V.int))) ⟨_, _, _, rfl, e01, hG⟩ ?_ ?_ ?_
        · rintro j σ H5 hj ⟨o6, o7, o8, rfl, e5, _⟩
          exact hq.mono e5
        · rintro j x σ H5 H6 hj ⟨o6, o7, o8, rfl, e5, h5⟩ ⟨t', x1, x2, rfl, nt', rfl, e1, ev⟩
          rw [List.length_map] at hj
          obtain rfl := Option.some.inj ((z_get q hj).symm.trans ev)
          obtain rfl : V.int (j : Nat) = x1 := Option.some.inj e1
          have st' : Same H5 (upd H5 t' (.tup [.int (j : Nat), .int (q.getD j 0)])) := Same.new nt'
          refine ⟨t', _, rfl, SqT.new upd_same, rfl, _, _, rfl, _, _, rfl, rfl, ?_⟩
          have e6 := e5.trans st'
          have h6 := st' _ _ h5
          generalize upd H5 t' (.tup [.int (j : Nat), .int (q.getD j 0)]) = H6 at e6 h6 ⊢
          have tkq : (q.take j).length = j := by rw [List.length_take]; omega
          have tk : q.take (j + 1) = q.take j ++ [q.getD j 0] := by
            rw [List.take_succ, List.getD_eq_getElem?_getD, List.getElem?_eq_getElem hj]
            rfl
          have lj := lA j
          refine ⟨_, rfl, _, rfl, _, rfl, _, _, rfl, rfl, G, _, R.length - q.length + j, _, rfl, rfl, SqL.new h6, z_get _ (by rw [lj]; omega), ?_⟩
          refine ⟨_, rfl, _, rfl, _, _, rfl, rfl, low_mul fl (low_int (bq _ (Bd.getZ_mem hj)) hC), _, _, rfl, rfl, G, _, _, R.length - q.length + j, rfl, rfl, h6, ix_nat (by rw [List.length_map, lj]; omega), ?_⟩
          refine ⟨_, _, _, rfl, Same.mut e6 nG0, ?_⟩
          rw [upd_same, tk, Bd.axz_snoc, List.map_set, tkq]
        · rintro σ H5 ⟨o6, o7, o8, rfl, e5, h5⟩
          rw [List.length_map, List.take_length] at h5
          have lj := lA q.length
          rw [List.take_length] at lj
          have hstep : ∀ R', Bd.TrimZ (Bd.axz (R.map fun n => n * Bd.abz (q.getD (q.length - 1) 0)) (R.length - q.length) fv q) R' → Bd.TI p q R' B C ∧ R'.length < R.length := fun R' t => D.step nq lq bq ge' (by rw [hf]; exact t)
          generalize Bd.axz (R.map fun n => n * Bd.abz (q.getD (q.length - 1) 0)) (R.length - q.length) fv q = R2 at h5 lj hstep
          refine ⟨fun m σ H' => ∃ c : Nat, σ = [some (.ref a), some (.ref b), some (.ref G), some (.int fv), some (.int ((R.length - q.length : Nat) : Int)), some (.int (Bd.abz (q.getD (q.length - 1) 0))), o6, o7, o8] ∧ Same H H' ∧
            H' G = some (.lst ((R2.take c).map V.int)) ∧ m = c ∧ c ≤ R2.length ∧ ∀ i, c ≤ i → R2.getD i 0 = 0, ⟨_, R2.length, rfl, e5, by rw [List.take_length]; exact h5, rfl, Nat.le_refl _, fun i hi => ?_⟩, ?_⟩
          · rw [List.getD_eq_getElem?_getD, List.getElem?_eq_none hi]; rfl
          rintro m2 σ H7 ⟨c, rfl, e7, h7, em2, hc, hz⟩
          have ltk : (R2.take c).length = c := by rw [List.length_take]; omega
          have fin : (c = 0 ∨ R2.getD (c - 1) 0 ≠ 0) → ∀ H8, Same H7 H8 → ∃ m', m' < m ∧ ∃ lr Rn o3 o4 o5 o6' o7' o8', [some (V.ref a), some (V.ref b), some (V.ref G), some (V.int fv), some (V.int ((R.length - q.length : Nat) : Int)), some (V.int (Bd.abz (q.getD (q.length - 1) 0))), o6, o7, o8] = [some (.ref a), some (.ref b), some (.ref lr), o3, o4, o5, o6', o7', o8'] ∧ Same H H8 ∧ H8 lr = some (.lst ((Rn : List Int).map V.int)) ∧ m' = Rn.length ∧ Bd.TI p q Rn B C := fun hd H8 e8 => by
            obtain ⟨D', lt'⟩ := hstep _ (Bd.trimz_take hc hz hd)
            exact ⟨_, by rw [em]; exact lt', G, _, _, _, _, _, _, _, rfl, e7.trans e8, e8 _ _ h7, rfl, D'⟩
          refine ⟨_, rfl, zl_ne (SqL.new h7) fun H8 e8 => ?_⟩
          refine ⟨_, rfl, ?_⟩
          by_cases c0 : c = 0
          · subst c0
            rw [List.take_zero]
            refine iteNS rfl ?_
            exact iteF (fin (.inl rfl) H8 e8)
          · have ne : R2.take c ≠ [] := fun z => by rw [z, List.length_nil] at ltk; omega
            rw [decide_eq_false ne]
            refine iteT ?_
            have gl : (R2.take c).getD ((R2.take c).length - 1) 0 = R2.getD (c - 1) 0 := by
              rw [ltk, List.getD_eq_getElem?_getD, List.getElem?_take, if_pos (by omega), ← List.getD_eq_getElem?_getD]
            have h8 := e8 _ _ h7
            refine ⟨_, rfl, _, rfl, G, _, _, .int (R2.getD (c - 1) 0), rfl, rfl, SqL.new h8, by rw [z_last _ (by omega), gl], rfl, _, rfl, ?_⟩
            refine ite_and (fun z => ?_) (fun z => ?_)
            · refine ⟨_, fun _ _ h => h, ?_⟩
              refine ⟨_, rfl, .inl ⟨rfl, _, SqL.new h8⟩, G, _, _, rfl, rfl, h8, z_get' (by omega), ?_⟩
              refine ⟨c - 1, by omega, c - 1, rfl, Same.mut (e7.trans e8) nG0, ?_, rfl, by omega, fun i hi => ?_⟩
              · rw [upd_same, ← List.map_dropLast, take_drop_last (by omega)]
              · by_cases ic : i = c - 1
                · rw [ic]
                  exact V.int.inj (of_decide_eq_true z)
                · exact hz i (by omega)
            · exact fin (.inr fun y => of_decide_eq_false z (by rw [y])) H8 e8
      · have ef : R.getD (R.length - 1) 0 = fv := by
          rw [← hf]
          exact (if_neg fun z => lt (decide_eq_true z)).symm
        refine Eq.mp (congrArg (fun z => tSeq _ _ _ [some (.ref a), some (.ref b), some (.ref lr), some (.int z), some (.int ((R.length - q.length : Nat) : Int)), some (.int (Bd.abz (q.getD (q.length - 1) 0))), o6, o7, o8] H') ef.symm) ?_
        refine ⟨_, rfl, lr, rfl, ⟨_, sR⟩, fun G nG => ?_⟩
        refine lc_map (walk_list (K := K) (a := lr) (xs := R.map V.int)) (fun i v H => v = .int (R.getD i 0 * Bd.abz (q.getD (q.length - 1) 0))) int_rel nG (by rw [List.length_map]; omega) (fun H2 e => Same.seq e sR) ?_ g_mono ?_
        · rintro i v H1 H3 hi e1 ⟨rfl, ev⟩ Q1 hq
          rw [List.length_map] at hi
          rw [z_get R hi] at ev
          obtain rfl := Option.some.inj ev
          exact ⟨rfl, _, rfl, _, rfl, _, _, rfl, rfl, low_mul (bl _ (Bd.getZ_mem hi)) al, hq _ _ (Same.refl _) rfl⟩
        intro H1 bs e1 hG pr
        rw [List.length_map] at pr
        rw [ints_pr pr, range_map 0 R (fun n => n * Bd.abz (q.getD (q.length - 1) 0))] at hG
        have e01 := e.trans e1
        have nG0 : H G = none := none_of e nG
        refine ⟨_, rfl, b, _, rfl, hq.mono e01, ?_⟩
        have lR1 : (R.map fun n => n * Bd.abz (q.getD (q.length - 1) 0)).length = R.length := List.length_map _
        have lA : ∀ j, (Bd.axz (R.map fun n => n * Bd.abz (q.getD (q.length - 1) 0)) (R.length - q.length) fv (q.take j)).length = R.length := fun j => by rw [Bd.axz_len, lR1]
        refine for_it (walk_enum (K := K) (a := b) (xs := q.map V.int)) (fun j σ H' => ∃ o6 o7 o8, σ = [some (.ref a), some (.ref b), some (.ref G), some (.int fv), some (.int ((R.length - q.length : Nat) : Int)), some (.int (Bd.abz (q.getD (q.length - 1) 0))), o6, o7, o8] ∧ Same H H' ∧
          H' G = some (.lst ((Bd.axz (R.map fun n => n * Bd.abz (q.getD (q.length - 1) 0)) (R.length - q.length) fv (q.take j)).map V.int))) ⟨_, _, _, rfl, e01, hG⟩ ?_ ?_ ?_
        · rintro j σ H5 hj ⟨o6, o7, o8, rfl, e5, _⟩
          exact hq.mono e5
        · rintro j x σ H5 H6 hj ⟨o6, o7, o8, rfl, e5, h5⟩ ⟨t', x1, x2, rfl, nt', rfl, e1, ev⟩
          rw [List.length_map] at hj
          obtain rfl := Option.some.inj ((z_get q hj).symm.trans ev)
          obtain rfl : V.int (j : Nat) = x1 := Option.some.inj e1
          have st' : Same H5 (upd H5 t' (.tup [.int (j : Nat), .int (q.getD j 0)])) := Same.new nt'
          refine ⟨t', _, rfl, SqT.new upd_same, rfl, _, _, rfl, _, _, rfl, rfl, ?_⟩
          have e6 := e5.trans st'
          have h6 := st' _ _ h5
          generalize upd H5 t' (.tup [.int (j : Nat), .int (q.getD j 0)]) = H6 at e6 h6 ⊢
          have tkq : (q.take j).length = j := by rw [List.length_take]; omega
          have tk : q.take (j + 1) = q.take j ++ [q.getD j 0] := by
            rw [List.take_succ, List.getD_eq_getElem?_getD, List.getElem?_eq_getElem hj]
            rfl
          have lj := lA j
          refine ⟨_, rfl, _, rfl, _, rfl, _, _, rfl, rfl, G, _, R.length - q.length + j, _, rfl, rfl, SqL.new h6, z_get _ (by rw [lj]; omega), ?_⟩
          refine ⟨_, rfl, _, rfl, _, _, rfl, rfl, low_mul fl (low_int (bq _ (Bd.getZ_mem hj)) hC), _, _, rfl, rfl, G, _, _, R.length - q.length + j, rfl, rfl, h6, ix_nat (by rw [List.length_map, lj]; omega), ?_⟩
          refine ⟨_, _, _, rfl, Same.mut e6 nG0, ?_⟩
          rw [upd_same, tk, Bd.axz_snoc, List.map_set, tkq]
        · rintro σ H5 ⟨o6, o7, o8, rfl, e5, h5⟩
          rw [List.length_map, List.take_length] at h5
          have lj := lA q.length
          rw [List.take_length] at lj
          have hstep : ∀ R', Bd.TrimZ (Bd.axz (R.map fun n => n * Bd.abz (q.getD (q.length - 1) 0)) (R.length - q.length) fv q) R' → Bd.TI p q R' B C ∧ R'.length < R.length := fun R' t => D.step nq lq bq ge' (by rw [hf]; exact t)
          generalize Bd.axz (R.map fun n => n * Bd.abz (q.getD (q.length - 1) 0)) (R.length - q.length) fv q = R2 at h5 lj hstep
          refine ⟨fun m σ H' => ∃ c : Nat, σ = [some (.ref a), some (.ref b), some (.ref G), some (.int fv), some (.int ((R.length - q.length : Nat) : Int)), some (.int (Bd.abz (q.getD (q.length - 1) 0))), o6, o7, o8] ∧ Same H H' ∧
            H' G = some (.lst ((R2.take c).map V.int)) ∧ m = c ∧ c ≤ R2.length ∧ ∀ i, c ≤ i → R2.getD i 0 = 0, ⟨_, R2.length, rfl, e5, by rw [List.take_length]; exact h5, rfl, Nat.le_refl _, fun i hi => ?_⟩, ?_⟩
          · rw [List.getD_eq_getElem?_getD, List.getElem?_eq_none hi]; rfl
          rintro m2 σ H7 ⟨c, rfl, e7, h7, em2, hc, hz⟩
          have ltk : (R2.take c).length = c := by rw [List.length_take]; omega
          have fin : (c = 0 ∨ R2.getD (c - 1) 0 ≠ 0) → ∀ H8, Same H7 H8 → ∃ m', m' < m ∧ ∃ lr Rn o3 o4 o5 o6' o7' o8', [some (V.ref a), some (V.ref b), some (V.ref G), some (V.int fv), some (V.int ((R.length - q.length : Nat) : Int)), some (V.int (Bd.abz (q.getD (q.length - 1) 0))), o6, o7, o8] = [some (.ref a), some (.ref b), some (.ref lr), o3, o4, o5, o6', o7', o8'] ∧ Same H H8 ∧ H8 lr = some (.lst ((Rn : List Int).map V.int)) ∧ m' = Rn.length ∧ Bd.TI p q Rn B C := fun hd H8 e8 => by
            obtain ⟨D', lt'⟩ := hstep _ (Bd.trimz_take hc hz hd)
            exact ⟨_, by rw [em]; exact lt', G, _, _, _, _, _, _, _, rfl, e7.trans e8, e8 _ _ h7, rfl, D'⟩
          refine ⟨_, rfl, zl_ne (SqL.new h7) fun H8 e8 => ?_⟩
          refine ⟨_, rfl, ?_⟩
          by_cases c0 : c = 0
          · subst c0
            rw [List.take_zero]
            refine iteNS rfl ?_
            exact iteF (fin (.inl rfl) H8 e8)
          · have ne : R2.take c ≠ [] := fun z => by rw [z, List.length_nil] at ltk; omega
            rw [decide_eq_false ne]
            refine iteT ?_
            have gl : (R2.take c).getD ((R2.take c).length - 1) 0 = R2.getD (c - 1) 0 := by
              rw [ltk, List.getD_eq_getElem?_getD, List.getElem?_take, if_pos (by omega), ← List.getD_eq_getElem?_getD]
            have h8 := e8 _ _ h7
            refine ⟨_, rfl, _, rfl, G, _, _, .int (R2.getD (c - 1) 0), rfl, rfl, SqL.new h8, by rw [z_last _ (by omega), gl], rfl, _, rfl, ?_⟩
            refine ite_and (fun z => ?_) (fun z => ?_)
            · refine ⟨_, fun _ _ h => h, ?_⟩
              refine ⟨_, rfl, .inl ⟨rfl, _, SqL.new h8⟩, G, _, _, rfl, rfl, h8, z_get' (by omega), ?_⟩
              refine ⟨c - 1, by omega, c - 1, rfl, Same.mut (e7.trans e8) nG0, ?_, rfl, by omega, fun i hi => ?_⟩
              · rw [upd_same, ← List.map_dropLast, take_drop_last (by omega)]
              · by_cases ic : i = c - 1
                · rw [ic]
                  exact V.int.inj (of_decide_eq_true z)
                · exact hz i (by omega)
            · exact fin (.inr fun y => of_decide_eq_false z (by rw [y])) H8 e8
    · have lt' : R.length < q.length := by have := of_decide_eq_false ge; omega
      refine ⟨_, rfl, zl_ne sR fun H2 e2 => ?_⟩
      refine ⟨_, rfl, ?_⟩
      by_cases nR : R = []
      · subst nR
        refine iteNS rfl ⟨Nat.zero_le _, fun t nt => ?_⟩
        exact k _ t [] (e.trans (e2.trans (Same.new nt))) upd_same (D.done0 lq)
      · rw [decide_eq_false nR]
        refine iteT ?_
        obtain ⟨g0, tr⟩ := D.done lt' nR
        have sR2 := sR.mono e2
        have leR := D.le
        refine ⟨_, rfl, lr, rfl, ⟨_, sR2⟩, fun G nG => ?_⟩
        refine lc_map (walk_list (K := K) (a := lr) (xs := R.map V.int)) (fun i v H => v = .int (0 - R.getD i 0)) int_rel nG (by rw [List.length_map]; omega) (fun H2 e => Same.seq e sR2) ?_ g_mono ?_
        · rintro i v H1 H3 hi e1 ⟨rfl, ev⟩ Q1 hq
          rw [List.length_map] at hi
          rw [z_get R hi] at ev
          obtain rfl := Option.some.inj ev
          exact ⟨rfl, _, rfl, _, _, rfl, rfl, hq _ _ (Same.refl _) rfl⟩
        · intro H1 bs e1 hG pr
          rw [List.length_map] at pr
          rw [ints_pr pr, range_map 0 R (fun n => 0 - n)] at hG
          refine ⟨G, _, rfl, SqL.new hG, by rw [List.length_map]; omega, .inr g0, fun H3 t e3 ht => ?_⟩
          exact k H3 t _ (e.trans (e2.trans (e1.trans e3))) ht tr
end
end Bw

namespace Bw
open PySem PySem.Spec PyProof.Rows L2 Bz RT
def Rm (H : Hp) (t : Addr) (rs : List (List Int)) : Prop := ∃ as : List Addr, H t = some (.lst (as.map V.ref)) ∧ Paired (fun a r => a ≠ t ∧ H a = some (.lst (r.map V.int))) as rs
theorem Rm.mono {H H' : Hp} {t : Addr} {rs : List (List Int)} (h : Rm H t rs) (e : Same H H') : Rm H' t rs := let ⟨as, a, b⟩ := h; ⟨as, e _ _ a, Paired.mapP b fun _ _ z => ⟨z.1, e _ _ z.2⟩⟩
theorem Rm.rws {K : PySem.W.Frag} {H : Hp} {t : Addr} {rs : List (List Int)} (h : Rm H t rs) : Rws K H t rs := let ⟨as, a, b⟩ := h; ⟨as, SqL.new a, Paired.mapP b fun _ _ z => SqL.new z.2⟩
theorem last2_get {α : Type} {xs : List α} {v : α} (h : xs[xs.length - 2]? = some v) (n : 2 ≤ xs.length) : atI xs (-2) = some v := by
  unfold atI ixN
  rw [if_neg (by decide), if_pos (by omega), show ((-2 : Int) + (xs.length : Nat)).toNat = xs.length - 2 by omega]
  exact h
theorem Rm.get {K : PySem.W.Frag} {H : Hp} {t : Addr} {L : List (List Int)} {P Q : List Int} (h : Rm H t (L ++ [P, Q])) : ∃ xs aP aQ, SqL K H t xs ∧ atI xs (-1) = some (.ref aQ) ∧ atI xs (-2) = some (.ref aP) ∧ Zl K H aP P ∧ Zl K H aQ Q := by
  obtain ⟨as, a, b⟩ := h
  have l := paired_len b
  simp at l
  have e1 : as[as.length - 1]? = some as[as.length - 1] := List.getElem?_eq_getElem (by omega)
  have e2 : as[as.length - 2]? = some as[as.length - 2] := List.getElem?_eq_getElem (by omega)
  obtain ⟨y1, h1, _, k1⟩ := paired_get b e1
  obtain ⟨y2, h2, _, k2⟩ := paired_get b e2
  rw [show as.length - 1 = L.length + 1 by omega] at h1
  rw [show as.length - 2 = L.length by omega] at h2
  simp at h1 h2
  subst h1 h2
  refine ⟨_, as[as.length - 2], as[as.length - 1], SqL.new a, ?_, ?_, SqL.new k2, SqL.new k1⟩
  · refine last_get ?_ (by rw [List.length_map]; omega)
    rw [List.length_map, List.getElem?_map, e1]; rfl
  · refine last2_get ?_ (by rw [List.length_map]; omega)
    rw [List.length_map, List.getElem?_map, e2]; rfl
theorem Rm.app {H : Hp} {t u : Addr} {rs : List (List Int)} {R : List Int} (h : Rm H t rs) (hu : H u = some (.lst (R.map V.int))) (nR : R ≠ []) : ∃ xs, H t = some (.lst xs) ∧ xs.length = rs.length ∧ Rm (upd H t (.lst (xs ++ [.ref u]))) t (rs ++ [R]) := by
  obtain ⟨as, a, b⟩ := h
  have ne : u ≠ t := fun z => by
    rw [z, a] at hu
    cases as with
    | nil => cases R with
      | nil => exact nR rfl
      | cons r R => simp at hu
    | cons x as => cases R with
      | nil => simp at hu
      | cons r R => simp at hu
  refine ⟨_, a, by rw [List.length_map]; exact paired_len b, as ++ [u], by rw [upd_same, List.map_append]; rfl, paired_app (Paired.mapP b fun c r z => ⟨z.1, ?_⟩) (.cons ⟨ne, ?_⟩ .nil)⟩
  · rw [upd_ne z.1]; exact z.2
  · rw [upd_ne ne]; exact hu
section
variable {P : Program} {w : World} {K : PySem.W.Frag} {mg : Str → Option Value} {base : Heap}
def spSturm (K : PySem.W.Frag) : Sp := fun vs H Q _ => ∃ (a : Addr) (p : List Rat) (B : Nat), vs = [.ref a] ∧ Po K H a p ∧ Bd.Tr p ∧ p ≠ [] ∧ Bd.Cm p B ∧ p.length ≤ 13 ∧ (25 * B + 222) * Bd.wv p.length ≤ 60000000 ∧ ∀ H' t rs, Same H H' → Rws K H' t rs → Bd.SR p 60000000 rs → Q (.ref t) H'
theorem ok_sturm_rows {x : Str} (F : Has K mg x s_sturm_rows ["p"]) (T : Txt P K mg base) (cW : Prom P w K mg base 42 "whole_numbers" ["p"] (spWhole K)) (cD : Prom P w K mg base 42 "derivative" ["p"] (spDerivative K)) (cV : Prom P w K mg base 42 "divided" ["p", "q"] (spDivided K))
    (cC : Prom P w K mg base 44 "common" ["p", "q"] (spCommon K)) (cT : Prom P w K mg base 42 "turned_rest" ["p", "q"] (spTurned K)) : Prom P w K mg base 45 x ["p"] (spSturm K) := by
  refine F.prom sc_sturm_rows (fun vs H Q E h => ?_) (fun f cdv A outer s H vs Q E hr h => ?_)
  · obtain ⟨a, p, B, rfl, _⟩ := h; rfl
  · obtain ⟨a, p, B, rfl, hp, tp, np, cp, l13, hB, k⟩ := h
    have w0 : 1 ≤ Bd.wv p.length := Bd.wv_mono (m := 0) (Nat.zero_le _)
    have Bw : B ≤ B * Bd.wv p.length := Nat.le_mul_of_pos_right _ w0
    have hB2 : 25 * (B * Bd.wv p.length) + 222 * Bd.wv p.length ≤ 60000000 := by
      have : (25 * B + 222) * Bd.wv p.length = 25 * (B * Bd.wv p.length) + 222 * Bd.wv p.length := by rw [Nat.add_mul, Nat.mul_assoc]
      omega
    refine ⟨_, pss_cons (ps_set (i := 1) sc_sturm_rows.nd rfl (.inl rfl) (pe_ca cD (hr.mono (by decide)) (pa_cons (pv 0) pa_nil)))
      (pss_cons (ps_if (pt_cmpR (op_eqD hr.units) (pv 1) (pe_tup pa_nil) (nomark _)) (pss_one (ps_ret (pe_lst (pa_cons (pe_ca cW (hr.mono (by decide)) (pa_cons (pv 0) pa_nil)) pa_nil)))) pss_nil)
      (pss_cons (ps_set (i := 2) sc_sturm_rows.nd rfl (.inl rfl) (pT0 (pe_ca cV (hr.mono (by decide)) (pa_cons (pv 0) (pa_cons (pe_ca cC hr (pa_cons (pv 0) (pa_cons (pv 1) pa_nil))) pa_nil)))))
      (pss_cons (ps_set (i := 3) sc_sturm_rows.nd rfl (.inl rfl) (pe_lst (pa_cons (pe_ca cW (hr.mono (by decide)) (pa_cons (pv 2) pa_nil)) (pa_cons (pe_ca cW (hr.mono (by decide)) (pa_cons (pe_ca cD (hr.mono (by decide)) (pa_cons (pv 2) pa_nil)) pa_nil)) pa_nil))))
      (pss_cons (ps_while PassesOwn.never (pt_cmpR op_gt (pe_callB call_len_seq (by rfl) T.len boot_len (pa_cons (pe_ix ix_list (pv 3) (pe_un un_neg pe_int) (fun _ _ => rfl)) pa_nil)) pe_int (nomark _))
        (pss_cons (ps_set (i := 4) sc_sturm_rows.nd rfl (.inl rfl) (pe_ca cT (hr.mono (by decide)) (pa_cons (pe_ix ix_list (pv 3) (pe_un un_neg pe_int) (fun _ _ => rfl)) (pa_cons (pe_ix ix_list (pv 3) (pe_un un_neg pe_int) (fun _ _ => rfl)) pa_nil))))
        (pss_cons (ps_if (pt_cmpR (op_eqD hr.units) (pv 4) (pe_lst pa_nil) (nomark _)) (pss_one (ps_ret (pv 3))) pss_nil)
        (pss_one (ps_expr (pe_bm PySem.F.plainAttrs_list PySem.F.slot_list_append PySem.F.type_list_append mt_append (pv 3) (pa_cons (pv 4) pa_nil)))))))
      (pss_one (ps_ret (pv 3))))))), ?_⟩
    refine ⟨_, rfl, a, p, rfl, hp, by omega, fun r hr => (bt_cm cp hr).lo (by omega), fun H1 ts sl e1 tr hs => ?_⟩
    obtain rfl := tr.self (Bd.derQ_tr tp)
    refine ⟨_, rfl, Nat.zero_le _, fun n0 hn0 => ?_⟩
    have e01 := e1.trans (Same.new (o := .tup []) hn0)
    have hs' := hs.mono (Same.new (o := .tup []) hn0)
    refine ⟨_, _, po_dp hs', .tup (SqT.new upd_same) .nil, po_shaped _, rfl, _, rfl, ?_⟩
    rw [po_empty]
    generalize upd H1 n0 (.tup []) = H2 at e01 hs' ⊢
    refine ite_and (fun d0 => ?_) (fun d0 => ?_)
    · have d0 := of_decide_eq_true d0
      refine ⟨_, rfl, a, p, B, rfl, hp.mono e01, tp, np, cp, by omega, by omega, fun H3 t A e3 ht wn => ?_⟩
      refine ⟨by show 1 ≤ sizeLine; decide, fun l hl => ?_⟩
      have e4 : Same H3 (upd H3 l (.lst [.ref t])) := Same.new hl
      refine k _ l [A] (e01.trans (e3.trans e4)) ⟨[t], SqL.new upd_same, .cons (SqL.new (e4 _ _ ht)) .nil⟩ (Bd.sr_const tp np d0 wn (by omega))
    · have nd := of_decide_eq_false d0
      have ld := Bd.derQ_len p
      have lp0 : 0 < p.length := List.length_pos_iff.mpr np
      have wle : Bd.wv (Bd.derQ p).length ≤ Bd.wv p.length := Bd.wv_mono (by omega)
      have c1 : (B + 5) * Bd.wv (Bd.derQ p).length ≤ B * Bd.wv p.length + 5 * Bd.wv p.length := by
        rw [← Nat.add_mul]
        exact Nat.mul_le_mul_left _ wle
      have CPh : Bd.CP p (Bd.derQ p) B (B + 4) (B + 5) := ⟨tp, Bd.derQ_tr tp, np, cp, Bd.derQ_cm cp (by omega), by omega, by omega, by rw [ld, show p.length + 1 - (p.length - 1) = 2 by omega]; omega⟩
      refine ⟨_, rfl, _, rfl, _, rfl, a, ts, p, Bd.derQ p, B, B + 4, B + 5, rfl, hp.mono e01, hs', CPh, by omega, by omega, by omega, fun H3 tg g e3 hg G => ?_⟩
      obtain ⟨Cg, cg, hcg⟩ := G.cm
      have hcg := Nat.le_trans hcg (Nat.mul_le_mul_left (B + 5) (Bd.wv_mono (show (Bd.derQ p).length - 1 ≤ (Bd.derQ p).length by omega)))
      have lg := G.len
      have lgp : g.length ≤ p.length := by omega
      have ng : g ≠ [] := by obtain ⟨t, rfl⟩ := G.gcd.mon; simp
      have tg1 : Bd.Tr g := by obtain ⟨t, rfl⟩ := G.gcd.mon; exact .inr ⟨t, 1, rfl, by decide⟩
      have m1 : (p.length + 1 - g.length) * (Cg + 1) ≤ 13 * (Cg + 1) := Nat.mul_le_mul_right _ (by have := List.length_pos_iff.mpr ng; omega)
      have e03 := e01.trans e3
      refine ⟨a, tg, p, g, B, Cg, rfl, hp.mono e03, hg, tp, tg1, ng, cp, cg, by omega, by omega, fun H4 t tF tR F R e4 ht hF hR D => ?_⟩
      have S := Bd.sq_all tp nd cp l13 G.gcd D
      refine ⟨t, _, 0, _, rfl, rfl, ht, atI_nat (j := 0) rfl, ?_⟩
      have nF : F ≠ [] := fun z => by have := S.len; rw [z] at this; simp at this
      have lF := S.len
      have lFp := S.le
      refine ⟨_, rfl, tF, F, 25 * B + 217, rfl, hF, S.tr, nF, S.cm, by omega, by omega, fun H5 u0 r0 e5 hu0 wn0 => ?_⟩
      refine ⟨_, rfl, tF, F, rfl, hF.mono e5, by omega, fun r hr => (bt_cm S.cm hr).lo (by omega), fun H6 td dF e6 tr6 hd6 => ?_⟩
      obtain rfl := tr6.self (Bd.derQ_tr S.tr)
      have ldF := Bd.derQ_len F
      have ndF : Bd.derQ F ≠ [] := fun z => by rw [z, List.length_nil] at ldF; omega
      refine ⟨td, Bd.derQ F, 25 * B + 221, rfl, hd6, Bd.derQ_tr S.tr, ndF, Bd.derQ_cm S.cm (by omega), by omega, by omega, fun H7 u1 r1 e7 hu1 wn1 => ?_⟩
      refine ⟨by show 2 ≤ sizeLine; decide, fun t3 ht3 => ?_⟩
      have e08 : Same H (upd H7 t3 (.lst [.ref u0, .ref u1])) := e03.trans (e4.trans (e5.trans (e6.trans (e7.trans (Same.new ht3)))))
      have n3 : H t3 = none := none_of (e03.trans (e4.trans (e5.trans (e6.trans e7)))) ht3
      have h07 := e7 _ _ (e6 _ _ hu0)
      have R0 : Rm (upd H7 t3 (.lst [.ref u0, .ref u1])) t3 [r0, r1] := ⟨[u0, u1], upd_same, .cons ⟨ne_some h07 ht3, by rw [upd_ne (ne_some h07 ht3)]; exact h07⟩ (.cons ⟨ne_some hu1 ht3, by rw [upd_ne (ne_some hu1 ht3)]; exact hu1⟩ .nil)⟩
      generalize upd H7 t3 (.lst [.ref u0, .ref u1]) = H8 at e08 R0 ⊢
      obtain ⟨k0, k0p, ek0⟩ := wn0.ev
      obtain ⟨k1, k1p, ek1⟩ := wn1.ev
      have l0 := wn0.len
      have l1 := wn1.len
      have I0 := Bd.RI.start (C := 25 * B + 222) wn0.last wn1.last (by omega) (by omega) wn0.bits wn1.bits (by omega) (by omega)
      have wF : (25 * B + 222) * Bd.wv r0.length ≤ 60000000 := Nat.le_trans (Nat.mul_le_mul_left _ (Bd.wv_mono (by omega))) hB
      refine ⟨fun m σ H' => ∃ o4 rs P Q, σ = [some (.ref a), some (.ref ts), some (.ref tF), some (.ref t3), o4] ∧ Same H H' ∧ Rm H' t3 rs ∧ m = Q.length ∧ Bd.RI r0 r1 r0.length (25 * B + 222) rs P Q, ⟨_, _, [r0, r1], r0, r1, rfl, e08, R0, rfl, I0⟩, ?_⟩
      rintro m σ H' ⟨o4, rs, Pp, Qq, rfl, e, hR, em, I⟩
      have fin : ∀ H9, Same H' H9 → Bd.LastOk rs → Q (.ref t3) H9 := fun H9 e9 hl => k H9 t3 rs (e.trans e9) (Rm.rws (hR.mono e9)) (S.done k0p k1p ek0 ek1 I hl (by omega) wF)
      obtain ⟨L, eL⟩ := I.tl
      have hR' := hR
      rw [eL] at hR'
      obtain ⟨xs, aP, aQ, x1, x2, x3, x4, x5⟩ := Rm.get (K := K) hR'
      refine ⟨_, rfl, _, rfl, t3, xs, _, .ref aQ, rfl, rfl, x1, x2, aQ, _, rfl, .inl x5, _, _, rfl, rfl, _, rfl, ?_⟩
      rw [List.length_map]
      refine ite_and (fun gt => ?_) (fun gt => ?_)
      · obtain ⟨b1, b2, kb1, kb2, hs1, hs2, lP, next⟩ := I.turn
        refine ⟨_, fun _ _ h => h, ?_⟩
        refine ⟨_, rfl, _, rfl, t3, xs, _, .ref aP, rfl, rfl, x1, x3, _, rfl, _, rfl, t3, xs, _, .ref aQ, rfl, rfl, x1, x2, ?_⟩
        refine ⟨aP, aQ, Pp, Qq, b1, b2, rfl, x4, x5, I.nzP, I.nzQ, I.q0, kb1, kb2, by omega, by omega, by omega, fun H9 t4 R e9 h4 tr => ?_⟩
        refine ⟨_, rfl, zl_eq (SqL.new h4) fun H10 e10 => ?_⟩
        refine ⟨_, rfl, ?_⟩
        refine ite_and (fun z => ?_) (fun z => ?_)
        · have z := of_decide_eq_true z
          exact ⟨_, rfl, fin H10 (e9.trans e10) (I.last0 (tr.e0 z))⟩
        · have z := of_decide_eq_false z
          obtain ⟨ys, y1, y2, y3⟩ := (hR.mono (e9.trans e10)).app (e10 _ _ h4) z
          have cnt := I.cnt
          refine ⟨_, rfl, .inl ⟨rfl, _, SqL.new y1⟩, _, rfl, t3, ys, _, rfl, rfl, y1, ?_, ?_⟩
          · rw [y2]
            exact Nat.lt_of_le_of_lt (show rs.length ≤ 20 by omega) (by decide)
          · exact ⟨R.length, by rw [em]; exact tr.lt, _, _, Qq, R, rfl, Same.mut (e.trans (e9.trans e10)) n3, y3, rfl, next R tr z⟩
      · exact ⟨_, rfl, fin H' (Same.refl _) (I.last1 (by have := of_decide_eq_false gt; omega))⟩
end
end Bw

namespace Bw
open PySem PySem.Spec PyProof.Rows L2 Bz RT
def RB (rs : List (List Int)) : Prop := rs.length ≤ 20 ∧ ∀ r ∈ rs, r.length ≤ 20 ∧ ∀ n ∈ r, n.natAbs < 2 ^ 60000000
theorem cut_drop {xs : List V} : cutV xs (some 1) none = xs.drop 1 := cut_from xs 1
section
variable {P : Program} {w : World} {K : PySem.W.Frag} {mg : Str → Option Value} {base : Heap}
def spSignAt (K : PySem.W.Frag) : Sp := fun vs H Q _ => ∃ (a b : Addr) (r : List Int) (x : Rat), vs = [.ref a, .ref b] ∧ Zl K H a r ∧ Fr K H b x ∧ r.length ≤ 20 ∧ (∀ n ∈ r, n.natAbs < 2 ^ 60000000) ∧ Bt 100000 x ∧ ∀ H', Same H H' → Q (.int (Bd.sf r x)) H'
theorem ok_sign_at {x : Str} (F : Has K mg x s_sign_at ["row", "x"]) (T : Txt P K mg base) : Prom P w K mg base 1 x ["row", "x"] (spSignAt K) := by
  refine F.prom sc_sign_at (fun vs H Q E h => ?_) (fun f cdv A outer s H vs Q E hr h => ?_)
  · obtain ⟨a, b, r, y, rfl, _⟩ := h; rfl
  · obtain ⟨a, b, r, y, rfl, hl, hy, lr, bl, by', k⟩ := h
    refine ⟨_, pss_cons (ps_asg (pe_tup (pa_cons pe_int (pa_cons pe_int pa_nil))) (pg_tup rfl (pgs_cons (pg_name (i := 2) sc_sign_at.nd rfl (.inl rfl)) (pgs_cons (pg_name (i := 3) sc_sign_at.nd rfl (.inl rfl)) pgs_nil))))
      (pss_cons (ps_for PassesOwn.never rfl (pi_revA (by rfl) T.rev (pv 0)) (pg_name (i := 4) sc_sign_at.nd rfl (.inl rfl))
        (pss_cons (ps_set (i := 2) sc_sign_at.nd rfl (.inl rfl) (pe_op op_add (pe_op op_mulX (pv 2) (pT0 (pv 1))) (pe_op op_mulX (pv 4) (pv 3))))
        (pss_one (ps_aug (i := 3) sc_sign_at.nd rfl (.inl rfl) (pT1 (pv 1)) ip_mulX))))
      (pss_one (ps_ret (pv 2)))), ?_⟩
    refine ⟨by show 2 ≤ sizeLine; decide, fun t nt => ?_⟩
    refine ⟨t, _, rfl, SqT.new upd_same, rfl, _, _, rfl, _, _, rfl, rfl, ?_⟩
    have e0 : Same H (upd H t (.tup [.int 0, .int 1])) := Same.new nt
    have hl := hl.mono e0
    have hy := hy.mono e0
    have k := k _ e0
    generalize upd H t (.tup [.int 0, .int 1]) = H at hl hy k ⊢
    refine ⟨_, rfl, a, _, rfl, .inl ⟨hl, ?_⟩⟩
    refine for_Itv (K := K) (a := a) (xs := r.map V.int) (fun i σ H' => ∃ o, σ = [some (.ref a), some (.ref b), some (.int (Bd.sf (r.drop (r.length - i)) y)), some (.int ((y.den : Int) ^ i)), o] ∧ H' = H) ?_ ?_ ?_ ?_
    · refine ⟨none, ?_, rfl⟩
      rw [Nat.sub_zero, List.drop_length]
      rfl
    · rintro i σ H' ⟨o, rfl, e⟩
      rw [e]
      exact hl
    · rintro i v σ H' hi ev ⟨o, rfl, e⟩
      rw [List.length_map] at hi ev
      have ej : (r.map V.int)[r.length - 1 - i]? = some (.int (r.getD (r.length - 1 - i) 0)) := z_get r (by omega)
      obtain rfl := Option.some.inj (ej.symm.trans ev)
      subst e
      have dr : r.drop (r.length - (i + 1)) = r.getD (r.length - 1 - i) 0 :: r.drop (r.length - i) := by
        rw [List.drop_eq_getElem_cons (by omega), show r.length - (i + 1) + 1 = r.length - i by omega, List.getD_eq_getElem?_getD]
        congr 1
        rw [List.getElem?_eq_getElem (by omega)]
        simp only [Option.getD_some]
        congr 1
        omega
      have ld : (r.drop (r.length - i)).length = i := by rw [List.length_drop]; omega
      have b1 : Low (Bd.sf (r.drop (r.length - i)) y) := by
        have := Bd.sf_bits by'.1 by'.2 (r.drop (r.length - i)) fun n hn => bl n (List.mem_of_mem_drop hn)
        refine low_int this ?_
        rw [ld]
        have : i * (100000 + 1) ≤ 20 * (100000 + 1) := Nat.mul_le_mul_right _ (by omega)
        omega
      have b2 : Low ((y.den : Int) ^ i) := by
        show ((y.den : Int) ^ i).natAbs < _
        rw [Int.natAbs_pow, Int.natAbs_natCast]
        have h1 : y.den ^ i ≤ (2 ^ 100000) ^ i := Nat.pow_le_pow_left (by have := by'.2; omega) _
        rw [← Nat.pow_mul] at h1
        refine Nat.lt_of_le_of_lt h1 (Nat.pow_lt_pow_right (by decide) ?_)
        have : 100000 * i ≤ 100000 * 20 := Nat.mul_le_mul_left _ (by omega)
        omega
      have b3 : Low (r.getD (r.length - 1 - i) 0) := low_int (bl _ (Bd.getZ_mem (by omega))) (by decide)
      have by2 := by'.lo (by decide)
      refine ⟨_, rfl, fr_num (by rfl) hy ⟨_, _, rfl, rfl, low_mul b1 by2.1, _, rfl, _, rfl, _, _, rfl, rfl, low_mul b3 b2, _, _, rfl, rfl, ?_⟩⟩
      refine ⟨_, rfl, fr_den (by rfl) hy ⟨_, _, rfl, rfl, low_mul b2 by2.2, ?_⟩⟩
      refine ⟨some (.int (r.getD (r.length - 1 - i) 0)), ?_, rfl⟩
      rw [dr, Bd.sf, ld, Int.pow_succ]
      rfl
    · rintro σ H' ⟨o, rfl, e⟩
      subst e
      rw [List.length_map, Nat.sub_self, List.drop_zero]
      exact ⟨_, rfl, k⟩
def spSignChanges (K : PySem.W.Frag) : Sp := fun vs H Q _ => ∃ (a b : Addr) (rs : List (List Int)) (x : Rat), vs = [.ref a, .ref b] ∧ Rws K H a rs ∧ Fr K H b x ∧ RB rs ∧ Bt 100000 x ∧ ∀ H', Same H H' → Q (.int (Bd.chz (rs.map fun r => Bd.sf r x) : Nat)) H'
theorem ok_sign_changes {x : Str} (F : Has K mg x s_sign_changes ["rows", "x"]) (T : Txt P K mg base) (cS : Prom P w K mg base 1 "sign_at" ["row", "x"] (spSignAt K)) : Prom P w K mg base 2 x ["rows", "x"] (spSignChanges K) := by
  refine F.prom sc_sign_changes (fun vs H Q E h => ?_) (fun f cdv A outer s H vs Q E hr h => ?_)
  · obtain ⟨a, b, r, y, rfl, _⟩ := h; rfl
  · obtain ⟨a, b, rs, y, rfl, ⟨as, ha, hrs⟩, hy, hB, hc, k⟩ := h
    have las := paired_len hrs
    refine ⟨_, pss_cons (ps_setLc (i := 2) (own := [("row", 3)]) (g := gName 3) (tt := tYes) (te := tCall (spSignAt K) [] E0 (tCons (tVar 3) (tCons (tVar 1) tNil))) rfl sc_sign_changes.nd rfl rfl (sw_true rfl rfl rfl rfl) (pi_list (pv 0)) (blkOk_by (N := ["rows", "x", "signs", "row", "sign", "one", "other"]) (sc := defScope s_sign_changes) (by decide +kernel))
        (fun _ _ _ _ _ => pg_name (i := 3) sc_sign_changes.nd rfl (Or.inl rfl)) (fun _ _ _ _ _ => pts_nil) (fun _ _ _ _ _ => pe_ca cS (hr.mono (by decide)) (pa_cons (pv 3) (pa_cons (pv 1) pa_nil))))
      (pss_cons (ps_setLc (i := 2) (own := [("sign", 4)]) (g := gName 4) (tt := tTest (tOp rNe (tVar 4) (tC (.int 0)))) (te := tVar 4) rfl sc_sign_changes.nd rfl rfl (sw_true rfl rfl rfl rfl) (pi_list (pv 2)) (blkOk_by (N := ["rows", "x", "signs", "row", "sign", "one", "other"]) (sc := defScope s_sign_changes) (by decide +kernel))
        (fun _ _ _ _ _ => pg_name (i := 4) sc_sign_changes.nd rfl (Or.inl rfl)) (fun _ _ _ _ _ => pts_one (pt_cmpR op_ne (pv 4) pe_int (nomark _))) (fun _ _ _ _ _ => pv 4))
      (pss_one (ps_ret (pe_callB call_len_seq (by rfl) T.len boot_len (pa_cons (pe_lc (own := [("one", 5), ("other", 6)]) (g := gTup K 2 (gCons (gName 5) (gCons (gName 6) gNil)))
        (tt := tTest (tOp rNe (tOp (rI0 fun i j => .bl (decide (i < j))) (tVar 5) (tC (.int 0))) (tOp (rI0 fun i j => .bl (decide (i < j))) (tVar 6) (tC (.int 0))))) (te := tVar 5) rfl sc_sign_changes.nd (pi_zipS (by rfl) T.zip (pa_cons (pv 2) (pa_cons (pe_slice sl_list (pv 2) (po_some pe_int) po_none) pa_nil))) (blkOk_by (N := ["rows", "x", "signs", "row", "sign", "one", "other"]) (sc := defScope s_sign_changes) (by decide +kernel))
        (fun _ _ _ _ _ => pg_tup rfl (pgs_cons (pg_name (i := 5) sc_sign_changes.nd rfl (Or.inl rfl)) (pgs_cons (pg_name (i := 6) sc_sign_changes.nd rfl (Or.inl rfl)) pgs_nil))) (fun _ _ _ _ _ => pts_one (pt_cmpR op_ne (pe_cmpR op_lt (pv 5) pe_int (nomark _)) (pe_cmpR op_lt (pv 6) pe_int (nomark _)) (nomark _))) (fun _ _ _ _ _ => pv 5)) pa_nil))))), ?_⟩
    refine ⟨_, rfl, a, rfl, ⟨_, ha⟩, fun D1 n1 => ?_⟩
    refine lc_map (walk_list (K := K) (a := a) (xs := as.map V.ref)) (fun i v H => v = .int (Bd.sf (rs.getD i []) y)) int_rel n1 (by rw [List.length_map]; have := hB.1; omega) (fun H2 e => Same.seq e ha) ?_ g_mono ?_
    · rintro i v H1 H2 hi e ⟨rfl, ev⟩ Q1 hq
      rw [List.length_map] at hi
      have e1 : as[i]? = some as[i] := List.getElem?_eq_getElem hi
      obtain ⟨r, h1, h2⟩ := paired_get hrs e1
      have ev2 : (as.map V.ref)[i]? = some (.ref as[i]) := by rw [List.getElem?_map, e1]; rfl
      obtain rfl := Option.some.inj (ev2.symm.trans ev)
      have hr' : rs.getD i [] = r := by rw [List.getD_eq_getElem?_getD, h1]; rfl
      have hm : r ∈ rs := List.mem_of_getElem? h1
      refine ⟨rfl, ?_⟩
      refine ⟨_, rfl, _, rfl, as[i], b, r, y, rfl, h2.mono e, hy.mono e, (hB.2 r hm).1, (hB.2 r hm).2, hc, fun H3 e3 => ?_⟩
      exact hq _ _ e3 (by rw [hr'])
    intro H1 bs e1 hD1 pr
    rw [List.length_map, las] at pr
    rw [ints_pr pr, range_map [] rs (fun r => Bd.sf r y)] at hD1
    generalize hzs : rs.map (fun r => Bd.sf r y) = zs at hD1 k
    have lz : zs.length ≤ 20 := by rw [← hzs, List.length_map]; exact hB.1
    -- without the zeros
    have s1 : SqL K H1 D1 (zs.map V.int) := SqL.new hD1
    refine ⟨_, rfl, D1, rfl, ⟨_, s1⟩, fun D2 n2 => ?_⟩
    refine lc_gen (walk_list (K := K) (a := D1) (xs := zs.map V.int)) (fun i => decide (zs.getD i 0 ≠ 0)) (fun i v H => v = .int (zs.getD i 0)) int_rel n2 (by rw [List.length_map]; omega) (fun H2 e => Same.seq e s1) ?_ g_mono (fun σ H Q Q' hh q => ?_) ?_
    · rintro i v H2 H3 hi e ⟨rfl, ev⟩ Q1 Qn hq hn
      rw [List.length_map] at hi
      obtain rfl := Option.some.inj ((z_get zs hi).symm.trans ev)
      refine ⟨rfl, ?_⟩
      refine ⟨_, rfl, rfl, _, rfl, ?_⟩
      by_cases z : zs.getD i 0 = 0
      · rw [z]
        exact iteNS rfl ⟨rfl, hn _ (Same.refl _)⟩
      · refine ite_and (fun _ => ⟨decide_eq_true z, _, rfl, hq _ _ (Same.refl _) rfl⟩) (fun y => ?_)
        rw [decide_eq_false fun w => z (V.int.inj w)] at y
        cases y
    · obtain ⟨v, h1, h2, c, h3, h4⟩ := q
      exact ⟨v, h1, h2, c, h3, hh _ _ h4⟩
    intro H2 bs e2 hD2 pr
    rw [List.length_map] at pr
    rw [ints_pr pr] at hD2
    have ez : (List.filter (fun i => decide (zs.getD i 0 ≠ 0)) (List.range zs.length)).map (fun i => zs.getD i 0) = zs.filter fun n => decide (n ≠ 0) := by
      have e1 : (List.range zs.length).map (fun i => zs.getD i 0) = zs := by
        have := range_map 0 zs id
        rw [List.map_id] at this
        exact this
      have e2 := List.filter_map (p := fun n : Int => decide (n ≠ 0)) (f := fun i => zs.getD i 0) (l := List.range zs.length)
      rw [e1] at e2
      exact e2.symm
    rw [ez] at hD2
    generalize hnz : zs.filter (fun n => decide (n ≠ 0)) = nz at hD2
    have ln : nz.length ≤ 20 := by
      rw [← hnz]
      exact Nat.le_trans (List.length_filter_le _ _) lz
    -- the pairs
    have s2 : SqL K H2 D2 (nz.map V.int) := SqL.new hD2
    refine ⟨_, rfl, _, rfl, _, rfl, D2, _, rfl, s2, fun D3 n3 => ?_⟩
    rw [cut_drop, ← List.map_drop]
    have e3 : Same H2 (upd H2 D3 (.lst ((nz.drop 1).map V.int))) := Same.new n3
    have s3 : SqL K (upd H2 D3 (.lst ((nz.drop 1).map V.int))) D3 ((nz.drop 1).map V.int) := SqL.new upd_same
    have s2' := Same.seq e3 s2
    have e03 := e1.trans (e2.trans e3)
    generalize upd H2 D3 (.lst ((nz.drop 1).map V.int)) = H3 at e3 s3 s2' e03 ⊢
    refine ⟨D2, D3, _, _, rfl, s2', s3, fun D4 n4 => ?_⟩
    have lm : nz.length - 1 = min (nz.map V.int).length ((nz.drop 1).map V.int).length := by
      rw [List.length_map, List.length_map, List.length_drop]; omega
    refine lc_gen (walk_zip (K := K) (a := D2) (b := D3) (xs := nz.map V.int) (ys := (nz.drop 1).map V.int) lm) (fun i => decide (nz.getD i 0 < 0) != decide (nz.getD (i + 1) 0 < 0)) (fun i v H => True) (fun _ _ _ _ _ h => h) n4 (by omega) (fun H2 e => ⟨Same.seq e s2', Same.seq e s3⟩) ?_ g2_mono (fun σ H Q Q' hh q => ?_) ?_
    · rintro i v H4 H5 hi e ⟨t, x1, x2, rfl, nt, rfl, ev1, ev2⟩ Q1 Qn hq hn
      obtain rfl := Option.some.inj ((z_get nz (by omega)).symm.trans ev1)
      have g2 : (nz.drop 1).getD i 0 = nz.getD (i + 1) 0 := by
        rw [List.getD_eq_getElem?_getD, List.getElem?_drop, ← List.getD_eq_getElem?_getD, Nat.add_comm 1 i]
      obtain rfl := Option.some.inj ((z_get (nz.drop 1) (by rw [List.length_drop]; omega)).symm.trans ev2)
      rw [g2]
      have st : Same H4 (upd H4 t (.tup [.int (nz.getD i 0), .int (nz.getD (i + 1) 0)])) := Same.new nt
      refine ⟨t, _, rfl, SqT.new upd_same, rfl, _, _, rfl, _, _, rfl, rfl, rfl, ?_⟩
      refine ⟨_, rfl, _, _, rfl, rfl, _, rfl, _, _, rfl, rfl, rfl, _, rfl, ?_⟩
      have eb : ∀ p q : Bool, (!decide (V.bl p = V.bl q)) = (p != q) := fun p q => by cases p <;> cases q <;> decide
      rw [eb]
      refine ite_and (fun z => ⟨z, _, rfl, hq _ _ st trivial⟩) (fun z => ⟨z, hn _ st⟩)
    · obtain ⟨v, h1, i, j, h2, h3, v2, h4, i2, j2, h5, h6, h7, c, h8, h9⟩ := q
      exact ⟨v, h1, i, j, h2, h3, v2, h4, i2, j2, h5, h6, h7, c, h8, hh _ _ h9⟩
    intro H4 bs e4 hD4 pr
    have lb := paired_len pr
    refine ⟨D4, _, rfl, .inl (SqL.new hD4), ?_⟩
    rw [← lb, Bd.adj_range (fun a b => decide (a < 0) != decide (b < 0)) 0 nz]
    have : Bd.adj (fun a b => decide (a < 0) != decide (b < 0)) nz = Bd.chz zs := by rw [← hnz]; rfl
    rw [this]
    exact k _ (e03.trans e4)
def spCountBy (K : PySem.W.Frag) : Sp := fun vs H Q _ => ∃ (a b : Addr) (rs : List (List Int)) (lo hi : Rat), vs = [.ref a, .ref b] ∧ Rws K H a rs ∧ Iv K H b lo hi ∧ RB rs ∧ Bt 100000 lo ∧ Bt 100000 hi ∧ ∀ H', Same H H' → Q (.int ((Bd.Vz rs lo : Int) - Bd.Vz rs hi)) H'
theorem ok_count_by {x : Str} (F : Has K mg x s_count_by ["rows", "interval"]) (cS : Prom P w K mg base 2 "sign_changes" ["rows", "x"] (spSignChanges K)) : Prom P w K mg base 3 x ["rows", "interval"] (spCountBy K) := by
  refine F.prom sc_count_by (fun vs H Q E h => ?_) (fun f cdv A outer s H vs Q E hr h => ?_)
  · obtain ⟨a, b, r, y, z, rfl, _⟩ := h; rfl
  · obtain ⟨a, b, rs, lo, hi, rfl, ha, ⟨x1, x2, hi1, f1, f2⟩, hB, b1, b2, k⟩ := h
    refine ⟨_, pss_one (ps_ret (pe_op op_sub (pe_ca cS hr (pa_cons (pv 0) (pa_cons (pT0 (pv 1)) pa_nil))) (pe_ca cS hr (pa_cons (pv 0) (pa_cons (pT1 (pv 1)) pa_nil))))), ?_⟩
    refine ⟨_, rfl, _, rfl, b, _, 0, .ref x1, rfl, rfl, hi1, atI_nat (j := 0) rfl, a, x1, rs, lo, rfl, ha, f1, hB, b1, fun H1 e1 => ?_⟩
    refine ⟨_, rfl, _, rfl, b, _, 1, .ref x2, rfl, rfl, Same.tup e1 hi1, atI_nat (j := 1) rfl, a, x2, rs, hi, rfl, ha.mono e1, f2.mono e1, hB, b2, fun H2 e2 => ?_⟩
    rw [← Bd.vz_chz, ← Bd.vz_chz]
    exact ⟨_, _, rfl, rfl, k H2 (e1.trans e2)⟩
theorem sr_rb {p : List Rat} {rs : List (List Int)} (h : Bd.SR p 60000000 rs) : RB rs := ⟨h.len, h.row⟩
def PolyOk (p : List Rat) : Prop := ∃ B, Bd.Tr p ∧ p ≠ [] ∧ Bd.Cm p B ∧ p.length ≤ 13 ∧ (25 * B + 222) * Bd.wv p.length ≤ 60000000
def spCountRoots (K : PySem.W.Frag) : Sp := fun vs H Q _ => ∃ (a b : Addr) (p : List Rat) (lo hi : Rat), vs = [.ref a, .ref b] ∧ Po K H a p ∧ Iv K H b lo hi ∧ PolyOk p ∧ Bt 100000 lo ∧ Bt 100000 hi ∧ lo < hi ∧ ∀ H', Same H H' → Q (.int (Bd.nrt p lo hi : Nat)) H'
theorem stu_sub {p : List Rat} {rs : List (List Int)} (h : Bd.Stu p rs) {a b : Rat} (l : a < b) : (Bd.Vz rs a : Int) - Bd.Vz rs b = (Bd.nrt p a b : Nat) := by
  have := h a b l
  omega
theorem ok_count_roots {x : Str} (F : Has K mg x s_count_roots ["p", "interval"]) (cS : Prom P w K mg base 45 "sturm_rows" ["p"] (spSturm K)) (cC : Prom P w K mg base 3 "count_by" ["rows", "interval"] (spCountBy K)) : Prom P w K mg base 46 x ["p", "interval"] (spCountRoots K) := by
  refine F.prom sc_count_roots (fun vs H Q E h => ?_) (fun f cdv A outer s H vs Q E hr h => ?_)
  · obtain ⟨a, b, r, y, z, rfl, _⟩ := h; rfl
  · obtain ⟨a, b, p, lo, hi, rfl, ha, hI, ⟨B, tp, np, cp, l13, hB⟩, b1, b2, lt, k⟩ := h
    refine ⟨_, pss_one (ps_ret (pe_ca cC (hr.mono (by decide)) (pa_cons (pe_ca cS hr (pa_cons (pv 0) pa_nil)) (pa_cons (pv 1) pa_nil)))), ?_⟩
    refine ⟨_, rfl, a, p, B, rfl, ha, tp, np, cp, l13, hB, fun H1 t rs e1 hrs S => ?_⟩
    refine ⟨_, rfl, t, b, rs, lo, hi, rfl, hrs, hI.mono e1, sr_rb S, b1, b2, fun H2 e2 => ?_⟩
    rw [stu_sub S.stu lt]
    exact k H2 (e1.trans e2)
end
end Bw

namespace Bw
open PySem PySem.Spec PyProof.Rows L2 Bz RT
section
variable {K : PySem.W.Frag} {H H' : Hp} {a : Addr}
theorem tyT {xs : List V} (h : SqT K H a xs) : TyX K H (.ref a) (.type "tuple") := by
  rcases h with (h | ⟨o, h⟩) | ⟨o, its, n, h, c, _⟩
  · exact .base (.tup h)
  · exact .fTuple h
  · exact .kTuple h c
theorem tyL {xs : List V} (h : SqL K H a xs) : TyX K H (.ref a) (.type "list") := by
  rcases h with (h | ⟨o, h⟩) | ⟨o, its, n, h, c, _⟩
  · exact .base (.lst h)
  · exact .base (.frz h)
  · exact .kList h c
theorem kit_same (t : Value) (h : (t == t) = true) : PySem.W.kitOne K t t = some true := by
  unfold PySem.W.kitOne
  rw [if_pos h]
theorem kit_ib : PySem.W.kitOne K (.type "int") (.type "bool") = some false := rfl
theorem bls_pr : ∀ {l : List Nat} {bs : List V}, Paired (fun _ v => v = V.bl true) l bs → bs = (List.replicate l.length true).map V.bl
  | _, _, .nil => rfl
  | _, _, .cons e t => by rw [e, bls_pr t]; rfl
theorem all_rep : ∀ n, (List.replicate n true).all id = true
  | 0 => rfl
  | n + 1 => by rw [List.replicate_succ, List.all_cons, all_rep n]; rfl
/-- intervals -/
abbrev Ivs (K : PySem.W.Frag) (H : Hp) (as : List Addr) (L : List (Rat × Rat)) : Prop := Paired (fun a u => Iv K H a u.1 u.2) as L
theorem Ivs.mono {as : List Addr} {L : List (Rat × Rat)} (h : Ivs K H as L) (e : Same H H') : Ivs K H' as L := Paired.mapP h fun _ _ z => z.mono e
theorem Gr.bt0 {G : Nat} {lo hi : Rat} (g : Bd.Gr G lo hi) (h : G ≤ 2000) : Bt 3000 lo ∧ Bt 3000 hi := by
  obtain ⟨E, e0, e1, a, b, ha, hb⟩ := g.g
  have h1 := Bd.gr_bits e0 e1 ha g.l0 g.l1
  have h2 := Bd.gr_bits e0 e1 hb g.h0 g.h1
  exact ⟨Bt.mono h1 (by omega), Bt.mono h2 (by omega)⟩
end
section
variable {P : Program} {w : World} {K : PySem.W.Frag} {mg : Str → Option Value} {base : Heap}
def spIsFraction (K : PySem.W.Frag) : Sp := fun vs H Q _ => ∃ (a : Addr) (r : Rat), vs = [.ref a] ∧ Fr K H a r ∧ ∀ H', Same H H' → Q (.bl true) H'
theorem ok_is_fraction {x : Str} (F : Has K mg x s_is_fraction ["value"]) (T : Txt P K mg base) (cD : Prom P w K mg base 1 "divisor" ["a", "b"] spDivisor) : Prom P w K mg base 2 x ["value"] (spIsFraction K) := by
  refine F.prom sc_is_fraction (fun vs H Q E h => ?_) (fun f cdv A outer s H vs Q E hr h => ?_)
  · obtain ⟨a, r, rfl, _⟩ := h; rfl
  · obtain ⟨a, r, rfl, ha, k⟩ := h
    refine ⟨_, pss_cons (ps_if (PW.pt (pw_or (pt_not (pt_val (pe_callB call_isi (by rfl) T.isi boot_isinstance (pa_cons (pv 0) (pa_cons (pe_bltn (v := .ty "tuple") (by rfl) T.tup boot_tuple rfl) pa_nil))))) (pw_or1 (pt_cmpR op_ne (pe_callB call_len_seq (by rfl) T.len boot_len (pa_cons (pv 0) pa_nil)) pe_int (nomark _))))) (pss_one (ps_ret pe_bl)) pss_nil)
      (pss_cons (ps_if (pt_not (pt_val (pe_callB (cr_all rfl) (by rfl) T.all boot_all (pa_cons (pe_lc (own := [("part", 1)]) (g := gName 1) (tt := tYes) (te := tAndV (tCB (rIsi K) (tCons (tVar 1) (tCons (tC (.ty "int")) tNil))) (tNotV (tCB (rIsi K) (tCons (tVar 1) (tCons (tC (.ty "bool")) tNil))))) rfl sc_is_fraction.nd (pi_tup (pv 0)) (blkOk_by (N := ["value", "part"]) (sc := defScope s_is_fraction) (by decide +kernel))
        (fun _ _ _ _ _ => pg_name (i := 1) sc_is_fraction.nd rfl (Or.inl rfl)) (fun _ _ _ _ _ => pts_nil) (fun _ _ _ _ _ => pe_and (pe_callB call_isi (by rfl) T.isi boot_isinstance (pa_cons (pv 1) (pa_cons (pe_bltn (v := .ty "int") (by rfl) T.int boot_int rfl) pa_nil))) (pe_one (pe_not (pe_callB call_isi (by rfl) T.isi boot_isinstance (pa_cons (pv 1) (pa_cons (pe_bltn (v := .ty "bool") (by rfl) T.bool boot_bool rfl) pa_nil))))))) pa_nil)))) (pss_one (ps_ret pe_bl)) pss_nil)
      (pss_one (ps_ret (pe_and (pe_cmpR op_gt (pT1 (pv 0)) pe_int (nomark _)) (pe_one (pe_cmpR op_eq (pe_ca cD hr (pa_cons (pT0 (pv 0)) (pa_cons (pT1 (pv 0)) pa_nil))) pe_int (nomark _))))))), ?_⟩
    refine ⟨_, rfl, _, .ty "tuple", .type "tuple", .type "tuple", true, rfl, .ty _, tyT ha, kit_same _ (by decide), _, rfl, ?_⟩
    refine iteF ⟨_, rfl, a, _, rfl, .inr ha, rfl, _, rfl, iteNS rfl ?_⟩
    refine ⟨_, rfl, a, rfl, ⟨_, ha⟩, fun D nD => ?_⟩
    refine lc_map (walk_tup (K := K) (a := a) (xs := [.int r.num, .int (r.den : Nat)])) (fun i v H => v = .bl true) (fun _ _ _ _ _ h => h) nD (by show 2 ≤ 100000; decide) (fun H' e => Same.tup e ha) ?_ g_mono ?_
    · rintro i v H' H2 hi e ⟨rfl, ev⟩ Q1 hq
      obtain ⟨n, rfl⟩ : ∃ n : Int, v = .int n := by
        match i, hi, ev with
        | 0, _, ev => exact ⟨_, (Option.some.inj ev).symm⟩
        | 1, _, ev => exact ⟨_, (Option.some.inj ev).symm⟩
      refine ⟨rfl, ?_⟩
      refine ⟨_, rfl, _, .ty "int", .type "int", .type "int", true, rfl, .ty _, .base (.int _), kit_same _ (by decide), _, rfl, iteT ?_⟩
      refine ⟨_, rfl, _, .ty "bool", .type "int", .type "bool", false, rfl, .ty _, .base (.int _), kit_ib, _, rfl, ?_⟩
      exact hq _ _ (Same.refl _) rfl
    intro H' bs e hD pr
    rw [bls_pr pr] at hD
    refine ⟨D, _, rfl, SqL.new hD, _, rfl, ?_⟩
    rw [all_rep]
    refine iteF ?_
    have ha := ha.mono e
    refine fr_den (by rfl) ha ⟨_, _, rfl, rfl, _, rfl, ?_⟩
    refine ite_and (fun _ => ?_) (fun z => absurd (den_pos' r) (of_decide_eq_false z))
    refine fr_num (by rfl) ha (fr_den (by rfl) ha ⟨_, _, rfl, rfl, ?_⟩)
    have e1 : (Int.gcd r.num (r.den : Nat) : Nat) = 1 := by
      have := r.reduced
      exact this
    rw [e1]
    exact k H' e
end
end Bw

namespace Bw
open PySem PySem.Spec PyProof.Rows L2
/-! ## a def that calls itself often: one frame a turn -/
def RoomB (d : Nat) (A : Around) : Prop := A.handled = none ∧ A.depth + d + 134 < recursionLimit ∧ A.units + 3 * d + 888 < cLine
theorem RoomB.room {d : Nat} {A : Around} (r : RoomB d A) : Room 43 A := ⟨r.1, by have := r.2.1; omega, by have := r.2.2; omega⟩
theorem RoomB.step {d : Nat} {A : Around} (r : RoomB (d + 1) A) (env : Env) : RoomB d (A.deeper env) :=
  ⟨(r.room.mono (show 42 + 1 ≤ 43 by decide)).deeper env |>.hd, by have := r.2.1; show A.depth + 1 + d + 134 < _; omega, by have := r.2.2; show A.units + 3 + 3 * d + 888 < _; omega⟩
structure FnB (P : Program) (w : World) (K : PySem.W.Frag) (mg : Str → Option Value) (base : Heap) (d : Nat) (f : Addr) (fd : FuncData) (ps : List Str) (sp : Sp) : Prop where
  many : ∀ vs H Q E, sp vs H Q E → vs.length = ps.length
  goes : ∀ (A : Around) (outer : List Env) (s : Shared) (H : Hp) (args : Args) (us : List Value) (vs : List V) (Q : VK) (E : XK), RoomB d A →
    Env0 P w K mg base A outer s H → BindsTo s fd args (ps.zip us) → Vals vs us → sp vs H Q E → codeAny (model P w) A (.call (.ref f) args) (CR CX0 outer P w H s Q E) s
section
variable {P : Program} {w : World} {K : PySem.W.Frag} {mg : Str → Option Value} {base : Heap}
theorem FnB.ok {d k : Nat} {f : Addr} {fd : FuncData} {ps : List Str} {sp : Sp} (F : FnB P w K mg base d f fd ps sp) (h : ∀ A, Room k A → RoomB d A) : FnOk P w K mg base CX0 k f fd ps sp :=
  ⟨F.many, fun A outer s H args us vs Q E hr => F.goes A outer s H args us vs Q E (h A hr)⟩
theorem fnB_of {x : Str} {st : Stmt} {N ps : List Str} {d : Nat} {f : Addr} {fd : FuncData} {sp : Sp} (F : Fun K x x st f fd) (S : FnScope N ps (defScope st)) (many : ∀ vs H Q E, sp vs H Q E → vs.length = ps.length)
    (body : ∀ (cdv : Value) (A : Around) (outer : List Env) (s : Shared) (H : Hp) (vs : List V) (Q : VK) (E : XK), RoomB d (A.deeper (envOfC x (defScope st) s.heap.objs.size f cdv)) → sp vs H Q E →
      ∃ t, PSs (cxOf CX0 P w K mg base N x (defScope st) f cdv A outer s H E).nox (defBody st) t ∧ t { nx := fun _ H' => Q .non H', rt := Q } (start N vs) H) : FnB P w K mg base (d + 1) f fd ps sp := by
  obtain ⟨oc, od, kV, doc, pm, an, cdv, ct, osl, efd, found, code⟩ := F.ex
  subst efd
  refine ⟨many, fun A outer s H args us vs Q E room here binds vals asked => ?_⟩
  have down : ∀ {b : Addr} {o : Obj}, base.get? b = some o → s.heap.get? b = some o := fun {b o} g => (here.bs b o g).1
  have inK : K.In s.heap := here.mod.kin.keeps fun _ _ g => down g
  have limit : s.heap.NoLimit := here.mod.nolimit.keeps fun _ _ g => down g
  have kinds : ∀ y ∈ ps.zip us, (defScope st).names.lookup y.1 = some .local ∨ ((defScope st).names.lookup y.1 = some .cell ∧ ((cellsFrom (s.heap.objs.size + 1) (defScope st).names []).lookup y.1).isSome = true) := by
    rintro ⟨n, v⟩ hy
    exact (S.par n (List.of_mem_zip hy).1).imp id fun c => ⟨c, PySem.W.cellsFrom_some _ _ _ (.inl c)⟩
  refine codeAny_call_function room.room.depth (inK _ _ found) rfl S.co S.gen rfl (PySem.W.codeRec_of inK code) (binds _ _ _ _ ?_)
  refine wpAny_newFunctionEnv_cells S.kind kinds fun env eenv s1 new => ?_
  subst eenv
  refine ⟨limit.keeps new.toInCall.keep, codeAny_func ?_⟩
  obtain ⟨t, reads, holds⟩ := body cdv A outer s H vs Q E (room.step _) asked
  have inv := inv_start (CX := CX0) (E := E) S room.1 here (many _ _ _ _ asked) vals new
  refine wpAny_mono (reads.nox.run [] s1 (start N vs) H _ inv holds) (fun fl s' got => ?_) fun _ _ z => z
  match fl, got with
  | .ret u, ⟨v, σ', H', J, rv, q⟩ => exact ⟨v, H', J.os, J.bare, J.base, J.hok, rv, q⟩
  | .next, ⟨σ', H', J, q⟩ => exact ⟨.non, H', J.os, J.bare, J.base, J.hok, rfl, q⟩
  | .brk, ⟨_, _, _, q⟩ => exact (show False from q).elim
  | .cont, ⟨_, _, _, q⟩ => exact (show False from q).elim
end
/-- the call, where there is that room -/
theorem pe_cb {X : Cx} {d : Nat} {x : Str} {f : Addr} {fd : FuncData} {ps : List Str} {sp : Sp} {p pos : Pos} {e : Expr} {es : List Expr} {t : TA} (F : FnB X.prog X.w X.K X.mg X.base d f fd ps sp) (room : RoomB d X.A) (named : X.mg x = some (.ref f)) (kept : PySem.W.keepIn X.K (.ref f) = true) (b : Binds X.K fd ps [])
    (ha : PA X (e :: es) t) (hg : Gl X x := by rfl) (hdb : (x == ("__debug__" : Str)) = false := by decide) (he : starEach (e :: es) X.env = (false, eval e X.env) :: starEach es X.env := by rfl) (hpl : (backTo pos (starEach es X.env)).any (·.1) = false := by rfl) :
    PE X (.Call (.Name x p) (e :: es) [] pos) (tCall sp [] E0 t) := by
  refine ⟨fun pins s σ H Q I h => wpAny_Call_Name_kw (ld_glob I hg named ?_ hdb)⟩
  refine PySem.W.callWith_K (h₀ := X.base) I.ok.mod.kin kept (thn (ha.run pos pins s σ H _ I h) fun us s1 got => ?_) he hpl
  obtain ⟨vs, H1, I1, vals, asked⟩ := got
  refine ⟨I1.kIn, ?_⟩
  rw [List.append_nil] at asked
  have long : us.length = ps.length := by rw [← vals.length]; exact F.many _ _ _ _ asked
  have binds := b s1 us I1.kIn (by rw [List.append_nil]; exact long)
  rw [List.append_nil] at binds
  refine wpAny_call (codeAny_mono (F.goes X.A X.stack s1 H1 ⟨us, []⟩ us vs Q E0 room I1.env0 binds vals asked) fun r s' got => ?_)
  match r, got with
  | .error e, got => exact (show False from got).elim
  | .ok (.ret u), got => exact I1.after got
  | .ok .next, got => exact (show False from got).elim
  | .ok .brk, got => exact (show False from got).elim
  | .ok .cont, got => exact (show False from got).elim
end Bw

namespace Bw
open PySem PySem.Spec PyProof.Rows L2 Bz RT
section
variable {P : Program} {w : World} {K : PySem.W.Frag} {mg : Str → Option Value} {base : Heap}
/-! ## an interval is halved -/
def spHalved (K : PySem.W.Frag) : Sp := fun vs H Q _ => ∃ (a b : Addr) (p : List Rat) (rs : List (List Int)) (lo hi : Rat) (G : Nat), vs = [.ref a, .ref b] ∧ Rws K H a rs ∧ Iv K H b lo hi ∧ RB rs ∧ Bd.Stu p rs ∧ lo < hi ∧ Bd.Gr G lo hi ∧ G ≤ 1999 ∧ Bd.nrt p lo hi = 1 ∧
  ∀ H' t lo' hi', Same H H' → Iv K H' t lo' hi' → lo ≤ lo' → hi' ≤ hi → lo' < hi' → Bd.nrt p lo' hi' = 1 → Bd.Gr (G + 1) lo' hi' → hi' - lo' = (hi - lo) / 2 → Q (.ref t) H'
theorem ok_halved {x : Str} (F : Has K mg x s_halved ["rows", "interval"]) (cM : Prom P w K mg base 42 "middle" ["a", "b"] (spMiddle K)) (cC : Prom P w K mg base 3 "count_by" ["rows", "interval"] (spCountBy K)) : Prom P w K mg base 43 x ["rows", "interval"] (spHalved K) := by
  refine F.prom sc_halved (fun vs H Q E h => ?_) (fun f cdv A outer s H vs Q E hr h => ?_)
  · obtain ⟨a, b, p, rs, lo, hi, G, rfl, _⟩ := h; rfl
  · obtain ⟨a, b, p, rs, lo, hi, G, rfl, hrs, ⟨x1, x2, hb, f1, f2⟩, rb, st, lt, g, hG, n1, k⟩ := h
    obtain ⟨b1, b2⟩ := Gr.bt0 g (by omega)
    obtain ⟨g1, g2⟩ := g.half
    obtain ⟨c1, c2⟩ := Gr.bt0 g1 (by omega)
    obtain ⟨l1, l2⟩ := Bd.half_lt lt
    obtain ⟨s1, s2⟩ := Bd.half_sub lo hi
    have add := Bd.nrt_add p (Rat.le_of_lt l1) (Rat.le_of_lt l2)
    refine ⟨_, pss_cons (ps_asg (pv 1) (pg_tup rfl (pgs_cons (pg_name (i := 2) sc_halved.nd rfl (.inl rfl)) (pgs_cons (pg_name (i := 3) sc_halved.nd rfl (.inl rfl)) pgs_nil))))
      (pss_cons (ps_set (i := 4) sc_halved.nd rfl (.inl rfl) (pe_ca cM hr (pa_cons (pv 2) (pa_cons (pv 3) pa_nil))))
      (pss_one (ps_ret (pe_ifExp (pt_cmpR op_eq (pe_ca cC (hr.mono (by decide)) (pa_cons (pv 0) (pa_cons (pe_tup (pa_cons (pv 2) (pa_cons (pv 4) pa_nil))) pa_nil))) pe_int (nomark _)) (pe_tup (pa_cons (pv 2) (pa_cons (pv 4) pa_nil))) (pe_tup (pa_cons (pv 4) (pa_cons (pv 3) pa_nil))))))), ?_⟩
    refine ⟨_, rfl, b, _, rfl, hb, rfl, _, _, rfl, _, _, rfl, rfl, ?_⟩
    refine ⟨_, rfl, _, rfl, x1, x2, lo, hi, rfl, f1, f2, b1.mono (by decide), b2.mono (by decide), fun H1 h e1 fh => ?_⟩
    refine ⟨_, rfl, _, rfl, _, rfl, by show 2 ≤ sizeLine; decide, fun t nt => ?_⟩
    have e2 := e1.trans (Same.new (o := .tup [.ref x1, .ref h]) nt)
    have fh2 := fh.mono (Same.new (o := .tup [.ref x1, .ref h]) nt)
    refine ⟨a, t, rs, lo, (lo + hi) / 2, rfl, hrs.mono e2, ⟨x1, h, SqT.new upd_same, f1.mono e2, fh2⟩, rb, b1.mono (by decide), c2.mono (by decide), fun H3 e3 => ?_⟩
    rw [stu_sub st l1]
    refine ⟨rfl, _, rfl, ?_⟩
    have e03 := e2.trans e3
    have fh3 := fh2.mono e3
    refine ite_and (fun z => ?_) (fun z => ?_)
    · have z := V.int.inj (of_decide_eq_true z)
      refine ⟨_, rfl, _, rfl, by show 2 ≤ sizeLine; decide, fun u nu => ?_⟩
      have e4 : Same H3 (upd H3 u (.tup [.ref x1, .ref h])) := Same.new nu
      exact k _ u _ _ (e03.trans e4) ⟨x1, h, SqT.new upd_same, f1.mono (e03.trans e4), fh3.mono e4⟩ Rat.le_refl (Rat.le_of_lt l2) l1 (by omega) g1 s1
    · have z : (Bd.nrt p lo ((lo + hi) / 2) : Int) ≠ 1 := fun y => of_decide_eq_false z (by rw [y])
      refine ⟨_, rfl, _, rfl, by show 2 ≤ sizeLine; decide, fun u nu => ?_⟩
      have e4 : Same H3 (upd H3 u (.tup [.ref h, .ref x2])) := Same.new nu
      exact k _ u _ _ (e03.trans e4) ⟨h, x2, SqT.new upd_same, fh3.mono e4, f2.mono (e03.trans e4)⟩ (Rat.le_of_lt l1) Rat.le_refl l2 (by omega) g2 s2
/-! ## narrowed -/
def spNarrowed (K : PySem.W.Frag) : Sp := fun vs H Q _ => ∃ (a b c : Addr) (p : List Rat) (lo hi wd : Rat) (G n : Nat), vs = [.ref a, .ref b, .ref c] ∧ Po K H a p ∧ Iv K H b lo hi ∧ Fr K H c wd ∧ PolyOk p ∧ lo < hi ∧ Bd.Gr G lo hi ∧ G + n ≤ 1900 ∧ Bt 1000 wd ∧ 0 < wd ∧ hi - lo ≤ 2 ^ n * wd ∧ Bd.nrt p lo hi = 1 ∧
  ∀ H' t lo' hi', Same H H' → Iv K H' t lo' hi' → lo ≤ lo' → hi' ≤ hi → lo' < hi' → Bd.nrt p lo' hi' = 1 → Bd.Gr (G + n) lo' hi' → Q (.ref t) H'
theorem ok_narrowed {x : Str} (F : Has K mg x s_narrowed ["p", "interval", "width"]) (cS : Prom P w K mg base 45 "sturm_rows" ["p"] (spSturm K)) (cL : Prom P w K mg base 1 "is_less" ["a", "b"] (spIsLess K)) (cN : Prom P w K mg base 41 "minus" ["a", "b"] (spMinus K)) (cH : Prom P w K mg base 43 "halved" ["rows", "interval"] (spHalved K)) :
    Prom P w K mg base 46 x ["p", "interval", "width"] (spNarrowed K) := by
  refine F.prom sc_narrowed (fun vs H Q E h => ?_) (fun f cdv A outer s H vs Q E hr h => ?_)
  · obtain ⟨a, b, c, p, lo, hi, wd, G, n, rfl, _⟩ := h; rfl
  · obtain ⟨a, b, c, p, lo, hi, wd, G, n, rfl, hp, hI, hw, ⟨B, tp, np, cp, l13, hB⟩, lt, g, hG, bw, w0, hn, n1, k⟩ := h
    refine ⟨_, pss_cons (ps_set (i := 3) sc_narrowed.nd rfl (.inl rfl) (pe_ca cS hr (pa_cons (pv 0) pa_nil)))
      (pss_cons (ps_while PassesOwn.never (pt_val (pe_ca cL (hr.mono (by decide)) (pa_cons (pv 2) (pa_cons (pe_ca cN (hr.mono (by decide)) (pa_cons (pT1 (pv 1)) (pa_cons (pT0 (pv 1)) pa_nil))) pa_nil))))
        (pss_one (ps_set (i := 1) sc_narrowed.nd rfl (.inl rfl) (pe_ca cH (hr.mono (by decide)) (pa_cons (pv 3) (pa_cons (pv 1) pa_nil))))))
      (pss_one (ps_ret (pv 1)))), ?_⟩
    refine ⟨_, rfl, a, p, B, rfl, hp, tp, np, cp, l13, hB, fun H1 t rs e1 hrs S => ?_⟩
    refine ⟨fun m σ H' => ∃ u l h, σ = [some (.ref a), some (.ref u), some (.ref c), some (.ref t)] ∧ Same H1 H' ∧ Iv K H' u l h ∧ lo ≤ l ∧ h ≤ hi ∧ l < h ∧ Bd.nrt p l h = 1 ∧ m ≤ n ∧ Bd.Gr (G + (n - m)) l h ∧ h - l ≤ 2 ^ m * wd, ⟨n, b, lo, hi, rfl, Same.refl _, hI.mono e1, Rat.le_refl, Rat.le_refl, lt, n1, Nat.le_refl _, by rw [Nat.sub_self]; exact g, hn⟩, ?_⟩
    rintro m σ H' ⟨u, l, h, rfl, e, ⟨x1, x2, hu, f1, f2⟩, k1, k2, k3, k4, k5, k6, k7⟩
    obtain ⟨b1, b2⟩ := Gr.bt0 k6 (by omega)
    refine ⟨_, rfl, _, rfl, u, _, 1, .ref x2, rfl, rfl, hu, atI_nat (j := 1) rfl, _, rfl, u, _, 0, .ref x1, rfl, rfl, hu, atI_nat (j := 0) rfl, x2, x1, h, l, rfl, f2, f1, b2.lo (by decide), b1.lo (by decide), trivial, fun H2 d e2 fd => ?_⟩
    have bd := (b2.add b1.neg).mono (n := 7000) (by decide)
    rw [show h + -l = h - l by grind] at bd
    refine ⟨c, d, wd, h - l, rfl, hw.mono (e1.trans (e.trans e2)), fd, bw.lo (by decide), bd.lo (by decide), _, rfl, ?_⟩
    refine ite_and (fun z => ?_) (fun z => ?_)
    · have z := of_decide_eq_true z
      have m0 : m ≠ 0 := fun y => by
        subst y
        rw [Lean.Grind.Semiring.pow_zero] at k7
        grind
      refine ⟨_, fun _ _ h => h, ?_⟩
      refine ⟨_, rfl, _, rfl, t, u, p, rs, l, h, G + (n - m), rfl, hrs.mono (e.trans e2), Iv.mono ⟨x1, x2, hu, f1, f2⟩ e2, sr_rb S, S.stu, k3, k6, by omega, k4, fun H3 v l' h' e3 hv j1 j2 j3 j4 j5 j6 => ?_⟩
      refine ⟨m - 1, by omega, v, l', h', rfl, e.trans (e2.trans e3), hv, Rat.le_trans k1 j1, Rat.le_trans j2 k2, j3, j4, by omega, by rw [show n - (m - 1) = n - m + 1 by omega, ← Nat.add_assoc]; exact j5, ?_⟩
      obtain ⟨q, rfl⟩ : ∃ q, m = q + 1 := ⟨m - 1, by omega⟩
      rw [j6, Nat.add_sub_cancel]
      rw [Lean.Grind.Semiring.pow_succ] at k7
      grind
    · exact ⟨_, rfl, k H2 u l h (e1.trans (e.trans e2)) (Iv.mono ⟨x1, x2, hu, f1, f2⟩ e2) k1 k2 k3 k4 (k6.mono (by omega))⟩
/-! ## split_by: a def that calls itself -/
def SplitPre (p : List Rat) (rs : List (List Int)) : Prop := Bd.Stu p rs ∧ RB rs ∧ Bd.Sep p ∧ (∃ x, Bd.ev (Bd.cQ p) x ≠ 0) ∧ Bd.Ib 6 p ∧ p.length ≤ 7
def spSplit (K : PySem.W.Frag) : Nat → Sp
  | 0 => fun _ _ _ _ => False
  | d + 1 => fun vs H Q _ => ∃ (a b : Addr) (p : List Rat) (rs : List (List Int)) (lo hi : Rat) (G : Nat), vs = [.ref a, .ref b] ∧ Rws K H a rs ∧ Iv K H b lo hi ∧ SplitPre p rs ∧ lo < hi ∧ Bd.Gr G lo hi ∧ G + d ≤ 1900 ∧ (hi - lo) * 2 ^ 225 ≤ 2 ^ d ∧
    ∀ H' t as L, Same H H' → H' t = some (.lst (as.map V.ref)) → Ivs K H' as L → Bd.Iso p (G + d) lo hi L → Q (.ref t) H'
theorem Iso.mono {p : List Rat} {G G' : Nat} {lo hi : Rat} {L : List (Rat × Rat)} (h : Bd.Iso p G lo hi L) (k : G ≤ G') : Bd.Iso p G' lo hi L := ⟨h.cut, h.len, fun u hu => (h.gr u hu).mono k⟩
theorem ivs_rep {H : Hp} {b : Addr} {lo hi : Rat} (h : Iv K H b lo hi) : ∀ n, Ivs K H (List.replicate n b) (List.replicate n (lo, hi))
  | 0 => .nil
  | n + 1 => .cons h (ivs_rep h n)
theorem split_turn {f : Addr} {fd : FuncData} (F : Fun K "split_by" "split_by" s_split_by f fd) (named : mg "split_by" = some (.ref f)) (binds : Binds K fd ["rows", "interval"] []) (cM : Prom P w K mg base 42 "middle" ["a", "b"] (spMiddle K)) (cC : Prom P w K mg base 3 "count_by" ["rows", "interval"] (spCountBy K)) : ∀ d, FnB P w K mg base d f fd ["rows", "interval"] (spSplit K d)
  | 0 => ⟨fun vs H Q E h => h.elim, fun A outer s H args us vs Q E _ _ _ _ h => h.elim⟩
  | d + 1 => by
    have cS := split_turn F named binds cM cC d
    refine fnB_of F sc_split_by (fun vs H Q E h => ?_) (fun cdv A outer s H vs Q E hr h => ?_)
    · obtain ⟨a, b, p, rs, lo, hi, G, rfl, _⟩ := h; rfl
    · obtain ⟨a, b, p, rs, lo, hi, G, rfl, hrs, hI, ⟨st, rb, sp, nz, ib, l7⟩, lt, g, hG, hd, k⟩ := h
      obtain ⟨b1, b2⟩ := Gr.bt0 g (by omega)
      refine ⟨_, pss_cons (ps_set (i := 2) sc_split_by.nd rfl (.inl rfl) (pe_ca cC (hr.room.mono (by decide)) (pa_cons (pv 0) (pa_cons (pv 1) pa_nil))))
        (pss_cons (ps_if (pt_cmpR op_lt (pv 2) pe_int (nomark _)) (pss_one (ps_ret (pe_op op_rep (pe_lst (pa_cons (pv 1) pa_nil)) (pv 2)))) pss_nil)
        (pss_cons (ps_asg (pv 1) (pg_tup rfl (pgs_cons (pg_name (i := 3) sc_split_by.nd rfl (.inl rfl)) (pgs_cons (pg_name (i := 4) sc_split_by.nd rfl (.inl rfl)) pgs_nil))))
        (pss_cons (ps_set (i := 5) sc_split_by.nd rfl (.inl rfl) (pe_ca cM (hr.room.mono (by decide)) (pa_cons (pv 3) (pa_cons (pv 4) pa_nil))))
        (pss_one (ps_ret (pe_op op_cat (pe_cb cS hr named F.kp binds (pa_cons (pv 0) (pa_cons (pe_tup (pa_cons (pv 3) (pa_cons (pv 5) pa_nil))) pa_nil))) (pe_cb cS hr named F.kp binds (pa_cons (pv 0) (pa_cons (pe_tup (pa_cons (pv 5) (pa_cons (pv 4) pa_nil))) pa_nil))))))))), ?_⟩
      refine ⟨_, rfl, _, rfl, a, b, rs, lo, hi, rfl, hrs, hI, rb, b1.mono (by decide), b2.mono (by decide), fun H1 e1 => ?_⟩
      rw [stu_sub st lt]
      refine ⟨_, rfl, _, _, rfl, rfl, _, rfl, ?_⟩
      have nl := Bd.nrt_le nz lo hi
      refine ite_and (fun z => ?_) (fun z => ?_)
      · have z : Bd.nrt p lo hi < 2 := by have := of_decide_eq_true z; omega
        refine ⟨_, rfl, by show 1 ≤ sizeLine; decide, fun l nl' => ?_⟩
        have e2 : Same H1 (upd H1 l (.lst [.ref b])) := Same.new nl'
        refine ⟨_, rfl, l, _, _, rfl, rfl, upd_same, by omega, by omega, ?_, fun t nt => ?_⟩
        · rw [Int.toNat_natCast]
          exact Nat.le_trans (show 1 * Bd.nrt p lo hi ≤ 2 by omega) (by decide)
        · rw [Int.toNat_natCast]
          have e3 : Same (upd H1 l (.lst [.ref b])) (upd (upd H1 l (.lst [.ref b])) t (.lst (List.replicate (Bd.nrt p lo hi) [V.ref b]).flatten)) := Same.new nt
          exact k _ t (List.replicate (Bd.nrt p lo hi) b) _ (e1.trans (e2.trans e3)) (by rw [upd_same, flat_one, List.map_replicate]) (ivs_rep (hI.mono (e1.trans (e2.trans e3))) _) (Iso.mono (Bd.iso_few lt g z) (by omega))
      · have z : 2 ≤ Bd.nrt p lo hi := by have := of_decide_eq_false z; omega
        have big := Bd.sep_cnt sp nz ib l7 z
        cases d with
        | zero =>
          exfalso
          rw [Lean.Grind.Semiring.pow_zero] at hd
          grind
        | succ d =>
          obtain ⟨x1, x2, hb, f1, f2⟩ := hI
          obtain ⟨g1, g2⟩ := g.half
          obtain ⟨l1, l2⟩ := Bd.half_lt lt
          obtain ⟨s1, s2⟩ := Bd.half_sub lo hi
          have hd2 := Bd.half_pow hd
          refine ⟨_, rfl, b, _, rfl, Same.tup e1 hb, rfl, _, _, rfl, _, _, rfl, rfl, ?_⟩
          refine ⟨_, rfl, _, rfl, x1, x2, lo, hi, rfl, f1.mono e1, f2.mono e1, b1.mono (by decide), b2.mono (by decide), fun H2 h e2 fh => ?_⟩
          have e02 := e1.trans e2
          refine ⟨_, rfl, _, rfl, _, rfl, by show 2 ≤ sizeLine; decide, fun t nt => ?_⟩
          have e3 : Same H2 (upd H2 t (.tup [.ref x1, .ref h])) := Same.new nt
          have e03 := e02.trans e3
          refine ⟨a, t, p, rs, lo, (lo + hi) / 2, G + 1, rfl, hrs.mono e03, ⟨x1, h, SqT.new upd_same, f1.mono e03, fh.mono e3⟩, ⟨st, rb, sp, nz, ib, l7⟩, l1, g1, by omega, by rw [s1]; exact hd2, fun H4 t4 as L e4 ht4 hL iso1 => ?_⟩
          refine ⟨_, rfl, _, rfl, _, rfl, by show 2 ≤ sizeLine; decide, fun u nu => ?_⟩
          have e5 : Same H4 (upd H4 u (.tup [.ref h, .ref x2])) := Same.new nu
          have e05 := e03.trans (e4.trans e5)
          refine ⟨a, u, p, rs, (lo + hi) / 2, hi, G + 1, rfl, hrs.mono e05, ⟨h, x2, SqT.new upd_same, fh.mono (e3.trans (e4.trans e5)), f2.mono e05⟩, ⟨st, rb, sp, nz, ib, l7⟩, l2, g2, by omega, by rw [s2]; exact hd2, fun H6 t6 bs M e6 ht6 hM iso2 => ?_⟩
          have n1 := Bd.nrt_le nz lo ((lo + hi) / 2)
          have n2 := Bd.nrt_le nz ((lo + hi) / 2) hi
          have k1 := iso1.len
          have k2 := iso2.len
          have q1 := paired_len hL
          have q2 := paired_len hM
          refine ⟨t4, t6, _, _, rfl, rfl, e6 _ _ (e5 _ _ ht4), ht6, ?_, fun v nv => ?_⟩
          · rw [List.length_map, List.length_map]
            exact Nat.le_trans (show as.length + bs.length ≤ 14 by omega) (by decide)
          · have e7 : Same H6 (upd H6 v (.lst (as.map V.ref ++ bs.map V.ref))) := Same.new nv
            refine k _ v (as ++ bs) (L ++ M) (e05.trans (e6.trans e7)) (by rw [upd_same, List.map_append]) (paired_app (hL.mono (e5.trans (e6.trans e7))) (hM.mono e7)) (Iso.mono (iso1.app iso2) (by omega))
theorem ok_split_by (F : Has K mg "split_by" s_split_by ["rows", "interval"]) (cM : Prom P w K mg base 42 "middle" ["a", "b"] (spMiddle K)) (cC : Prom P w K mg base 3 "count_by" ["rows", "interval"] (spCountBy K)) : Prom P w K mg base 129 "split_by" ["rows", "interval"] (spSplit K 258) := by
  obtain ⟨f, fd, F, named, binds⟩ := F
  exact ⟨f, fd, named, F.kp, binds, (split_turn F named binds cM cC 258).ok fun A r => ⟨r.hd, by have := r.dp; omega, by have := r.un; omega⟩⟩
def spIsolated (K : PySem.W.Frag) : Sp := fun vs H Q _ => ∃ (a b : Addr) (p : List Rat) (lo hi : Rat) (G : Nat), vs = [.ref a, .ref b] ∧ Po K H a p ∧ Iv K H b lo hi ∧ PolyOk p ∧ Bd.Ib 6 p ∧ p.length ≤ 7 ∧ lo < hi ∧ Bd.Gr G lo hi ∧ G ≤ 1000 ∧
    ∀ H' t as L, Same H H' → H' t = some (.lst (as.map V.ref)) → Ivs K H' as L → Bd.Iso p (G + 257) lo hi L → Q (.ref t) H'
theorem gr_wide {G : Nat} {lo hi : Rat} (g : Bd.Gr G lo hi) : (hi - lo) * 2 ^ 225 ≤ 2 ^ 257 := by
  have h1 := g.h1
  have h2 := g.l0
  have e : (2 ^ 257 : Rat) = (2 ^ 31 - -(2 ^ 31)) * 2 ^ 225 := by decide +kernel
  rw [e]
  refine Rat.mul_le_mul_of_nonneg_right (by grind) (by decide +kernel)
theorem ok_isolated {x : Str} (F : Has K mg x s_isolated ["p", "interval"]) (cS : Prom P w K mg base 45 "sturm_rows" ["p"] (spSturm K)) (cB : Prom P w K mg base 129 "split_by" ["rows", "interval"] (spSplit K 258)) : Prom P w K mg base 130 x ["p", "interval"] (spIsolated K) := by
  refine F.prom sc_isolated (fun vs H Q E h => ?_) (fun f cdv A outer s H vs Q E hr h => ?_)
  · obtain ⟨a, b, p, lo, hi, G, rfl, _⟩ := h; rfl
  · obtain ⟨a, b, p, lo, hi, G, rfl, hp, hI, ⟨B, tp, np, cp, l13, hB⟩, ib, l7, lt, g, hG, k⟩ := h
    refine ⟨_, pss_one (ps_ret (pe_ca cB hr (pa_cons (pe_ca cS (hr.mono (by decide)) (pa_cons (pv 0) pa_nil)) (pa_cons (pv 1) pa_nil)))), ?_⟩
    refine ⟨_, rfl, a, p, B, rfl, hp, tp, np, cp, l13, hB, fun H1 t rs e1 hrs S => ?_⟩
    refine ⟨_, rfl, t, b, p, rs, lo, hi, G, rfl, hrs, hI.mono e1, ⟨S.stu, sr_rb S, S.sep, tp.nz np, ib, l7⟩, lt, g, by show G + 257 ≤ 1900; omega, gr_wide g, fun H2 t2 as L e2 ht hL iso => ?_⟩
    exact k H2 t2 as L (e1.trans e2) ht hL iso
end
end Bw

namespace Bw
open PySem PySem.Spec PyProof.Rows L2 Bz RT
theorem ivs_get {K : PySem.W.Frag} {H : Hp} {as : List Addr} {L : List (Rat × Rat)} (h : Ivs K H as L) {i : Nat} (hi : i < L.length) : ∃ a x y, (as.map V.ref)[i]? = some (.ref a) ∧ L[i]? = some (x, y) ∧ Iv K H a x y := by
  have l := paired_len h
  have e : as[i]? = some as[i] := List.getElem?_eq_getElem (by omega)
  obtain ⟨⟨x, y⟩, h1, h2⟩ := paired_get h e
  exact ⟨as[i], x, y, by rw [List.getElem?_map, e]; rfl, h1, h2⟩
theorem ivs_at {K : PySem.W.Frag} {H : Hp} {as : List Addr} {L : List (Rat × Rat)} (h : Ivs K H as L) {i : Nat} {v : V} (e : (as.map V.ref)[i]? = some v) : ∃ a x y, v = .ref a ∧ i < L.length ∧ L[i]? = some (x, y) ∧ Iv K H a x y := by
  have hi : i < L.length := by
    have l := paired_len h
    refine Classical.byContradiction fun n => ?_
    rw [List.getElem?_eq_none (by rw [List.length_map]; omega)] at e
    cases e
  obtain ⟨a, x, y, h1, h2, h3⟩ := ivs_get h hi
  exact ⟨a, x, y, Option.some.inj (e.symm.trans h1), hi, h2, h3⟩
section
variable {P : Program} {w : World} {K : PySem.W.Frag} {mg : Str → Option Value} {base : Heap}
def spIsInterval (K : PySem.W.Frag) : Sp := fun vs H Q _ => ∃ (a : Addr) (lo hi : Rat), vs = [.ref a] ∧ Iv K H a lo hi ∧ lo < hi ∧ Bt 3000 lo ∧ Bt 3000 hi ∧ ∀ H', Same H H' → Q (.bl true) H'
theorem ok_is_interval {x : Str} (F : Has K mg x s_is_interval ["value"]) (T : Txt P K mg base) (cF : Prom P w K mg base 2 "is_fraction" ["value"] (spIsFraction K)) (cL : Prom P w K mg base 1 "is_less" ["a", "b"] (spIsLess K)) : Prom P w K mg base 3 x ["value"] (spIsInterval K) := by
  refine F.prom sc_is_interval (fun vs H Q E h => ?_) (fun f cdv A outer s H vs Q E hr h => ?_)
  · obtain ⟨a, lo, hi, rfl, _⟩ := h; rfl
  · obtain ⟨a, lo, hi, rfl, ⟨x1, x2, ha, f1, f2⟩, lt, b1, b2, k⟩ := h
    refine ⟨_, pss_cons (ps_if (PW.pt (pw_or (pt_not (pt_val (pe_callB call_isi (by rfl) T.isi boot_isinstance (pa_cons (pv 0) (pa_cons (pe_bltn (v := .ty "tuple") (by rfl) T.tup boot_tuple rfl) pa_nil))))) (pw_or (pt_cmpR op_ne (pe_callB call_len_seq (by rfl) T.len boot_len (pa_cons (pv 0) pa_nil)) pe_int (nomark _))
        (pw_or1 (pt_not (pt_val (pe_callB (cr_all rfl) (by rfl) T.all boot_all (pa_cons (pe_lc (own := [("part", 1)]) (g := gName 1) (tt := tYes) rfl sc_is_interval.nd (pi_tup (pv 0)) (blkOk_by (N := ["value", "part"]) (sc := defScope s_is_interval) (by decide +kernel))
        (fun _ _ _ _ _ => pg_name (i := 1) sc_is_interval.nd rfl (Or.inl rfl)) (fun _ _ _ _ _ => pts_nil) (fun _ _ _ _ _ => pe_ca cF hr (pa_cons (pv 1) pa_nil))) pa_nil)))))))) (pss_one (ps_ret pe_bl)) pss_nil)
      (pss_one (ps_ret (pe_ca cL (hr.mono (by decide)) (pa_cons (pT0 (pv 0)) (pa_cons (pT1 (pv 0)) pa_nil))))), ?_⟩
    refine ⟨_, rfl, _, .ty "tuple", .type "tuple", .type "tuple", true, rfl, .ty _, tyT ha, kit_same _ (by decide), _, rfl, ?_⟩
    refine iteF ⟨_, rfl, a, _, rfl, .inr ha, rfl, _, rfl, iteNS rfl ?_⟩
    refine ⟨_, rfl, a, rfl, ⟨_, ha⟩, fun D nD => ?_⟩
    refine lc_map (walk_tup (K := K) (a := a) (xs := [.ref x1, .ref x2])) (fun i v H => v = .bl true) (fun _ _ _ _ _ h => h) nD (by show 2 ≤ 100000; decide) (fun H' e => Same.tup e ha) ?_ g_mono ?_
    · rintro i v H' H2 hi e ⟨rfl, ev⟩ Q1 hq
      obtain ⟨u, r, rfl, fu⟩ : ∃ u r, v = .ref u ∧ Fr K H u r := by
        match i, hi, ev with
        | 0, _, ev => exact ⟨_, _, (Option.some.inj ev).symm, f1⟩
        | 1, _, ev => exact ⟨_, _, (Option.some.inj ev).symm, f2⟩
      refine ⟨rfl, ?_⟩
      exact ⟨_, rfl, u, r, rfl, fu.mono e, fun H3 e3 => hq _ _ e3 rfl⟩
    intro H' bs e hD pr
    rw [bls_pr pr] at hD
    refine ⟨D, _, rfl, SqL.new hD, _, rfl, ?_⟩
    rw [all_rep]
    refine iteF ?_
    have ha := Same.tup e ha
    refine ⟨_, rfl, a, _, 0, .ref x1, rfl, rfl, ha, atI_nat (j := 0) rfl, _, rfl, a, _, 1, .ref x2, rfl, rfl, ha, atI_nat (j := 1) rfl, x1, x2, lo, hi, rfl, f1.mono e, f2.mono e, b1.lo (by decide), b2.lo (by decide), ?_⟩
    rw [decide_eq_true lt]
    exact k H' e
def spIsIsolated (K : PySem.W.Frag) : Sp := fun vs H Q _ => ∃ (a b c : Addr) (p : List Rat) (lo hi : Rat) (as : List Addr) (L : List (Rat × Rat)), vs = [.ref a, .ref b, .ref c] ∧ Po K H a p ∧ Iv K H b lo hi ∧ SqL K H c (as.map V.ref) ∧ Ivs K H as L ∧ PolyOk p ∧ lo < hi ∧ Bt 3000 lo ∧ Bt 3000 hi ∧ (∀ u ∈ L, Bt 3000 u.1 ∧ Bt 3000 u.2) ∧
  Bd.Cut p lo L hi ∧ L.length = Bd.nrt p lo hi ∧ L.length ≤ 100 ∧ ∀ H', Same H H' → Q (.bl true) H'
theorem cut_drop_cut {p : List Rat} : ∀ {L : List (Rat × Rat)} {a b : Rat} {i : Nat} {x y : Rat}, Bd.Cut p a L b → L[i]? = some (x, y) → x < y ∧ Bd.nrt p x y = 1
  | [], _, _, i, _, _, _, e => by simp at e
  | (u, v) :: L, a, b, 0, x, y, h, e => by
    simp at e
    obtain ⟨rfl, rfl⟩ := e
    exact ⟨h.2.1, h.2.2.1⟩
  | (u, v) :: L, a, b, i + 1, x, y, h, e => cut_drop_cut h.2.2.2 (by simpa using e)
theorem ok_is_isolated {x : Str} (F : Has K mg x s_is_isolated ["p", "interval", "value"]) (T : Txt P K mg base) (cI : Prom P w K mg base 3 "is_interval" ["value"] (spIsInterval K)) (cL : Prom P w K mg base 1 "is_less" ["a", "b"] (spIsLess K)) (cS : Prom P w K mg base 45 "sturm_rows" ["p"] (spSturm K)) (cC : Prom P w K mg base 3 "count_by" ["rows", "interval"] (spCountBy K)) : Prom P w K mg base 46 x ["p", "interval", "value"] (spIsIsolated K) := by
  refine F.prom sc_is_isolated (fun vs H Q E h => ?_) (fun f cdv A outer s H vs Q E hr h => ?_)
  · obtain ⟨a, b, c, p, lo, hi, as, L, rfl, _⟩ := h; rfl
  · obtain ⟨a, b, c, p, lo, hi, as, L, rfl, hp, ⟨x1, x2, hb, f1, f2⟩, hc, hL, ⟨B, tp, np, cp, l13, hB⟩, lt, b1, b2, bL, cut, ln, l100, k⟩ := h
    have lL := paired_len hL
    refine ⟨_, pss_cons (ps_if (PW.pt (pw_or (pt_not (pt_val (pe_callB call_isi (by rfl) T.isi boot_isinstance (pa_cons (pv 2) (pa_cons (pe_bltn (v := .ty "list") (by rfl) T.lst boot_list rfl) pa_nil)))))
        (pw_or1 (pt_not (pt_val (pe_callB (cr_all rfl) (by rfl) T.all boot_all (pa_cons (pe_lc (own := [("one", 3)]) (g := gName 3) (tt := tYes) rfl sc_is_isolated.nd (pi_list (pv 2)) (blkOk_by (N := ["p", "interval", "value", "one", "ends", "low", "high", "rows"]) (sc := defScope s_is_isolated) (by decide +kernel))
        (fun _ _ _ _ _ => pg_name (i := 3) sc_is_isolated.nd rfl (Or.inl rfl)) (fun _ _ _ _ _ => pts_nil) (fun _ _ _ _ _ => pe_ca cI (hr.mono (by decide)) (pa_cons (pv 3) pa_nil))) pa_nil))))))) (pss_one (ps_ret pe_bl)) pss_nil)
      (pss_cons (ps_set (i := 4) sc_is_isolated.nd rfl (.inl rfl) (pe_lst (pa_cons (pT0 (pv 1)) pa_nil)))
      (pss_cons (ps_for PassesOwn.never rfl (pi_list (pv 2)) (pg_tup rfl (pgs_cons (pg_name (i := 5) sc_is_isolated.nd rfl (.inl rfl)) (pgs_cons (pg_name (i := 6) sc_is_isolated.nd rfl (.inl rfl)) pgs_nil)))
        (pss_cons (ps_if (PW.pt (pw_or (pt_val (pe_ca cL (hr.mono (by decide)) (pa_cons (pv 5) (pa_cons (pe_ix ix_list (pv 4) (pe_un un_neg pe_int) (fun _ _ => rfl)) pa_nil)))) (pw_or1 (pt_val (pe_ca cL (hr.mono (by decide)) (pa_cons (pT1 (pv 1)) (pa_cons (pv 6) pa_nil))))))) (pss_one (ps_ret pe_bl)) pss_nil)
        (pss_one (ps_expr (pe_bm PySem.F.plainAttrs_list PySem.F.slot_list_append PySem.F.type_list_append mt_append (pv 4) (pa_cons (pv 6) pa_nil))))))
      (pss_cons (ps_set (i := 7) sc_is_isolated.nd rfl (.inr rfl) (pe_ca cS hr (pa_cons (pv 0) pa_nil)))
      (pss_cons (ps_if (pt_not (pt_val (pe_callB (cr_all rfl) (by rfl) T.all boot_all (pa_cons (pe_lc (own := [("one", 3)]) (g := gName 3) (tt := tYes) (te := tOp rEq (tCall (spCountBy K) [] E0 (tCons (tVar 7) (tCons (tVar 3) tNil))) (tC (.int 1))) rfl sc_is_isolated.nd (pi_list (pv 2)) (blkOk_by (N := ["p", "interval", "value", "one", "ends", "low", "high", "rows"]) (sc := defScope s_is_isolated) (by decide +kernel))
        (fun _ _ _ _ _ => pg_name (i := 3) sc_is_isolated.nd rfl (Or.inl rfl)) (fun _ _ _ _ _ => pts_nil) (fun _ _ _ _ _ => pe_cmpR op_eq (pe_ca cC (hr.mono (by decide)) (pa_cons (pv 7) (pa_cons (pv 3) pa_nil))) pe_int (nomark _))) pa_nil)))) (pss_one (ps_ret pe_bl)) pss_nil)
      (pss_one (ps_ret (pe_cmpR op_eq (pe_callB call_len_seq (by rfl) T.len boot_len (pa_cons (pv 2) pa_nil)) (pe_ca cC (hr.mono (by decide)) (pa_cons (pv 7) (pa_cons (pv 1) pa_nil))) (nomark _)))))))), ?_⟩
    refine ⟨_, rfl, _, .ty "list", .type "list", .type "list", true, rfl, .ty _, tyL hc, kit_same _ (by decide), _, rfl, ?_⟩
    refine iteF ?_
    refine ⟨_, rfl, c, rfl, ⟨_, hc⟩, fun D nD => ?_⟩
    refine lc_map (walk_list (K := K) (a := c) (xs := as.map V.ref)) (fun i v H => v = .bl true) (fun _ _ _ _ _ h => h) nD (by rw [List.length_map]; omega) (fun H' e => Same.seq e hc) ?_ g_mono ?_
    · rintro i v H' H2 hi' e ⟨rfl, ev⟩ Q1 hq
      obtain ⟨a', x, y, rfl, hi2, hL', iv⟩ := ivs_at hL ev
      obtain ⟨lt', _⟩ := cut_drop_cut cut hL'
      have bb := bL _ (List.mem_of_getElem? hL')
      exact ⟨rfl, _, rfl, a', x, y, rfl, iv.mono e, lt', bb.1, bb.2, fun H3 e3 => hq _ _ e3 rfl⟩
    intro H1 bs e1 hD pr
    rw [bls_pr pr] at hD
    refine ⟨D, _, rfl, SqL.new hD, _, rfl, ?_⟩
    rw [all_rep]
    refine iteF ?_
    refine ⟨_, rfl, b, _, 0, .ref x1, rfl, rfl, Same.tup e1 hb, atI_nat (j := 0) rfl, by show 1 ≤ sizeLine; decide, fun te nte => ?_⟩
    have nte0 := none_of e1 nte
    have e2 : Same H (upd H1 te (.lst [.ref x1])) := e1.trans (Same.new nte)
    have hte : (upd H1 te (.lst [.ref x1])) te = some (.lst [.ref x1]) := upd_same
    generalize upd H1 te (.lst [.ref x1]) = H2 at e2 hte ⊢
    refine ⟨_, rfl, c, rfl, ⟨_, Same.seq e2 hc⟩, ?_⟩
    refine for_list (K := K) (a := c) (xs := as.map V.ref) (fun i σ H' => ∃ o3 o5 o6 o7 u v xs, σ = [some (.ref a), some (.ref b), some (.ref c), o3, some (.ref te), o5, o6, o7] ∧ Same H H' ∧ H' te = some (.lst (xs ++ [V.ref u])) ∧ xs.length = i ∧ Fr K H' u v ∧ Bt 3000 v ∧ Bd.Cut p v (L.drop i) hi)
      ⟨_, none, none, none, x1, lo, [], rfl, e2, hte, rfl, f1.mono e2, b1, cut⟩ ?_ ?_ ?_
    · rintro i σ H' hi' ⟨o3, o5, o6, o7, u, v, xs, rfl, e, _⟩
      exact Same.seq e hc
    · rintro i z σ H' ev ⟨o3, o5, o6, o7, u, v, xs, rfl, e, hte, hxs, fu, bu, cu⟩
      obtain ⟨a', x, y, rfl, hi2, hL', iv⟩ := ivs_at hL ev
      have bb := bL _ (List.mem_of_getElem? hL')
      have dr : L.drop i = (x, y) :: L.drop (i + 1) := by
        rw [List.drop_eq_getElem_cons hi2]
        congr 1
        rw [List.getElem?_eq_getElem hi2] at hL'
        exact Option.some.inj hL'
      rw [dr] at cu
      obtain ⟨c1, c2, c3, c4⟩ := cu
      have c5 := c4.le
      obtain ⟨y1, y2, hy, g1, g2⟩ := iv.mono e
      refine ⟨a', _, rfl, hy, rfl, _, _, rfl, _, _, rfl, rfl, ?_⟩
      refine ⟨_, rfl, _, rfl, _, rfl, te, _, _, .ref u, rfl, rfl, SqL.new hte, atI_last _ _, y1, u, x, v, rfl, g1, fu, bb.1.lo (by decide), bu.lo (by decide), _, rfl, ?_⟩
      rw [decide_eq_false (show ¬ x < v from fun z => by grind)]
      refine iteF ?_
      refine ⟨_, rfl, b, _, 1, .ref x2, rfl, rfl, Same.tup e hb, atI_nat (j := 1) rfl, _, rfl, x2, y2, hi, y, rfl, f2.mono e, g2, b2.lo (by decide), bb.2.lo (by decide), _, rfl, ?_⟩
      rw [decide_eq_false (show ¬ hi < y from fun z => by grind)]
      refine iteF ?_
      refine ⟨_, rfl, .inl ⟨rfl, _, SqL.new hte⟩, _, rfl, te, _, _, rfl, rfl, hte, ?_, ?_⟩
      · rw [List.length_append, List.length_singleton, hxs]
        exact Nat.lt_of_le_of_lt (show i + 1 ≤ 100 by omega) (by decide)
      · exact ⟨_, _, _, _, y2, y, xs ++ [.ref u], rfl, Same.mut e nte0, upd_same, by rw [List.length_append, List.length_singleton, hxs], g2.tm (TupS.lst hte), bb.2, c4⟩
    · rintro σ H' ⟨o3, o5, o6, o7, u, v, xs, rfl, e, _⟩
      refine ⟨_, rfl, a, p, B, rfl, hp.mono e, tp, np, cp, l13, hB, fun H3 t rs e3 hrs S => ?_⟩
      have e03 := e.trans e3
      have hc3 := Same.seq e03 hc
      refine ⟨_, rfl, c, rfl, ⟨_, hc3⟩, fun D2 n2 => ?_⟩
      refine lc_map (walk_list (K := K) (a := c) (xs := as.map V.ref)) (fun i v H => v = .bl true) (fun _ _ _ _ _ h => h) n2 (by rw [List.length_map]; omega) (fun H' e => Same.seq e hc3) ?_ g_mono ?_
      · rintro i v H4 H5 hi' e4 ⟨rfl, ev⟩ Q1 hq
        obtain ⟨a', x, y, rfl, hi2, hL', iv⟩ := ivs_at hL ev
        obtain ⟨lt', n1⟩ := cut_drop_cut cut hL'
        have bb := bL _ (List.mem_of_getElem? hL')
        refine ⟨rfl, _, rfl, _, rfl, t, a', rs, x, y, rfl, hrs.mono e4, iv.mono (e03.trans e4), sr_rb S, bb.1.mono (by decide), bb.2.mono (by decide), fun H6 e6 => ?_⟩
        rw [stu_sub S.stu lt', n1]
        exact ⟨rfl, hq _ _ e6 rfl⟩
      intro H4 bs2 e4 hD2 pr2
      rw [bls_pr pr2] at hD2
      refine ⟨D2, _, rfl, SqL.new hD2, _, rfl, ?_⟩
      rw [all_rep]
      refine iteF ?_
      have e04 := e03.trans e4
      refine ⟨_, rfl, c, _, rfl, .inl (Same.seq e04 hc), _, rfl, _, rfl, t, b, rs, lo, hi, rfl, hrs.mono e4, ⟨x1, x2, Same.tup e04 hb, f1.mono e04, f2.mono e04⟩, sr_rb S, b1.mono (by decide), b2.mono (by decide), fun H6 e6 => ?_⟩
      rw [stu_sub S.stu lt, List.length_map, lL, ln]
      refine ⟨rfl, ?_⟩
      rw [decide_eq_true (rfl : V.int (Bd.nrt p lo hi : Nat) = V.int (Bd.nrt p lo hi : Nat))]
      exact k H6 (e04.trans e6)
end
end Bw

namespace Bw
open PySem PySem.Spec PyProof.Rows L2 Bz RT
def PolyS (p : List Rat) : Prop := Bd.Tr p ∧ p ≠ [] ∧ Bd.Ib 6 p ∧ p.length ≤ 7
theorem PolyS.cm {p : List Rat} (h : PolyS p) : Bd.Cm p 3 := h.2.2.1.cm (by decide) (by decide)
theorem wv7 {n : Nat} (h : n ≤ 7) : Bd.wv n ≤ 577 := Nat.le_trans (Bd.wv_mono h) (by decide)
theorem wv6 {n : Nat} (h : n ≤ 6) : Bd.wv n ≤ 239 := Nat.le_trans (Bd.wv_mono h) (by decide)
theorem PolyS.ok {p : List Rat} (h : PolyS p) : PolyOk p :=
  ⟨3, h.1, h.2.1, h.cm, by have := h.2.2.2; omega, by have := Nat.mul_le_mul_left (25 * 3 + 222) (wv7 h.2.2.2); omega⟩
theorem PolyS.cp {p q : List Rat} (h : PolyS p) (k : PolyS q) : Bd.CP p q 3 3 12 :=
  ⟨h.1, k.1, h.2.1, h.cm, k.cm, by decide, by decide, by
    have := h.2.2.2
    have := List.length_pos_iff.mpr k.2.1
    omega⟩
theorem gcd_ok {p q g : List Rat} (h : PolyS p) (k : PolyS q) (G : Bd.CD p q 12 g) : PolyOk g := by
  obtain ⟨B, cB, hb⟩ := G.cm
  obtain ⟨t, et⟩ := G.gcd.mon
  have l1 := h.2.2.2
  have l2 := k.2.2.2
  have lg : g.length ≤ 7 := by have := G.len; omega
  refine ⟨B, .inr ⟨t, 1, et, by decide⟩, by rw [et]; simp, cB, by omega, ?_⟩
  have w1 := wv6 (n := q.length - 1) (by omega)
  have w2 := wv7 lg
  have b1 : B + 1 ≤ 12 * 239 := Nat.le_trans hb (Nat.mul_le_mul_left _ w1)
  have : (25 * B + 222) * Bd.wv g.length ≤ 71897 * 577 := Nat.mul_le_mul (by omega) w2
  omega
theorem gcd_self {p g : List Rat} (h : PolyS p) (G : Bd.CD p p 12 g) (a b : Rat) : Bd.nrt g a b = Bd.nrt p a b :=
  Bd.nrt_congr (Bd.gcd_nz G.gcd) (h.1.nz h.2.1) (fun x => by rw [Bd.gcd_root G.gcd]; exact ⟨fun z => z.1, fun z => ⟨z, z⟩⟩) a b
section
variable {P : Program} {w : World} {K : PySem.W.Frag} {mg : Str → Option Value} {base : Heap}
def mxr (a b : Rat) : Rat := if b < a then a else b
def mnr (a b : Rat) : Rat := if a < b then a else b
def spAreEqual (K : PySem.W.Frag) : Sp := fun vs H Q _ => ∃ (a b c d : Addr) (p : List Rat) (l1 h1 l2 h2 : Rat), vs = [.ref a, .ref b, .ref c, .ref d] ∧ Po K H a p ∧ Iv K H b l1 h1 ∧ Po K H c p ∧ Iv K H d l2 h2 ∧ PolyS p ∧ (Bt 3000 l1 ∧ Bt 3000 h1) ∧ (Bt 3000 l2 ∧ Bt 3000 h2) ∧
  ∀ H', Same H H' → Q (.bl (decide (mxr l1 l2 < mnr h1 h2) && decide (0 < Bd.nrt p (mxr l1 l2) (mnr h1 h2)))) H'
theorem ok_are_equal {x : Str} (F : Has K mg x s_are_equal ["p", "one", "q", "other"]) (cL : Prom P w K mg base 1 "is_less" ["a", "b"] (spIsLess K)) (cC : Prom P w K mg base 44 "common" ["p", "q"] (spCommon K)) (cR : Prom P w K mg base 46 "count_roots" ["p", "interval"] (spCountRoots K)) : Prom P w K mg base 47 x ["p", "one", "q", "other"] (spAreEqual K) := by
  refine F.prom sc_are_equal (fun vs H Q E h => ?_) (fun f cdv A outer s H vs Q E hr h => ?_)
  · obtain ⟨a, b, c, d, p, l1, h1, l2, h2, rfl, _⟩ := h; rfl
  · obtain ⟨a, b, c, d, p, l1, h1, l2, h2, rfl, hp, ⟨x1, x2, hb, f1, f2⟩, hq, ⟨y1, y2, hd, g1, g2⟩, S, ⟨b1, b2⟩, ⟨b3, b4⟩, k⟩ := h
    refine ⟨_, pss_cons (ps_set (i := 4) sc_are_equal.nd rfl (.inl rfl) (pe_ifExp (pt_val (pe_ca cL (hr.mono (by decide)) (pa_cons (pT0 (pv 3)) (pa_cons (pT0 (pv 1)) pa_nil)))) (pT0 (pv 1)) (pT0 (pv 3))))
      (pss_cons (ps_set (i := 5) sc_are_equal.nd rfl (.inl rfl) (pe_ifExp (pt_val (pe_ca cL (hr.mono (by decide)) (pa_cons (pT1 (pv 1)) (pa_cons (pT1 (pv 3)) pa_nil)))) (pT1 (pv 1)) (pT1 (pv 3))))
      (pss_one (ps_ret (pe_and (pe_ca cL (hr.mono (by decide)) (pa_cons (pv 4) (pa_cons (pv 5) pa_nil))) (pe_one (pe_cmpR op_gt (pe_ca cR hr (pa_cons (pe_ca cC (hr.mono (by decide)) (pa_cons (pv 0) (pa_cons (pv 2) pa_nil))) (pa_cons (pe_tup (pa_cons (pv 4) (pa_cons (pv 5) pa_nil))) pa_nil))) pe_int (nomark _))))))), ?_⟩
    have go : ∀ (u v : Addr) (lo hi : Rat) (o4 o5 : V), o4 = .ref u → o5 = .ref v → Fr K H u lo → Fr K H v hi → Bt 3000 lo → Bt 3000 hi → lo = mxr l1 l2 → hi = mnr h1 h2 →
        tRet (tAndV (tCall (spIsLess K) [] E0 (tCons (tVar 4) (tCons (tVar 5) tNil))) (tOp (rI0 fun i j => .bl (decide (j < i))) (tCall (spCountRoots K) [] E0 (tCons (tCall (spCommon K) [] E0 (tCons (tVar 0) (tCons (tVar 2) tNil))) (tCons (tTup (tCons (tVar 4) (tCons (tVar 5) tNil))) tNil))) (tC (.int 0))))
          { nx := fun x H' => Q V.non H', rt := Q } [some (.ref a), some (.ref b), some (.ref c), some (.ref d), some o4, some o5] H := by
      rintro u v lo hi _ _ rfl rfl fu fv bu bv rfl rfl
      refine ⟨_, rfl, _, rfl, u, v, _, _, rfl, fu, fv, bu.lo (by decide), bv.lo (by decide), _, rfl, ?_⟩
      by_cases lt : mxr l1 l2 < mnr h1 h2
      · rw [decide_eq_true lt] at k ⊢
        refine iteT ?_
        have W := wv7 S.2.2.2
        refine ⟨_, rfl, _, rfl, a, c, p, p, 3, 3, 12, rfl, hp, hq, S.cp S, by have := S.2.2.2; omega, by have := S.2.2.2; omega, by omega, fun H1 t g e1 hg G => ?_⟩
        refine ⟨_, rfl, _, rfl, by show 2 ≤ sizeLine; decide, fun q nq => ?_⟩
        have e2 : Same H1 (upd H1 q (.tup [.ref u, .ref v])) := Same.new nq
        refine ⟨t, q, g, _, _, rfl, hg.mono e2, ⟨u, v, SqT.new upd_same, fu.mono (e1.trans e2), fv.mono (e1.trans e2)⟩, gcd_ok S S G, bu.mono (by decide), bv.mono (by decide), lt, fun H3 e3 => ?_⟩
        rw [gcd_self S G]
        refine ⟨_, _, rfl, rfl, ?_⟩
        have := k H3 (e1.trans (e2.trans e3))
        rw [Bool.true_and] at this
        have e4 : decide ((0 : Int) < (Bd.nrt p (mxr l1 l2) (mnr h1 h2) : Nat)) = decide (0 < Bd.nrt p (mxr l1 l2) (mnr h1 h2)) := decide_eq_decide.mpr (by omega)
        show Q (.bl (decide ((0 : Int) < (Bd.nrt p (mxr l1 l2) (mnr h1 h2) : Nat)))) H3
        rw [e4]
        exact this
      · rw [decide_eq_false lt] at k ⊢
        exact iteF (k H (Same.refl _))
    refine ⟨_, rfl, d, _, 0, .ref y1, rfl, rfl, hd, atI_nat (j := 0) rfl, _, rfl, b, _, 0, .ref x1, rfl, rfl, hb, atI_nat (j := 0) rfl, y1, x1, l2, l1, rfl, g1, f1, b3.lo (by decide), b1.lo (by decide), _, rfl, ?_⟩
    refine ite_and (fun z1 => ?_) (fun z1 => ?_)
    · refine ⟨_, rfl, b, _, 0, .ref x1, rfl, rfl, hb, atI_nat (j := 0) rfl, ?_⟩
      refine ⟨_, rfl, b, _, 1, .ref x2, rfl, rfl, hb, atI_nat (j := 1) rfl, _, rfl, d, _, 1, .ref y2, rfl, rfl, hd, atI_nat (j := 1) rfl, x2, y2, h1, h2, rfl, f2, g2, b2.lo (by decide), b4.lo (by decide), _, rfl, ?_⟩
      refine ite_and (fun z2 => ?_) (fun z2 => ?_)
      · refine ⟨_, rfl, b, _, 1, .ref x2, rfl, rfl, hb, atI_nat (j := 1) rfl, ?_⟩
        exact go x1 x2 l1 h1 _ _ rfl rfl f1 f2 b1 b2 (if_pos (of_decide_eq_true z1)).symm (if_pos (of_decide_eq_true z2)).symm
      · refine ⟨_, rfl, d, _, 1, .ref y2, rfl, rfl, hd, atI_nat (j := 1) rfl, ?_⟩
        exact go x1 y2 l1 h2 _ _ rfl rfl f1 g2 b1 b4 (if_pos (of_decide_eq_true z1)).symm (if_neg (of_decide_eq_false z2)).symm
    · refine ⟨_, rfl, d, _, 0, .ref y1, rfl, rfl, hd, atI_nat (j := 0) rfl, ?_⟩
      refine ⟨_, rfl, b, _, 1, .ref x2, rfl, rfl, hb, atI_nat (j := 1) rfl, _, rfl, d, _, 1, .ref y2, rfl, rfl, hd, atI_nat (j := 1) rfl, x2, y2, h1, h2, rfl, f2, g2, b2.lo (by decide), b4.lo (by decide), _, rfl, ?_⟩
      refine ite_and (fun z2 => ?_) (fun z2 => ?_)
      · refine ⟨_, rfl, b, _, 1, .ref x2, rfl, rfl, hb, atI_nat (j := 1) rfl, ?_⟩
        exact go y1 x2 l2 h1 _ _ rfl rfl g1 f2 b3 b2 (if_neg (of_decide_eq_false z1)).symm (if_pos (of_decide_eq_true z2)).symm
      · refine ⟨_, rfl, d, _, 1, .ref y2, rfl, rfl, hd, atI_nat (j := 1) rfl, ?_⟩
        exact go y1 y2 l2 h2 _ _ rfl rfl g1 g2 b3 b4 (if_neg (of_decide_eq_false z1)).symm (if_neg (of_decide_eq_false z2)).symm
def spParted (K : PySem.W.Frag) : Sp := fun vs H Q _ => ∃ (a b c d : Addr) (p : List Rat) (l1 h1 l2 h2 : Rat), vs = [.ref a, .ref b, .ref c, .ref d] ∧ Po K H a p ∧ Iv K H b l1 h1 ∧ Po K H c p ∧ Iv K H d l2 h2 ∧ PolyS p ∧ (Bt 3000 l1 ∧ Bt 3000 h1) ∧ (Bt 3000 l2 ∧ Bt 3000 h2) ∧ ¬ (l2 < h1 ∧ l1 < h2) ∧
  ∀ H' t (u : Addr) (z : Str), Same H H' → SqT K H' t [.str z, .ref u] → ((l2 < h1 ∧ z = "greater" ∧ Fr K H' u h2) ∨ (¬ l2 < h1 ∧ z = "less" ∧ Fr K H' u h1)) → Q (.ref t) H'
theorem ok_parted {x : Str} (F : Has K mg x s_parted ["p", "one", "q", "other"]) (T : Txt P K mg base) (cL : Prom P w K mg base 1 "is_less" ["a", "b"] (spIsLess K)) (cS : Prom P w K mg base 45 "sturm_rows" ["p"] (spSturm K)) (cH : Prom P w K mg base 43 "halved" ["rows", "interval"] (spHalved K)) : Prom P w K mg base 46 x ["p", "one", "q", "other"] (spParted K) := by
  refine F.prom sc_parted (fun vs H Q E h => ?_) (fun f cdv A outer s H vs Q E hr h => ?_)
  · obtain ⟨a, b, c, d, p, l1, h1, l2, h2, rfl, _⟩ := h; rfl
  · obtain ⟨a, b, c, d, p, l1, h1, l2, h2, rfl, hp, ⟨x1, x2, hb, f1, f2⟩, hq, ⟨y1, y2, hd, g1, g2⟩, S, ⟨b1, b2⟩, ⟨b3, b4⟩, dis, k⟩ := h
    obtain ⟨t1, m1⟩ := T.less
    obtain ⟨t2, m2⟩ := T.greater
    obtain ⟨B, tp, np, cp, l13, hB⟩ := S.ok
    refine ⟨_, pss_cons (ps_par (i := 4) (j := 5) (by rfl) sc_parted.nd rfl rfl (by decide) rfl rfl (pa_cons (pe_ca cS hr (pa_cons (pv 0) pa_nil)) (pa_cons (pe_ca cS hr (pa_cons (pv 2) pa_nil)) pa_nil)) (by rfl))
      (pss_cons (ps_while PassesOwn.never (PW.pt (pw_and (pt_val (pe_ca cL (hr.mono (by decide)) (pa_cons (pT0 (pv 3)) (pa_cons (pT1 (pv 1)) pa_nil)))) (pw_and1 (pt_val (pe_ca cL (hr.mono (by decide)) (pa_cons (pT0 (pv 1)) (pa_cons (pT1 (pv 3)) pa_nil)))))))
        (pss_one (ps_par (i := 1) (j := 3) (by rfl) sc_parted.nd rfl rfl (by decide) rfl rfl (pa_cons (pe_ca cH (hr.mono (by decide)) (pa_cons (pv 4) (pa_cons (pv 1) pa_nil))) (pa_cons (pe_ca cH (hr.mono (by decide)) (pa_cons (pv 5) (pa_cons (pv 3) pa_nil))) pa_nil)) (by rfl))))
      (pss_cons (ps_if (pt_val (pe_ca cL (hr.mono (by decide)) (pa_cons (pT0 (pv 3)) (pa_cons (pT1 (pv 1)) pa_nil)))) (pss_one (ps_ret (pe_tup (pa_cons (pe_glob (v := .str "greater") rfl m2 ⟨_, rfl⟩) (pa_cons (pT1 (pv 3)) pa_nil))))) pss_nil)
      (pss_one (ps_ret (pe_tup (pa_cons (pe_glob (v := .str "less") rfl m1 ⟨_, rfl⟩) (pa_cons (pT1 (pv 1)) pa_nil))))))), ?_⟩
    refine ⟨_, rfl, a, p, B, rfl, hp, tp, np, cp, l13, hB, fun H1 u1 r1 e1 hr1 S1 => ?_⟩
    refine ⟨_, rfl, c, p, B, rfl, hq.mono e1, tp, np, cp, l13, hB, fun H2 u2 r2 e2 hr2 S2 => ?_⟩
    refine ⟨_, _, rfl, ?_⟩
    have e := e1.trans e2
    have hb := Same.tup e hb
    have hd := Same.tup e hd
    have f1 := f1.mono e
    have f2 := f2.mono e
    have g1 := g1.mono e
    have g2 := g2.mono e
    have q0 : ∀ {H' : Hp} {Q : VK} (k : Q (.bl (decide (l2 < h1))) H') (_ : SqT K H' d [.ref y1, .ref y2]) (_ : SqT K H' b [.ref x1, .ref x2]) (_ : Fr K H' y1 l2) (_ : Fr K H' x2 h1) {o4 o5 : Option V},
        tCall (spIsLess K) [] E0 (tCons (tOp (rIxT K) (tVar 3) (tC (.int 0))) (tCons (tOp (rIxT K) (tVar 1) (tC (.int 1))) tNil)) [some (.ref a), some (.ref b), some (.ref c), some (.ref d), o4, o5] H' Q := fun {H' Q} k hd hb g1 f2 {o4 o5} =>
      ⟨_, rfl, d, _, 0, .ref y1, rfl, rfl, hd, atI_nat (j := 0) rfl, _, rfl, b, _, 1, .ref x2, rfl, rfl, hb, atI_nat (j := 1) rfl, y1, x2, l2, h1, rfl, g1, f2, b3.lo (by decide), b2.lo (by decide), k⟩
    refine ⟨fun m σ H' => σ = [some (.ref a), some (.ref b), some (.ref c), some (.ref d), some (.ref u1), some (.ref u2)] ∧ H' = H2, ⟨0, rfl, rfl⟩, ?_⟩
    rintro m σ H' ⟨rfl, eH⟩
    subst eH
    refine q0 ?_ hd hb g1 f2
    refine ⟨_, rfl, ?_⟩
    by_cases lt : l2 < h1
    · have nlt : ¬ l1 < h2 := fun z => dis ⟨lt, z⟩
      rw [decide_eq_true lt]
      refine iteT ⟨_, rfl, b, _, 0, .ref x1, rfl, rfl, hb, atI_nat (j := 0) rfl, _, rfl, d, _, 1, .ref y2, rfl, rfl, hd, atI_nat (j := 1) rfl, x1, y2, l1, h2, rfl, f1, g2, b1.lo (by decide), b4.lo (by decide), _, rfl, ?_⟩
      rw [decide_eq_false nlt]
      refine iteF ?_
      refine q0 ?_ hd hb g1 f2
      refine ⟨_, rfl, ?_⟩
      rw [decide_eq_true lt]
      refine iteT ⟨_, rfl, d, _, 1, .ref y2, rfl, rfl, hd, atI_nat (j := 1) rfl, by show 2 ≤ sizeLine; decide, fun t nt => ?_⟩
      have e3 : Same H' (upd H' t (.tup [.str "greater", .ref y2])) := Same.new nt
      exact k _ t y2 "greater" (e.trans e3) (SqT.new upd_same) (.inl ⟨lt, rfl, g2.mono e3⟩)
    · rw [decide_eq_false lt]
      refine iteF ?_
      refine iteF ?_
      refine q0 ?_ hd hb g1 f2
      refine ⟨_, rfl, ?_⟩
      rw [decide_eq_false lt]
      refine iteF ?_
      refine ⟨_, rfl, b, _, 1, .ref x2, rfl, rfl, hb, atI_nat (j := 1) rfl, by show 2 ≤ sizeLine; decide, fun t nt => ?_⟩
      have e3 : Same H' (upd H' t (.tup [.str "less", .ref x2])) := Same.new nt
      exact k _ t x2 "less" (e.trans e3) (SqT.new upd_same) (.inr ⟨lt, rfl, f2.mono e3⟩)
theorem mx_mn {l1 h1 l2 h2 : Rat} (h : ¬ (l2 < h1 ∧ l1 < h2)) (k1 : l1 < h1) (k2 : l2 < h2) : ¬ mxr l1 l2 < mnr h1 h2 := by
  unfold mxr mnr
  intro z
  refine h ?_
  split at z <;> split at z <;> constructor <;> grind
def spCompared (K : PySem.W.Frag) : Sp := fun vs H Q _ => ∃ (a b c d : Addr) (p : List Rat) (l1 h1 l2 h2 : Rat), vs = [.ref a, .ref b, .ref c, .ref d] ∧ Po K H a p ∧ Iv K H b l1 h1 ∧ Po K H c p ∧ Iv K H d l2 h2 ∧ PolyS p ∧ (Bt 3000 l1 ∧ Bt 3000 h1) ∧ (Bt 3000 l2 ∧ Bt 3000 h2) ∧ l1 < h1 ∧ l2 < h2 ∧
  ((mxr l1 l2 < mnr h1 h2 ∧ 0 < Bd.nrt p (mxr l1 l2) (mnr h1 h2) ∧ ∀ H', Same H H' → Q (.str "equal") H') ∨ (h1 ≤ l2 ∧ ∀ H', Same H H' → Q (.str "less") H') ∨ (h2 ≤ l1 ∧ ∀ H', Same H H' → Q (.str "greater") H'))
theorem ok_compared {x : Str} (F : Has K mg x s_compared ["p", "one", "q", "other"]) (T : Txt P K mg base) (cE : Prom P w K mg base 47 "are_equal" ["p", "one", "q", "other"] (spAreEqual K)) (cP : Prom P w K mg base 46 "parted" ["p", "one", "q", "other"] (spParted K)) : Prom P w K mg base 48 x ["p", "one", "q", "other"] (spCompared K) := by
  refine F.prom sc_compared (fun vs H Q E h => ?_) (fun f cdv A outer s H vs Q E hr h => ?_)
  · obtain ⟨a, b, c, d, p, l1, h1, l2, h2, rfl, _⟩ := h; rfl
  · obtain ⟨a, b, c, d, p, l1, h1, l2, h2, rfl, hp, hI, hq, hJ, S, B1, B2, lt1, lt2, k⟩ := h
    obtain ⟨t0, m0⟩ := T.equal
    refine ⟨_, pss_one (ps_ret (pe_ifExp (pt_val (pe_ca cE hr (pa_cons (pv 0) (pa_cons (pv 1) (pa_cons (pv 2) (pa_cons (pv 3) pa_nil)))))) (pe_glob (v := .str "equal") rfl m0 ⟨_, rfl⟩) (pT0 (pe_ca cP (hr.mono (by decide)) (pa_cons (pv 0) (pa_cons (pv 1) (pa_cons (pv 2) (pa_cons (pv 3) pa_nil)))))))), ?_⟩
    refine ⟨_, rfl, _, rfl, _, rfl, _, rfl, a, b, c, d, p, l1, h1, l2, h2, rfl, hp, hI, hq, hJ, S, B1, B2, fun H1 e1 => ?_⟩
    refine ⟨_, rfl, ?_⟩
    have go : ¬ (l2 < h1 ∧ l1 < h2) → (∀ H' (z : Str), Same H H' → ((l2 < h1 ∧ z = "greater") ∨ (¬ l2 < h1 ∧ z = "less")) → Q (.str z) H') →
        tOp (rIxT K) (tCall (spParted K) [] E0 (tCons (tVar 0) (tCons (tVar 1) (tCons (tVar 2) (tCons (tVar 3) tNil))))) (tC (.int 0)) [some (.ref a), some (.ref b), some (.ref c), some (.ref d)] H1 Q := fun dis kk => by
      refine ⟨_, rfl, _, rfl, _, rfl, _, rfl, a, b, c, d, p, l1, h1, l2, h2, rfl, hp.mono e1, hI.mono e1, hq.mono e1, hJ.mono e1, S, B1, B2, dis, fun H2 t u z e2 ht hz => ?_⟩
      exact ⟨t, _, 0, .str z, rfl, rfl, ht, atI_nat (j := 0) rfl, kk H2 z (e1.trans e2) (hz.elim (fun y => .inl ⟨y.1, y.2.1⟩) fun y => .inr ⟨y.1, y.2.1⟩)⟩
    rcases k with ⟨k1, k2, k⟩ | ⟨k1, k⟩ | ⟨k1, k⟩
    · rw [decide_eq_true k1, decide_eq_true k2]
      exact iteT (k H1 e1)
    · have dis : ¬ (l2 < h1 ∧ l1 < h2) := fun z => by have := z.1; grind
      rw [decide_eq_false (mx_mn dis lt1 lt2)]
      refine iteF (go dis fun H' z e hz => ?_)
      rcases hz with ⟨y, _⟩ | ⟨_, rfl⟩
      · grind
      · exact k H' e
    · have dis : ¬ (l2 < h1 ∧ l1 < h2) := fun z => by have := z.2; grind
      rw [decide_eq_false (mx_mn dis lt1 lt2)]
      refine iteF (go dis fun H' z e hz => ?_)
      rcases hz with ⟨_, rfl⟩ | ⟨y, _⟩
      · exact k H' e
      · grind
def spBetween (K : PySem.W.Frag) : Sp := fun vs H Q _ => ∃ (a b c d : Addr) (p : List Rat) (l1 h1 l2 h2 : Rat), vs = [.ref a, .ref b, .ref c, .ref d] ∧ Po K H a p ∧ Iv K H b l1 h1 ∧ Po K H c p ∧ Iv K H d l2 h2 ∧ PolyS p ∧ (Bt 3000 l1 ∧ Bt 3000 h1) ∧ (Bt 3000 l2 ∧ Bt 3000 h2) ∧ l1 < h1 ∧ l2 < h2 ∧ h1 ≤ l2 ∧
  ∀ H' u, Same H H' → Fr K H' u h1 → Q (.ref u) H'
theorem ok_find_between {x : Str} (F : Has K mg x s_find_between ["p", "one", "q", "other"]) (cE : Prom P w K mg base 47 "are_equal" ["p", "one", "q", "other"] (spAreEqual K)) (cP : Prom P w K mg base 46 "parted" ["p", "one", "q", "other"] (spParted K)) : Prom P w K mg base 48 x ["p", "one", "q", "other"] (spBetween K) := by
  refine F.prom sc_find_between (fun vs H Q E h => ?_) (fun f cdv A outer s H vs Q E hr h => ?_)
  · obtain ⟨a, b, c, d, p, l1, h1, l2, h2, rfl, _⟩ := h; rfl
  · obtain ⟨a, b, c, d, p, l1, h1, l2, h2, rfl, hp, hI, hq, hJ, S, B1, B2, lt1, lt2, le, k⟩ := h
    refine ⟨_, pss_one (ps_ret (pe_ifExp (pt_val (pe_ca cE hr (pa_cons (pv 0) (pa_cons (pv 1) (pa_cons (pv 2) (pa_cons (pv 3) pa_nil)))))) pe_non (pT1 (pe_ca cP (hr.mono (by decide)) (pa_cons (pv 0) (pa_cons (pv 1) (pa_cons (pv 2) (pa_cons (pv 3) pa_nil)))))))), ?_⟩
    refine ⟨_, rfl, _, rfl, _, rfl, _, rfl, a, b, c, d, p, l1, h1, l2, h2, rfl, hp, hI, hq, hJ, S, B1, B2, fun H1 e1 => ?_⟩
    refine ⟨_, rfl, ?_⟩
    have dis : ¬ (l2 < h1 ∧ l1 < h2) := fun z => by have := z.1; grind
    rw [decide_eq_false (mx_mn dis lt1 lt2)]
    refine iteF ?_
    refine ⟨_, rfl, _, rfl, _, rfl, _, rfl, a, b, c, d, p, l1, h1, l2, h2, rfl, hp.mono e1, hI.mono e1, hq.mono e1, hJ.mono e1, S, B1, B2, dis, fun H2 t u z e2 ht hz => ?_⟩
    rcases hz with ⟨y, _⟩ | ⟨_, _, fu⟩
    · grind
    · exact ⟨t, _, 1, .ref u, rfl, rfl, ht, atI_nat (j := 1) rfl, k H2 u (e1.trans e2) fu⟩
/-! ## changes -/
def spChanges (K : PySem.W.Frag) : Sp := fun vs H Q _ => ∃ (a : Addr) (p : List Rat), vs = [.ref a] ∧ Po K H a p ∧ p.length ≤ 1000 ∧ ∀ H', Same H H' → Q (.int (Bd.chz (p.map (·.num)) : Nat)) H'
theorem ok_changes {x : Str} (F : Has K mg x s_changes ["p"]) (T : Txt P K mg base) : Prom P w K mg base 1 x ["p"] (spChanges K) := by
  refine F.prom sc_changes (fun vs H Q E h => ?_) (fun f cdv A outer s H vs Q E hr h => ?_)
  · obtain ⟨a, p, rfl, _⟩ := h; rfl
  · obtain ⟨a, p, rfl, ⟨as, ha, hp⟩, lp, k⟩ := h
    obtain ⟨z, mz, fz⟩ := T.zero
    have las := paired_len hp
    refine ⟨_, pss_cons (ps_setLc (i := 1) (own := [("part", 2)]) (g := gName 2) (tt := tTest (tOp (rNeD K) (tVar 2) (tC (.ref z)))) (te := tOp (rIxT K) (tVar 2) (tC (.int 0))) rfl sc_changes.nd rfl rfl (sw_true rfl rfl rfl rfl) (pi_tup (pv 0)) (blkOk_by (N := ["p", "some", "part", "one", "other"]) (sc := defScope s_changes) (by decide +kernel))
        (fun _ _ _ _ _ => pg_name (i := 2) sc_changes.nd rfl (Or.inl rfl)) (fun _ _ _ _ _ => pts_one (pt_cmpR (op_neD hr.units) (pv 2) (pe_glob (v := .ref z) rfl mz rfl) (nomark _))) (fun _ _ _ _ _ => pT0 (pv 2)))
      (pss_one (ps_ret (pe_callB call_len_seq (by rfl) T.len boot_len (pa_cons (pe_lc (own := [("one", 3), ("other", 4)]) (g := gTup K 2 (gCons (gName 3) (gCons (gName 4) gNil)))
        (tt := tTest (tOp rNe (tOp (rI0 fun i j => .bl (decide (i < j))) (tVar 3) (tC (.int 0))) (tOp (rI0 fun i j => .bl (decide (i < j))) (tVar 4) (tC (.int 0))))) (te := tVar 3) rfl sc_changes.nd (pi_zipS (by rfl) T.zip (pa_cons (pv 1) (pa_cons (pe_slice sl_list (pv 1) (po_some pe_int) po_none) pa_nil))) (blkOk_by (N := ["p", "some", "part", "one", "other"]) (sc := defScope s_changes) (by decide +kernel))
        (fun _ _ _ _ _ => pg_tup rfl (pgs_cons (pg_name (i := 3) sc_changes.nd rfl (Or.inl rfl)) (pgs_cons (pg_name (i := 4) sc_changes.nd rfl (Or.inl rfl)) pgs_nil))) (fun _ _ _ _ _ => pts_one (pt_cmpR op_ne (pe_cmpR op_lt (pv 3) pe_int (nomark _)) (pe_cmpR op_lt (pv 4) pe_int (nomark _)) (nomark _))) (fun _ _ _ _ _ => pv 3)) pa_nil)))), ?_⟩
    refine ⟨_, rfl, a, rfl, ⟨_, ha⟩, fun D2 n2 => ?_⟩
    have nz0 : ∀ i, decide (p.getD i 0 ≠ 0) = decide ((p.map (·.num)).getD i 0 ≠ 0) := fun i => by
      have e : (p.map (·.num)).getD i 0 = (p.getD i 0).num := by
        simp only [List.getD_eq_getElem?_getD, List.getElem?_map]
        cases p[i]? <;> rfl
      rw [e]
      exact decide_eq_decide.mpr ⟨fun h z => h (Rat.num_eq_zero.mp z), fun h z => h (Rat.num_eq_zero.mpr z)⟩
    refine lc_gen (walk_tup (K := K) (a := a) (xs := as.map V.ref)) (fun i => decide ((p.map (·.num)).getD i 0 ≠ 0)) (fun i v H => v = .int ((p.map (·.num)).getD i 0)) int_rel n2 (by rw [List.length_map]; omega) (fun H2 e => Same.tup e ha) ?_ g_mono (fun σ H Q Q' hh q => ?_) ?_
    · rintro i v H2 H3 hi e ⟨rfl, ev⟩ Q1 Qn hq hn
      rw [List.length_map] at hi
      obtain ⟨y, h1, h2, h3⟩ := frs_get hp (i := i) (by omega)
      obtain rfl : v = .ref y := Option.some.inj (ev.symm.trans h2)
      have h3 := h3.mono e
      refine ⟨rfl, ?_⟩
      refine ⟨_, rfl, _, _, fr_dp h3, fr_dp (fz _), rfl, rfl, _, rfl, ?_⟩
      rw [fr_eqv]
      have e0 : (p.map (·.num)).getD i 0 = (p.getD i 0).num := by
        simp only [List.getD_eq_getElem?_getD, List.getElem?_map]
        cases p[i]? <;> rfl
      by_cases z0 : p.getD i 0 = 0
      · refine iteNS z0 ⟨?_, hn _ (Same.refl _)⟩
        rw [e0, z0]
        rfl
      · rw [decide_eq_false z0]
        refine iteT ⟨?_, fr_num (by rfl) h3 (hq _ _ (Same.refl _) (by rw [e0]))⟩
        rw [← nz0]
        exact decide_eq_true z0
    · obtain ⟨v, h1, d1, d2, h2, h3, h4, h5, c, h6, h7⟩ := q
      exact ⟨v, h1, d1, d2, h2, h3, h4, h5, c, h6, hh _ _ h7⟩
    intro H2 bs e2 hD2 pr
    rw [List.length_map, las, show p.length = (p.map (·.num)).length by rw [List.length_map]] at pr
    rw [ints_pr pr] at hD2
    generalize hzs : p.map (·.num) = zs at hD2 k
    have lz : zs.length ≤ 1000 := by rw [← hzs, List.length_map]; exact lp
    have ez : (List.filter (fun i => decide (zs.getD i 0 ≠ 0)) (List.range zs.length)).map (fun i => zs.getD i 0) = zs.filter fun n => decide (n ≠ 0) := by
      have e1 : (List.range zs.length).map (fun i => zs.getD i 0) = zs := by
        have := range_map 0 zs id
        rw [List.map_id] at this
        exact this
      have e2 := List.filter_map (p := fun n : Int => decide (n ≠ 0)) (f := fun i => zs.getD i 0) (l := List.range zs.length)
      rw [e1] at e2
      exact e2.symm
    rw [ez] at hD2
    generalize hnz : zs.filter (fun n => decide (n ≠ 0)) = nz at hD2
    have ln : nz.length ≤ 1000 := by
      rw [← hnz]
      exact Nat.le_trans (List.length_filter_le _ _) lz
    have s2 : SqL K H2 D2 (nz.map V.int) := SqL.new hD2
    refine ⟨_, rfl, _, rfl, _, rfl, D2, _, rfl, s2, fun D3 n3 => ?_⟩
    rw [cut_drop, ← List.map_drop]
    have e3 : Same H2 (upd H2 D3 (.lst ((nz.drop 1).map V.int))) := Same.new n3
    have s3 : SqL K (upd H2 D3 (.lst ((nz.drop 1).map V.int))) D3 ((nz.drop 1).map V.int) := SqL.new upd_same
    have s2' := Same.seq e3 s2
    have e03 := e2.trans e3
    generalize upd H2 D3 (.lst ((nz.drop 1).map V.int)) = H3 at e3 s3 s2' e03 ⊢
    refine ⟨D2, D3, _, _, rfl, s2', s3, fun D4 n4 => ?_⟩
    have lm : nz.length - 1 = min (nz.map V.int).length ((nz.drop 1).map V.int).length := by
      rw [List.length_map, List.length_map, List.length_drop]; omega
    refine lc_gen (walk_zip (K := K) (a := D2) (b := D3) (xs := nz.map V.int) (ys := (nz.drop 1).map V.int) lm) (fun i => decide (nz.getD i 0 < 0) != decide (nz.getD (i + 1) 0 < 0)) (fun i v H => True) (fun _ _ _ _ _ h => h) n4 (by omega) (fun H2 e => ⟨Same.seq e s2', Same.seq e s3⟩) ?_ g2_mono (fun σ H Q Q' hh q => ?_) ?_
    · rintro i v H4 H5 hi e ⟨t, x1, x2, rfl, nt, rfl, ev1, ev2⟩ Q1 Qn hq hn
      obtain rfl := Option.some.inj ((z_get nz (by omega)).symm.trans ev1)
      have g2 : (nz.drop 1).getD i 0 = nz.getD (i + 1) 0 := by
        rw [List.getD_eq_getElem?_getD, List.getElem?_drop, ← List.getD_eq_getElem?_getD, Nat.add_comm 1 i]
      obtain rfl := Option.some.inj ((z_get (nz.drop 1) (by rw [List.length_drop]; omega)).symm.trans ev2)
      rw [g2]
      have st : Same H4 (upd H4 t (.tup [.int (nz.getD i 0), .int (nz.getD (i + 1) 0)])) := Same.new nt
      refine ⟨t, _, rfl, SqT.new upd_same, rfl, _, _, rfl, _, _, rfl, rfl, rfl, ?_⟩
      refine ⟨_, rfl, _, _, rfl, rfl, _, rfl, _, _, rfl, rfl, rfl, _, rfl, ?_⟩
      have eb : ∀ p q : Bool, (!decide (V.bl p = V.bl q)) = (p != q) := fun p q => by cases p <;> cases q <;> decide
      rw [eb]
      refine ite_and (fun z => ⟨z, _, rfl, hq _ _ st trivial⟩) (fun z => ⟨z, hn _ st⟩)
    · obtain ⟨v, h1, i, j, h2, h3, v2, h4, i2, j2, h5, h6, h7, c, h8, h9⟩ := q
      exact ⟨v, h1, i, j, h2, h3, v2, h4, i2, j2, h5, h6, h7, c, h8, hh _ _ h9⟩
    intro H4 bs e4 hD4 pr
    have lb := paired_len pr
    refine ⟨D4, _, rfl, .inl (SqL.new hD4), ?_⟩
    rw [← lb, Bd.adj_range (fun a b => decide (a < 0) != decide (b < 0)) 0 nz]
    have : Bd.adj (fun a b => decide (a < 0) != decide (b < 0)) nz = Bd.chz zs := by rw [← hnz]; rfl
    rw [this]
    exact k _ (e03.trans e4)
end
end Bw

namespace Bw
open PySem PySem.Spec PyProof.Rows L2 Bz RT
theorem pss_dead {X : Cx} {l : List Stmt} : PSs X l (fun _ _ _ => False) := ⟨fun _ _ _ _ _ _ h => h.elim⟩
/-! ## the pen: one list that is written, all else as it was -/
def SameX (q : Addr) (H H' : Hp) : Prop := (∀ a u, a ≠ q → H a = some u → H' a = some u) ∧ ∀ c v w, H q = some (.lst [.ref c, v, w]) → ∃ v' w', H' q = some (.lst [.ref c, v', w'])
section
variable {K : PySem.W.Frag} {q : Addr} {H H' H1 H2 : Hp}
theorem SameX.refl : SameX q H H := ⟨fun _ _ _ h => h, fun _ v w h => ⟨v, w, h⟩⟩
theorem SameX.trans (a : SameX q H H1) (b : SameX q H1 H2) : SameX q H H2 := ⟨fun x u n h => b.1 x u n (a.1 x u n h), fun c v w h => let ⟨v', w', h'⟩ := a.2 c v w h; b.2 c v' w' h'⟩
theorem SameX.of (e : Same H H') : SameX q H H' := ⟨fun a u _ h => e a u h, fun c v w h => ⟨v, w, e _ _ h⟩⟩
theorem SameX.upd {c : Addr} {v w v' w' : V} (h : H q = some (.lst [.ref c, v, w])) : SameX q H (upd H q (.lst [.ref c, v', w'])) :=
  ⟨fun a u n h => by rw [upd_ne n]; exact h, fun d x y k => by
    rw [h] at k
    cases k
    exact ⟨_, _, upd_same⟩⟩
theorem SameX.tups {l : List V} (e : SameX q H H') (h : H q = some (.lst l)) : TupS H H' :=
  ⟨fun a xs k => e.1 a _ (fun z => by rw [z, h] at k; cases k) k, fun a o u k => e.1 a _ (fun z => by rw [z, h] at k; cases k) k⟩
theorem SameX.sql {a : Addr} {xs : List V} (e : SameX q H H') (n : a ≠ q) (h : SqL K H a xs) : SqL K H' a xs := by
  rcases h with (h | ⟨o, h⟩) | h
  · exact .inl (.inl (e.1 _ _ n h))
  · exact .inl (.inr ⟨o, e.1 _ _ n h⟩)
  · exact .inr h
def Pen (H : Hp) (p : Addr) (n : Nat) : Prop := ∃ (c : Addr) (cs : List Int) (t : Nat) (x : Int), H p = some (.lst [.ref c, .int (t : Nat), .int x]) ∧ c ≠ p ∧ H c = some (.lst (cs.map V.int)) ∧ t ≤ n
theorem Pen.upd {n m : Nat} {D : Addr} {o : HO} (h1 : Pen H1 q m) (e : SameX q H1 H) (h : Pen H q n) (hD : H1 D = none) : Pen (upd H D o) q n := by
  obtain ⟨c1, cs1, t1, x1, a1, b1, d1, _⟩ := h1
  obtain ⟨c, cs, t, x, a, b, d, f⟩ := h
  obtain ⟨v', w', k⟩ := e.2 _ _ _ a1
  rw [a] at k
  cases k
  have n1 : q ≠ D := fun z => by rw [z, hD] at a1; cases a1
  have n2 : c1 ≠ D := fun z => by rw [z, hD] at d1; cases d1
  exact ⟨c1, cs, t, x, by rw [upd_ne n1]; exact a, b, by rw [upd_ne n2]; exact d, f⟩
theorem Pen.mono {n : Nat} (h : Pen H q n) (e : Same H H') : Pen H' q n := let ⟨c, cs, t, x, a, b, d, f⟩ := h; ⟨c, cs, t, x, e _ _ a, b, e _ _ d, f⟩
theorem Pen.le {m n : Nat} (h : Pen H q m) (l : m ≤ n) : Pen H q n := let ⟨c, cs, t, x, a, b, d, f⟩ := h; ⟨c, cs, t, x, a, b, d, Nat.le_trans f l⟩
theorem Pen.lst {n : Nat} (h : Pen H q n) : ∃ l, H q = some (.lst l) := let ⟨c, cs, t, x, a, _⟩ := h; ⟨_, a⟩
theorem Pen.ne {n : Nat} {a : Addr} (h : Pen H q n) (k : H a = none) : a ≠ q := fun z => by
  obtain ⟨l, hl⟩ := h.lst
  rw [z, hl] at k
  cases k
end
section
variable {P : Program} {w : World} {K : PySem.W.Frag} {mg : Str → Option Value} {base : Heap}
def spLGcd : Sp := spDivisor
theorem ok_law_gcd {x : Str} (F : Has K mg x s_law_gcd ["_law_a", "_law_b"]) (T : Txt P K mg base) : Prom P w K mg base 1 x ["_law_a", "_law_b"] spDivisor := by
  refine F.prom sc_law_gcd (fun vs H Q E h => ?_) (fun f cdv A outer s H vs Q E hr h => ?_)
  · obtain ⟨a, b, rfl, _⟩ := h; rfl
  · obtain ⟨a, b, rfl, q⟩ := h
    refine ⟨_, pss_cons (ps_while PassesOwn.never (pt_cmpR op_ne (pv 1) pe_int (nomark _))
        (pss_one (ps_par (i := 0) (j := 1) (by rfl) sc_law_gcd.nd rfl rfl (by decide) rfl rfl (pa_cons (pv 1) (pa_cons (pe_op op_modN (pv 0) (pv 1)) pa_nil)) (by rfl))))
      (pss_one (ps_ret (pe_callB call_abs (by rfl) T.abs boot_abs (pa_cons (pv 0) pa_nil)))), ?_⟩
    refine ⟨fun m σ H' => ∃ x y : Int, σ = [some (.int x), some (.int y)] ∧ H' = H ∧ m = y.natAbs ∧ Int.gcd x y = Int.gcd a b, ⟨_, a, b, rfl, rfl, rfl, rfl⟩, ?_⟩
    rintro m σ H' ⟨x, y, rfl, rfl, rfl, eg⟩
    refine ⟨_, rfl, rfl, _, rfl, ?_⟩
    by_cases hy : y = 0
    · subst hy
      refine iteNS rfl ?_
      refine ⟨_, rfl, x, rfl, ?_⟩
      have e : (if x < 0 then -x else x) = ((Int.gcd a b : Nat) : Int) := by
        rw [← eg, Int.gcd_zero_right]
        split <;> omega
      rw [e]
      exact q
    · have e : decide (V.int y = V.int 0) = false := decide_eq_false fun z => hy (V.int.inj z)
      rw [e]
      refine ⟨_, fun _ _ h => h, ?_⟩
      refine ⟨_, rfl, _, rfl, _, rfl, x, y, rfl, rfl, hy, _, _, rfl, ?_⟩
      exact ⟨_, fmod_small x hy, y, x.fmod y, rfl, rfl, rfl, by rw [gcd_turn, eg]⟩
def spLFraction (K : PySem.W.Frag) : Sp := fun vs H Q _ => ∃ t b : Int, vs = [.int t, .int b] ∧ 0 < b ∧ ∀ H' p, Same H H' → Fr K H' p (Rat.divInt t b) → Q (.ref p) H'
theorem ok_law_fraction {x : Str} (F : Has K mg x s_law_fraction ["_law_top", "_law_bottom"]) (T : Txt P K mg base) (cD : Prom P w K mg base 1 "_law_gcd" ["_law_a", "_law_b"] spDivisor) : Prom P w K mg base 40 x ["_law_top", "_law_bottom"] (spLFraction K) := by
  refine F.prom sc_law_fraction (fun vs H Q E h => ?_) (fun f cdv A outer s H vs Q E hr h => ?_)
  · obtain ⟨t, b, rfl, _⟩ := h; rfl
  · obtain ⟨t, b, rfl, hb, q⟩ := h
    have S := seer_of (w := w) (s := s) (H := H) (outer := outer) (E := E) (cdv := cdv) T sc_law_fraction hr (by decide)
    refine ⟨_, pss_cons (ps_set (i := 2) sc_law_fraction.nd rfl (.inl rfl) (pe_op op_mul (pe_ca cD (hr.mono (by decide)) (pa_cons (pv 0) (pa_cons (pv 1) pa_nil))) (pe_ifExp (pt_cmpR op_gt (pv 1) pe_int (nomark _)) pe_int (pe_un un_neg pe_int))))
      (pss_one (ps_ret (pe_tup (pa_cons (pe_op (op_fdivP S) (pv 0) (pv 2)) (pa_cons (pe_op (op_fdivP S) (pv 1) (pv 2)) pa_nil))))), ?_⟩
    have g0 : Int.gcd t b ≠ 0 := fun z => by
      have := (Int.gcd_eq_zero_iff.mp z).2
      omega
    refine ⟨_, rfl, _, rfl, t, b, rfl, ?_⟩
    refine ⟨_, rfl, _, _, rfl, rfl, _, rfl, ?_⟩
    rw [decide_eq_true hb]
    refine iteT ⟨_, _, rfl, rfl, .inr (by decide), ?_⟩
    dsimp only
    rw [Int.mul_one]
    refine ⟨_, rfl, _, rfl, _, _, rfl, rfl, by omega, _, rfl, _, rfl, _, _, rfl, rfl, by omega, by show 2 ≤ sizeLine; decide, fun p hp => ?_⟩
    refine q _ p (Same.new hp) ?_
    dsimp only
    rw [(frac_pos (t := t) hb).1, (frac_pos (t := t) hb).2]
    exact SqT.new upd_same
abbrev spLPlus (K : PySem.W.Frag) := spF2 K (fun _ _ => True) (· + ·)
theorem ok_law_plus {x : Str} (F : Has K mg x s_law_plus ["_law_a", "_law_b"]) (cF : Prom P w K mg base 40 "_law_fraction" ["_law_top", "_law_bottom"] (spLFraction K)) : Prom P w K mg base 41 x ["_law_a", "_law_b"] (spPlus K) := by
  refine F.prom sc_law_plus (fun vs H Q E h => ?_) (fun f cdv A outer s H vs Q E hr h => ?_)
  · obtain ⟨a, b, r, s, rfl, _⟩ := h; rfl
  · obtain ⟨a, b, r, s, rfl, ha, hb, la, lb, hc, q⟩ := h
    refine ⟨_, pss_one (ps_ret (pe_ca cF hr (pa_cons (pe_op op_add (pe_op op_mulX (pT0 (pv 0)) (pT1 (pv 1))) (pe_op op_mulX (pT0 (pv 1)) (pT1 (pv 0)))) (pa_cons (pe_op op_mulX (pT1 (pv 0)) (pT1 (pv 1))) pa_nil)))), ?_⟩
    refine fr_num (by rfl) ha (fr_den (by rfl) hb ⟨_, _, rfl, rfl, low_mul la.1 lb.2, ?_⟩)
    refine fr_num (by rfl) hb (fr_den (by rfl) ha ⟨_, _, rfl, rfl, low_mul lb.1 la.2, _, _, rfl, rfl, ?_⟩)
    refine fr_den (by rfl) ha (fr_den (by rfl) hb ⟨_, _, rfl, rfl, low_mul la.2 lb.2, _, _, rfl, ?_, fun H' p e hp => ?_⟩)
    · exact Int.mul_pos (den_pos' r) (den_pos' s)
    · rw [rat_add] at hp
      exact q H' p e hp
theorem ok_law_minus {x : Str} (F : Has K mg x s_law_minus ["_law_a", "_law_b"]) (cF : Prom P w K mg base 40 "_law_fraction" ["_law_top", "_law_bottom"] (spLFraction K)) : Prom P w K mg base 41 x ["_law_a", "_law_b"] (spMinus K) := by
  refine F.prom sc_law_minus (fun vs H Q E h => ?_) (fun f cdv A outer s H vs Q E hr h => ?_)
  · obtain ⟨a, b, r, s, rfl, _⟩ := h; rfl
  · obtain ⟨a, b, r, s, rfl, ha, hb, la, lb, hc, q⟩ := h
    refine ⟨_, pss_one (ps_ret (pe_ca cF hr (pa_cons (pe_op op_sub (pe_op op_mulX (pT0 (pv 0)) (pT1 (pv 1))) (pe_op op_mulX (pT0 (pv 1)) (pT1 (pv 0)))) (pa_cons (pe_op op_mulX (pT1 (pv 0)) (pT1 (pv 1))) pa_nil)))), ?_⟩
    refine fr_num (by rfl) ha (fr_den (by rfl) hb ⟨_, _, rfl, rfl, low_mul la.1 lb.2, ?_⟩)
    refine fr_num (by rfl) hb (fr_den (by rfl) ha ⟨_, _, rfl, rfl, low_mul lb.1 la.2, _, _, rfl, rfl, ?_⟩)
    refine fr_den (by rfl) ha (fr_den (by rfl) hb ⟨_, _, rfl, rfl, low_mul la.2 lb.2, _, _, rfl, ?_, fun H' p e hp => ?_⟩)
    · exact Int.mul_pos (den_pos' r) (den_pos' s)
    · rw [rat_sub] at hp
      exact q H' p e hp
theorem ok_law_times {x : Str} (F : Has K mg x s_law_times ["_law_a", "_law_b"]) (cF : Prom P w K mg base 40 "_law_fraction" ["_law_top", "_law_bottom"] (spLFraction K)) : Prom P w K mg base 41 x ["_law_a", "_law_b"] (spTimes K) := by
  refine F.prom sc_law_times (fun vs H Q E h => ?_) (fun f cdv A outer s H vs Q E hr h => ?_)
  · obtain ⟨a, b, r, s, rfl, _⟩ := h; rfl
  · obtain ⟨a, b, r, s, rfl, ha, hb, la, lb, hc, q⟩ := h
    refine ⟨_, pss_one (ps_ret (pe_ca cF hr (pa_cons (pe_op op_mulX (pT0 (pv 0)) (pT0 (pv 1))) (pa_cons (pe_op op_mulX (pT1 (pv 0)) (pT1 (pv 1))) pa_nil)))), ?_⟩
    refine fr_num (by rfl) ha (fr_num (by rfl) hb ⟨_, _, rfl, rfl, low_mul la.1 lb.1, ?_⟩)
    refine fr_den (by rfl) ha (fr_den (by rfl) hb ⟨_, _, rfl, rfl, low_mul la.2 lb.2, _, _, rfl, ?_, fun H' p e hp => ?_⟩)
    · exact Int.mul_pos (den_pos' r) (den_pos' s)
    · rw [rat_mul] at hp
      exact q H' p e hp
abbrev spLOver (K : PySem.W.Frag) := spF2 K (fun _ s => 0 < s.num) (· / ·)
theorem ok_law_over {x : Str} (F : Has K mg x s_law_over ["_law_a", "_law_b"]) (cF : Prom P w K mg base 40 "_law_fraction" ["_law_top", "_law_bottom"] (spLFraction K)) : Prom P w K mg base 41 x ["_law_a", "_law_b"] (spLOver K) := by
  refine F.prom sc_law_over (fun vs H Q E h => ?_) (fun f cdv A outer s H vs Q E hr h => ?_)
  · obtain ⟨a, b, r, s, rfl, _⟩ := h; rfl
  · obtain ⟨a, b, r, s, rfl, ha, hb, la, lb, hc, q⟩ := h
    refine ⟨_, pss_one (ps_ret (pe_ca cF hr (pa_cons (pe_op op_mulX (pT0 (pv 0)) (pT1 (pv 1))) (pa_cons (pe_op op_mulX (pT1 (pv 0)) (pT0 (pv 1))) pa_nil)))), ?_⟩
    refine fr_num (by rfl) ha (fr_den (by rfl) hb ⟨_, _, rfl, rfl, low_mul la.1 lb.2, ?_⟩)
    refine fr_den (by rfl) ha (fr_num (by rfl) hb ⟨_, _, rfl, rfl, low_mul la.2 lb.1, _, _, rfl, ?_, fun H' p e hp => ?_⟩)
    · exact Int.mul_pos (den_pos' r) hc
    · rw [rat_div] at hp
      exact q H' p e hp
theorem ok_law_is_less {x : Str} (F : Has K mg x s_law_is_less ["_law_a", "_law_b"]) : Prom P w K mg base 1 x ["_law_a", "_law_b"] (spIsLess K) := by
  refine F.prom sc_law_is_less (fun vs H Q E h => ?_) (fun f cdv A outer s H vs Q E hr h => ?_)
  · obtain ⟨a, b, r, s, rfl, _⟩ := h; rfl
  · obtain ⟨a, b, r, s, rfl, ha, hb, la, lb, q⟩ := h
    refine ⟨_, pss_one (ps_ret (pe_cmpR op_lt (pe_op op_mulX (pT0 (pv 0)) (pT1 (pv 1))) (pe_op op_mulX (pT0 (pv 1)) (pT1 (pv 0))) (nomark _))), ?_⟩
    refine fr_num (by rfl) ha (fr_den (by rfl) hb ⟨_, _, rfl, rfl, low_mul la.1 lb.2, ?_⟩)
    refine fr_num (by rfl) hb (fr_den (by rfl) ha ⟨_, _, rfl, rfl, low_mul lb.1 la.2, _, _, rfl, rfl, ?_⟩)
    have e : decide (r.num * (s.den : Nat) < s.num * (r.den : Nat)) = decide (r < s) := decide_eq_decide.mpr (Rat.lt_iff r s).symm
    show Q (.bl (decide (r.num * (s.den : Nat) < s.num * (r.den : Nat)))) H
    rw [e]
    exact q
/-! ### the numbers of the script, stirred -/
def spSpread : Sp := fun vs H Q _ => ∃ (c : Int) (t : Nat), vs = [.int c, .int (t : Nat)] ∧ t ≤ 1000000 ∧ ∀ H' i, Same H H' → Q (.int i) H'
theorem fm_bd {i j : Int} (h : 0 < j) : 0 ≤ i.fmod j ∧ i.fmod j < j := ⟨Int.fmod_nonneg_of_pos i h, Int.fmod_lt_of_pos i h⟩
def primesA : List Int := [2147483629, 2147483587, 2147483579, 2147483563, 2147483549, 2147483543, 2147483497, 2147483489]
def primesB : List Int := [2147483477, 2147483423, 2147483399, 2147483353, 2147483323]
theorem prime_ok : ∀ i : Fin 13, 2147483300 < (primesA ++ primesB).getD i.val 0 ∧ (primesA ++ primesB).getD i.val 0 < 2147483648 := by decide
theorem prime_at (n : Int) : ∃ z : Int, atI ((primesA ++ primesB).map V.int) (n.fmod 13) = some (.int z) ∧ 0 < z ∧ z < 2147483648 := by
  obtain ⟨h1, h2⟩ := fm_bd (i := n) (j := 13) (by decide)
  obtain ⟨k, hk⟩ : ∃ k : Nat, n.fmod 13 = (k : Nat) := ⟨(n.fmod 13).toNat, by omega⟩
  rw [hk] at h2 ⊢
  have hk2 : k < 13 := by omega
  have := prime_ok ⟨k, hk2⟩
  dsimp only at this
  exact ⟨_, atI_nat (z_get _ hk2), by omega, this.2⟩
theorem pow_low {x : Int} (h : x.natAbs < 2 ^ 64) (j : Nat) (hj : j ≤ 1000000) : CPow x (j : Int) := ⟨by omega, by omega, h⟩
end
end Bw

namespace Bw
open PySem PySem.Spec PyProof.Rows L2 Bz RT
def Nb (A : Nat) (x : Int) : Prop := x.natAbs ≤ A
theorem Nb.mul {A B : Nat} {x y : Int} (h : Nb A x) (k : Nb B y) : Nb (A * B) (x * y) := by
  unfold Nb
  rw [Int.natAbs_mul]
  exact Nat.mul_le_mul h k
theorem Nb.add {A B : Nat} {x y : Int} (h : Nb A x) (k : Nb B y) : Nb (A + B) (x + y) := Nat.le_trans (Int.natAbs_add_le x y) (Nat.add_le_add h k)
theorem Nb.le {A B : Nat} {x : Int} (h : Nb A x) (k : A ≤ B) : Nb B x := Nat.le_trans h k
theorem Nb.lit (n : Nat) : Nb n (n : Int) := Nat.le_of_eq (Int.natAbs_natCast n)
theorem Nb.fm {x j : Int} (h : 0 < j) : Nb j.natAbs (x.fmod j) := by
  obtain ⟨h1, h2⟩ := fm_bd (i := x) h
  unfold Nb
  omega
theorem Nb.low {A : Nat} {x : Int} (h : Nb A x) (k : A < 2 ^ 200) : Low x := low_int (B := 200) (Nat.lt_of_le_of_lt h k) (by decide)
theorem Nb.pow {A : Nat} {x : Int} (h : Nb A x) (k : A < 2 ^ 64) (j : Nat) (hj : j ≤ 1000000) : CPow x (j : Int) := pow_low (Nat.lt_of_le_of_lt h k) j hj
section
variable {P : Program} {w : World} {K : PySem.W.Frag} {mg : Str → Option Value} {base : Heap}
theorem ok_law_spread {x : Str} (F : Has K mg x s_law_spread ["_law_cell", "_law_at"]) : Prom P w K mg base 1 x ["_law_cell", "_law_at"] spSpread := by
  refine F.prom sc_law_spread (fun vs H Q E h => ?_) (fun f cdv A outer s H vs Q E hr h => ?_)
  · obtain ⟨c, t, rfl, _⟩ := h; rfl
  · obtain ⟨c, t, rfl, ht, k⟩ := h
    have eight : ∀ {X : Cx}, True := trivial
    refine ⟨_, pss_cons (ps_if (pt_cmpR op_ge (pv 0) (pe_op op_pow pe_int pe_int) (nomark _)) (pss_one (ps_ret (pv 0))) pss_nil)
      <| pss_cons (ps_set (i := 2) sc_law_spread.nd rfl (.inl rfl) (pe_lst (pa_cons pe_int (pa_cons pe_int (pa_cons pe_int (pa_cons pe_int (pa_cons pe_int (pa_cons pe_int (pa_cons pe_int (pa_cons pe_int pa_nil))))))))))
      <| pss_cons (ps_set (i := 2) sc_law_spread.nd rfl (.inl rfl) (pe_op op_cat (pv 2) (pe_lst (pa_cons pe_int (pa_cons pe_int (pa_cons pe_int (pa_cons pe_int (pa_cons pe_int pa_nil))))))))
      <| pss_cons (ps_set (i := 3) sc_law_spread.nd rfl (.inl rfl) (pe_op op_modN (pe_op op_pow (pe_op op_add (pe_op op_add (pe_op op_mulX (pe_op op_modN (pv 0) pe_int) (pe_op op_add (pe_op op_mulX pe_int (pv 1)) pe_int)) (pe_op op_mulX (pv 1) pe_int)) pe_int) pe_int) (pe_ix ix_list (pv 2) (pe_op op_modN (pv 1) pe_int) (fun _ _ => rfl))))
      <| pss_cons (ps_set (i := 4) sc_law_spread.nd rfl (.inl rfl) (pe_op op_modN (pe_op op_pow (pe_op op_add (pe_op op_add (pe_op op_mulX (pv 3) (pe_op op_add (pv 1) pe_int)) (pe_op op_modN (pv 0) pe_int)) pe_int) pe_int) (pe_ix ix_list (pv 2) (pe_op op_modN (pe_op op_add (pv 1) pe_int) pe_int) (fun _ _ => rfl))))
      <| pss_cons (ps_set (i := 5) sc_law_spread.nd rfl (.inl rfl) (pe_op op_modN (pe_op op_pow (pe_op op_add (pe_op op_add (pv 4) (pe_op op_modN (pv 3) pe_int)) (pv 1)) pe_int) (pe_ix ix_list (pv 2) (pe_op op_modN (pe_op op_add (pv 1) pe_int) pe_int) (fun _ _ => rfl))))
      <| pss_one (ps_ret (pe_op op_add (pe_op op_mulX (pe_op op_add (pe_op op_mulX (pv 3) pe_int) (pv 4)) pe_int) (pv 5))), ?_⟩
    have nt : Nb 1000000 (t : Int) := (Nb.lit t).le ht
    refine ⟨_, rfl, _, _, rfl, rfl, ⟨by decide, by decide, by decide⟩, _, _, rfl, rfl, _, rfl, ?_⟩
    refine ite_and (fun _ => ⟨_, rfl, k H c (Same.refl _)⟩) (fun _ => ?_)
    refine ⟨by show 8 ≤ sizeLine; decide, fun l1 n1 => ?_⟩
    have e1 : Same H (upd H l1 (.lst (primesA.map V.int))) := Same.new n1
    have hl1 : (upd H l1 (.lst (primesA.map V.int))) l1 = some (.lst (primesA.map V.int)) := upd_same
    refine ⟨_, rfl, by show 5 ≤ sizeLine; decide, fun l2 n2 => ?_⟩
    have e2 : Same (upd H l1 (.lst (primesA.map V.int))) (upd (upd H l1 (.lst (primesA.map V.int))) l2 (.lst (primesB.map V.int))) := Same.new n2
    refine ⟨l1, l2, _, _, rfl, rfl, e2 _ _ hl1, upd_same, by show 8 + 5 ≤ sizeLine; decide, fun l3 n3 => ?_⟩
    have e3 := e1.trans (e2.trans (Same.new (o := .lst (primesA.map V.int ++ primesB.map V.int)) n3))
    have s3 : SqL K (upd (upd (upd H l1 (.lst (primesA.map V.int))) l2 (.lst (primesB.map V.int))) l3 (.lst (primesA.map V.int ++ primesB.map V.int))) l3 ((primesA ++ primesB).map V.int) := by
      rw [List.map_append]
      exact SqL.new upd_same
    -- one
    obtain ⟨z1, a1, p1, q1⟩ := prime_at (t : Int)
    have u1 : Nb 1000000007 (c.fmod 1000000007) := Nb.fm (by decide)
    have v1 : Nb (2 * 1000000 + 69069) (2 * (t : Int) + 69069) := ((Nb.lit 2).mul nt).add (Nb.lit 69069)
    have w1 : Nb (1000000 * 40503) ((t : Int) * 40503) := nt.mul (Nb.lit 40503)
    have x1 := ((u1.mul v1).add w1).add (Nb.lit 977)
    refine ⟨_, rfl, _, _, rfl, rfl, (by intro z; exact absurd z (by decide)), _, rfl, _, _, rfl, rfl, low_mul ((Nb.lit 2).low (by decide)) (nt.low (by decide)), _, _, rfl, rfl, _, _, rfl, rfl, low_mul (u1.low (by decide)) (v1.low (by decide)), ?_⟩
    refine ⟨_, rfl, _, _, rfl, rfl, low_mul (nt.low (by decide)) ((Nb.lit 40503).low (by decide)), _, _, rfl, rfl, _, _, rfl, rfl, _, _, rfl, rfl, x1.pow (by decide) 3 (by decide), ?_⟩
    refine ⟨_, rfl, _, rfl, _, _, rfl, rfl, (by intro z; exact absurd z (by decide)), l3, _, _, _, rfl, rfl, s3, a1, _, _, rfl, rfl, by omega, ?_⟩
    dsimp only
    generalize hone : Int.fmod _ z1 = one
    have none1 : Nb 2147483648 one := by rw [← hone]; exact (Nb.fm p1).le (by omega)
    -- two
    obtain ⟨z2, a2, p2, q2⟩ := prime_at ((t : Int) + 5)
    have v2 : Nb (1000000 + 3) ((t : Int) + 3) := nt.add (Nb.lit 3)
    have w2 : Nb 65537 (c.fmod 65537) := Nb.fm (by decide)
    have x2 := ((none1.mul v2).add w2).add (Nb.lit 5)
    refine ⟨_, rfl, _, rfl, _, _, rfl, rfl, _, _, rfl, rfl, low_mul (none1.low (by decide)) (v2.low (by decide)), _, rfl, _, _, rfl, rfl, (by intro z; exact absurd z (by decide)), _, _, rfl, rfl, _, _, rfl, rfl, _, _, rfl, rfl, x2.pow (by decide) 5 (by decide), ?_⟩
    refine ⟨_, rfl, _, rfl, _, _, rfl, rfl, _, _, rfl, rfl, (by intro z; exact absurd z (by decide)), l3, _, _, _, rfl, rfl, s3, a2, _, _, rfl, rfl, by omega, ?_⟩
    dsimp only
    generalize htwo : Int.fmod _ z2 = two
    have ntwo : Nb 2147483648 two := by rw [← htwo]; exact (Nb.fm p2).le (by omega)
    -- three
    obtain ⟨z3, a3, p3, q3⟩ := prime_at ((t : Int) + 7)
    have w3 : Nb 1009 (one.fmod 1009) := Nb.fm (by decide)
    have x3 := (ntwo.add w3).add nt
    refine ⟨_, rfl, _, rfl, _, _, rfl, rfl, (by intro z; exact absurd z (by decide)), _, _, rfl, rfl, _, rfl, _, _, rfl, rfl, _, _, rfl, rfl, x3.pow (by decide) 3 (by decide), ?_⟩
    refine ⟨_, rfl, _, rfl, _, _, rfl, rfl, _, _, rfl, rfl, (by intro z; exact absurd z (by decide)), l3, _, _, _, rfl, rfl, s3, a3, _, _, rfl, rfl, by omega, ?_⟩
    have y1 := (none1.mul (Nb.lit 2147483647)).add ntwo
    refine ⟨_, rfl, _, _, rfl, rfl, low_mul (none1.low (by decide)) ((Nb.lit 2147483647).low (by decide)), _, rfl, _, _, rfl, rfl, _, _, rfl, rfl, low_mul (y1.low (by decide)) ((Nb.lit 2147483647).low (by decide)), _, rfl, _, _, rfl, rfl, ?_⟩
    exact k _ _ e3
end
end Bw

namespace Bw
open PySem PySem.Spec PyProof.Rows L2 Bz RT
section
variable {P : Program} {w : World} {K : PySem.W.Frag} {mg : Str → Option Value} {base : Heap}
def spTake : Sp := fun vs H Q _ => ∃ (p : Addr) (m : Int) (n : Nat), vs = [.ref p, .int m] ∧ 0 < m ∧ Pen H p n ∧ n ≤ 900000 ∧ ∀ H' r, SameX p H H' → Pen H' p (n + 1) → 0 ≤ r → r < m → Q (.int r) H'
theorem ix3 {x y z : V} : (atI [x, y, z] 0 = some x ∧ atI [x, y, z] 1 = some y) ∧ atI [x, y, z] 2 = some z := ⟨⟨rfl, rfl⟩, rfl⟩
theorem z_at (cs : List Int) (j : Int) (h0 : 0 ≤ j) (h1 : j < (cs.length : Nat)) : ∃ z, atI (cs.map V.int) j = some (.int z) := by
  obtain ⟨k, rfl⟩ : ∃ k : Nat, j = (k : Nat) := ⟨j.toNat, by omega⟩
  exact ⟨_, atI_nat (z_get cs (by omega))⟩
theorem ok_law_take {x : Str} (F : Has K mg x s_law_take ["_law_pen", "_law_amount"]) (T : Txt P K mg base) (cS : Prom P w K mg base 1 "_law_spread" ["_law_cell", "_law_at"] spSpread) : Prom P w K mg base 40 x ["_law_pen", "_law_amount"] spTake := by
  refine F.prom sc_law_take (fun vs H Q E h => ?_) (fun f cdv A outer s H vs Q E hr h => ?_)
  · obtain ⟨p, m, n, rfl, _⟩ := h; rfl
  · obtain ⟨p, m, n, rfl, hm, ⟨c, cs, t, y, hp, ne, hc, ht⟩, hn, k⟩ := h
    have S := seer_of (w := w) (s := s) (H := H) (outer := outer) (E := E) (cdv := cdv) T sc_law_take hr (by decide)
    refine ⟨_, pss_cons (ps_if (pt_cmpR op_lt (pe_ix ix_list (pv 0) pe_int (fun _ _ => rfl)) (pv 1) (nomark _))
        (pss_cons (ps_set (i := 2) sc_law_take.nd rfl (.inl rfl) (pe_ix ix_list (pv 0) pe_int (fun _ _ => rfl)))
          <| pss_cons (ps_set (i := 3) sc_law_take.nd rfl (.inl rfl) pe_int)
          <| pss_cons (ps_if (pt_cmpR op_lt (pv 2) (pe_callB call_len_seq (by rfl) T.len boot_len (pa_cons (pe_ix ix_list (pv 0) pe_int (fun _ _ => rfl)) pa_nil)) (nomark _))
              (pss_one (ps_set (i := 3) sc_law_take.nd rfl (.inl rfl) (pe_ix ix_list (pe_ix ix_list (pv 0) pe_int (fun _ _ => rfl)) (pv 2) (fun _ _ => rfl))))
              (pss_one (ps_if (pt_cmpR op_gt (pe_callB call_len_seq (by rfl) T.len boot_len (pa_cons (pe_ix ix_list (pv 0) pe_int (fun _ _ => rfl)) pa_nil)) pe_int (nomark _))
                (pss_one (ps_set (i := 3) sc_law_take.nd rfl (.inl rfl) (pe_op op_modN (pe_ix ix_list (pe_ix ix_list (pv 0) pe_int (fun _ _ => rfl)) (pe_op op_modN (pe_op op_add (pe_op op_mulX (pv 2) pe_int) pe_int) (pe_callB call_len_seq (by rfl) T.len boot_len (pa_cons (pe_ix ix_list (pv 0) pe_int (fun _ _ => rfl)) pa_nil))) (fun _ _ => rfl)) (pe_op op_add (pe_op op_pow pe_int pe_int) (pv 2)))))
                pss_nil)))
          <| pss_cons (ps_asg (pe_op op_add (pv 2) pe_int) (pg_sub (pv 0) pe_int set_list))
          <| pss_one (ps_asg (pe_ca cS (hr.mono (by decide)) (pa_cons (pv 3) (pa_cons (pv 2) pa_nil))) (pg_sub (pv 0) pe_int set_list)))
        pss_nil)
      <| pss_cons (ps_set (i := 4) sc_law_take.nd rfl (.inl rfl) (pe_op op_modN (pe_ix ix_list (pv 0) pe_int (fun _ _ => rfl)) (pv 1)))
      <| pss_cons (ps_asg (pe_op (op_fdivP S) (pe_ix ix_list (pv 0) pe_int (fun _ _ => rfl)) (pv 1)) (pg_sub (pv 0) pe_int set_list))
      <| pss_one (ps_ret (pv 4)), ?_⟩
    have sp : SqL K H p [.ref c, .int (t : Nat), .int y] := SqL.new hp
    have sc : SqL K H c (cs.map V.int) := SqL.new hc
    refine ⟨_, rfl, p, _, 2, _, rfl, rfl, sp, ix3.2, _, rfl, _, _, rfl, rfl, _, rfl, ?_⟩
    refine ite_and (fun _ => ?_) (fun _ => ?_)
    · refine ⟨_, rfl, p, _, 1, _, rfl, rfl, sp, ix3.1.2, ?_⟩
      have nt : Nb 1000000 (t : Int) := (Nb.lit t).le (by omega)
      refine ⟨_, rfl, _, rfl, p, _, 0, _, rfl, rfl, sp, ix3.1.1, c, _, rfl, .inl sc, _, _, rfl, rfl, _, rfl, ?_⟩
      rw [List.length_map]
      refine ite_and (fun lt => ?_) (fun ge => ?_)
      · obtain ⟨z, hz⟩ := z_at cs (t : Int) (by omega) (of_decide_eq_true lt)
        refine ⟨_, rfl, p, _, 0, _, rfl, rfl, sp, ix3.1.1, _, rfl, c, _, _, .int z, rfl, rfl, sc, hz, ?_⟩
        refine ⟨_, rfl, _, _, rfl, rfl, _, rfl, p, _, 1, 1, rfl, rfl, hp, rfl, ?_⟩
        refine ⟨_, rfl, _, rfl, _, t, rfl, by omega, fun H2 i e2 => ?_⟩
        have hp1 : (upd H p (.lst [.ref c, .int ((t : Int) + 1), .int y])) p = some (.lst [.ref c, .int ((t : Int) + 1), .int y]) := upd_same
        refine ⟨_, rfl, p, _, 2, 2, rfl, rfl, e2 _ _ hp1, rfl, ?_⟩
        have hc1 : (upd H p (.lst [.ref c, .int ((t : Int) + 1), .int y])) c = some (.lst (cs.map V.int)) := by rw [upd_ne ne]; exact hc
        have hp3 : (upd H2 p (.lst [.ref c, .int ((t : Int) + 1), .int i])) p = some (.lst [.ref c, .int ((t : Int) + 1), .int i]) := upd_same
        have hc3 : (upd H2 p (.lst [.ref c, .int ((t : Int) + 1), .int i])) c = some (.lst (cs.map V.int)) := by rw [upd_ne ne]; exact e2 _ _ hc1
        have sx : SameX p H (upd H2 p (.lst [.ref c, .int ((t : Int) + 1), .int i])) := ((SameX.upd hp).trans (.of e2)).trans (SameX.upd (e2 _ _ hp1))
        refine ⟨_, rfl, p, _, 2, _, rfl, rfl, SqL.new hp3, ix3.2, _, rfl, _, _, rfl, rfl, by omega, ?_⟩
        refine ⟨_, rfl, p, _, 2, _, rfl, rfl, SqL.new hp3, ix3.2, _, rfl, _, _, rfl, rfl, by omega, _, rfl, p, _, 2, 2, rfl, rfl, hp3, rfl, ?_⟩
        obtain ⟨r0, r1⟩ := fm_bd (i := i) hm
        exact ⟨_, rfl, k _ _ (sx.trans (SameX.upd hp3)) ⟨c, cs, t + 1, _, upd_same, ne, by rw [upd_ne ne]; exact hc3, by omega⟩ r0 r1⟩
      · refine ⟨_, rfl, p, _, 0, _, rfl, rfl, sp, ix3.1.1, c, _, rfl, .inl sc, _, _, rfl, rfl, _, rfl, ?_⟩
        rw [List.length_map]
        refine ite_and (fun gt => ?_) (fun le => ?_)
        · have gt := of_decide_eq_true gt
          obtain ⟨f1, f2⟩ := fm_bd (i := (t : Int) * 5 + 3) (j := (cs.length : Nat)) gt
          obtain ⟨z, hz⟩ := z_at cs _ f1 f2
          refine ⟨_, rfl, p, _, 0, _, rfl, rfl, sp, ix3.1.1, _, rfl, _, _, rfl, rfl, low_mul (nt.low (by decide)) ((Nb.lit 5).low (by decide)), _, _, rfl, rfl, ?_⟩
          refine ⟨_, rfl, p, _, 0, _, rfl, rfl, sp, ix3.1.1, c, _, rfl, .inl sc, _, _, rfl, rfl, ?_, c, _, _, .int z, rfl, rfl, sc, ?_, ?_⟩
          · rw [List.length_map]; omega
          · rw [List.length_map]; exact hz
          refine ⟨_, _, rfl, rfl, ⟨by decide, by decide, by decide⟩, _, rfl, _, _, rfl, rfl, _, _, rfl, rfl, ?_, ?_⟩
          · have e10 : (10 : Int) ^ Int.toNat 17 = 100000000000000000 := by decide
            rw [e10]
            omega
          refine ⟨_, rfl, _, _, rfl, rfl, _, rfl, p, _, 1, 1, rfl, rfl, hp, rfl, ?_⟩
          refine ⟨_, rfl, _, rfl, _, t, rfl, by omega, fun H2 i e2 => ?_⟩
          have hp1 : (upd H p (.lst [.ref c, .int ((t : Int) + 1), .int y])) p = some (.lst [.ref c, .int ((t : Int) + 1), .int y]) := upd_same
          refine ⟨_, rfl, p, _, 2, 2, rfl, rfl, e2 _ _ hp1, rfl, ?_⟩
          have hc1 : (upd H p (.lst [.ref c, .int ((t : Int) + 1), .int y])) c = some (.lst (cs.map V.int)) := by rw [upd_ne ne]; exact hc
          have hp3 : (upd H2 p (.lst [.ref c, .int ((t : Int) + 1), .int i])) p = some (.lst [.ref c, .int ((t : Int) + 1), .int i]) := upd_same
          have hc3 : (upd H2 p (.lst [.ref c, .int ((t : Int) + 1), .int i])) c = some (.lst (cs.map V.int)) := by rw [upd_ne ne]; exact e2 _ _ hc1
          have sx : SameX p H (upd H2 p (.lst [.ref c, .int ((t : Int) + 1), .int i])) := ((SameX.upd hp).trans (.of e2)).trans (SameX.upd (e2 _ _ hp1))
          refine ⟨_, rfl, p, _, 2, _, rfl, rfl, SqL.new hp3, ix3.2, _, rfl, _, _, rfl, rfl, by omega, ?_⟩
          refine ⟨_, rfl, p, _, 2, _, rfl, rfl, SqL.new hp3, ix3.2, _, rfl, _, _, rfl, rfl, by omega, _, rfl, p, _, 2, 2, rfl, rfl, hp3, rfl, ?_⟩
          obtain ⟨r0, r1⟩ := fm_bd (i := i) hm
          exact ⟨_, rfl, k _ _ (sx.trans (SameX.upd hp3)) ⟨c, cs, t + 1, _, upd_same, ne, by rw [upd_ne ne]; exact hc3, by omega⟩ r0 r1⟩
        · refine ⟨_, rfl, _, _, rfl, rfl, _, rfl, p, _, 1, 1, rfl, rfl, hp, rfl, ?_⟩
          refine ⟨_, rfl, _, rfl, _, t, rfl, by omega, fun H2 i e2 => ?_⟩
          have hp1 : (upd H p (.lst [.ref c, .int ((t : Int) + 1), .int y])) p = some (.lst [.ref c, .int ((t : Int) + 1), .int y]) := upd_same
          refine ⟨_, rfl, p, _, 2, 2, rfl, rfl, e2 _ _ hp1, rfl, ?_⟩
          have hc1 : (upd H p (.lst [.ref c, .int ((t : Int) + 1), .int y])) c = some (.lst (cs.map V.int)) := by rw [upd_ne ne]; exact hc
          have hp3 : (upd H2 p (.lst [.ref c, .int ((t : Int) + 1), .int i])) p = some (.lst [.ref c, .int ((t : Int) + 1), .int i]) := upd_same
          have hc3 : (upd H2 p (.lst [.ref c, .int ((t : Int) + 1), .int i])) c = some (.lst (cs.map V.int)) := by rw [upd_ne ne]; exact e2 _ _ hc1
          have sx : SameX p H (upd H2 p (.lst [.ref c, .int ((t : Int) + 1), .int i])) := ((SameX.upd hp).trans (.of e2)).trans (SameX.upd (e2 _ _ hp1))
          refine ⟨_, rfl, p, _, 2, _, rfl, rfl, SqL.new hp3, ix3.2, _, rfl, _, _, rfl, rfl, by omega, ?_⟩
          refine ⟨_, rfl, p, _, 2, _, rfl, rfl, SqL.new hp3, ix3.2, _, rfl, _, _, rfl, rfl, by omega, _, rfl, p, _, 2, 2, rfl, rfl, hp3, rfl, ?_⟩
          obtain ⟨r0, r1⟩ := fm_bd (i := i) hm
          exact ⟨_, rfl, k _ _ (sx.trans (SameX.upd hp3)) ⟨c, cs, t + 1, _, upd_same, ne, by rw [upd_ne ne]; exact hc3, by omega⟩ r0 r1⟩
    · have hp3 := hp
      have hc3 := hc
      refine ⟨_, rfl, p, _, 2, _, rfl, rfl, SqL.new hp3, ix3.2, _, rfl, _, _, rfl, rfl, by omega, ?_⟩
      refine ⟨_, rfl, p, _, 2, _, rfl, rfl, SqL.new hp3, ix3.2, _, rfl, _, _, rfl, rfl, by omega, _, rfl, p, _, 2, 2, rfl, rfl, hp3, rfl, ?_⟩
      obtain ⟨r0, r1⟩ := fm_bd (i := y) hm
      exact ⟨_, rfl, k _ _ (SameX.refl.trans (SameX.upd hp3)) ⟨c, cs, t, _, upd_same, ne, by rw [upd_ne ne]; exact hc3, by omega⟩ r0 r1⟩
end
end Bw

namespace Bw
open PySem PySem.Spec PyProof.Rows L2 Bz RT
theorem cut_mid (ns : List Int) (a b : Nat) : ∃ ys : List Int, cutV (ns.map V.int) (some (a : Int)) (some (b : Int)) = ys.map V.int ∧ ys.length ≤ b ∧ (a < ns.length ∨ ys = []) := by
  unfold cutV
  rw [HT.sIx_nat, HT.sIx_nat]
  rw [← List.map_drop, ← List.map_take]
  refine ⟨_, rfl, ?_, ?_⟩
  · rw [List.length_take]
    omega
  · rw [List.length_map]
    by_cases h : a < ns.length
    · exact .inl h
    · refine .inr ?_
      have e : min a ns.length = ns.length := by omega
      rw [e, List.drop_length]
      simp
section
variable {P : Program} {w : World} {K : PySem.W.Frag} {mg : Str → Option Value} {base : Heap}
def spOneOf (K : PySem.W.Frag) : Sp := fun vs H Q _ => ∃ (p l : Addr) (n : Nat) (xs : List V) (Pr : V → Prop), vs = [.ref p, .ref l] ∧ Pen H p n ∧ n ≤ 900000 ∧ SqL K H l xs ∧ l ≠ p ∧ 0 < xs.length ∧ (∀ x ∈ xs, Pr x) ∧ ∀ H' v, SameX p H H' → Pen H' p (n + 1) → Pr v → Q v H'
theorem ok_law_one_of {x : Str} (F : Has K mg x s_law_one_of ["_law_pen", "_law_some"]) (T : Txt P K mg base) (cT : Prom P w K mg base 40 "_law_take" ["_law_pen", "_law_amount"] spTake) : Prom P w K mg base 41 x ["_law_pen", "_law_some"] (spOneOf K) := by
  refine F.prom sc_law_one_of (fun vs H Q E h => ?_) (fun f cdv A outer s H vs Q E hr h => ?_)
  · obtain ⟨p, l, n, xs, Pr, rfl, _⟩ := h; rfl
  · obtain ⟨p, l, n, xs, Pr, rfl, hp, hn, hl, ne, h0, hP, k⟩ := h
    refine ⟨_, pss_one (ps_ret (pe_ix ix_list (pv 1) (pe_ca cT hr (pa_cons (pv 0) (pa_cons (pe_callB call_len_seq (by rfl) T.len boot_len (pa_cons (pv 1) pa_nil)) pa_nil))) (fun _ _ => rfl))), ?_⟩
    refine ⟨_, rfl, _, rfl, _, rfl, l, _, rfl, .inl hl, p, _, n, rfl, by omega, hp, hn, fun H1 r sx hp1 r0 r1 => ?_⟩
    obtain ⟨j, rfl⟩ : ∃ j : Nat, r = (j : Nat) := ⟨r.toNat, by omega⟩
    have hj : j < xs.length := by omega
    have e : xs[j]? = some xs[j] := List.getElem?_eq_getElem hj
    exact ⟨l, xs, _, xs[j], rfl, rfl, sx.sql ne hl, atI_nat e, k H1 _ sx hp1 (hP _ (List.getElem_mem hj))⟩
def spLOpen (K : PySem.W.Frag) : Sp := fun vs H Q _ => ∃ (a : Addr) (ns : List Int), vs = [.ref a] ∧ SqL K H a (ns.map V.int) ∧ ∀ H' p, Same H H' → Pen H' p 0 → Q (.ref p) H'
theorem ok_law_open {x : Str} (F : Has K mg x s_law_open ["_law_script"]) (T : Txt P K mg base) : Prom P w K mg base 1 x ["_law_script"] (spLOpen K) := by
  refine F.prom sc_law_open (fun vs H Q E h => ?_) (fun f cdv A outer s H vs Q E hr h => ?_)
  · obtain ⟨a, ns, rfl, _⟩ := h; rfl
  · obtain ⟨a, ns, rfl, ha, k⟩ := h
    refine ⟨_, pss_cons (ps_set (i := 1) sc_law_open.nd rfl (.inl rfl) (pe_callTy call_list_of (by rfl) T.lst boot_list (pa_cons (pe_slice sl_list (pv 0) po_none (po_some pe_int)) pa_nil)))
      <| pss_cons (ps_for PassesOwn.never rfl (pi_enum (by rfl) T.enu (pa_cons (pe_slice sl_list (pv 0) (po_some pe_int) (po_some pe_int)) pa_nil)) (pg_tup rfl (pgs_cons (pg_name (i := 2) sc_law_open.nd rfl (.inl rfl)) (pgs_cons (pg_name (i := 3) sc_law_open.nd rfl (.inl rfl)) pgs_nil)))
        (pss_one (ps_asg (pe_op op_add (pe_ix ix_list (pv 1) (pe_op op_modN (pv 2) pe_int) (fun _ _ => rfl)) (pv 3)) (pg_sub (pv 1) (pe_op op_modN (pv 2) pe_int) set_list))))
      <| pss_one (ps_ret (pe_lst (pa_cons (pv 1) (pa_cons pe_int (pa_cons pe_int pa_nil))))), ?_⟩
    refine ⟨_, rfl, _, rfl, a, _, rfl, ha, fun l0 n0 => ?_⟩
    rw [show (some (12 : Int)) = some ((12 : Nat) : Int) from rfl, cut_to, ← List.map_take]
    have e0 : Same H (upd H l0 (.lst ((ns.take 12).map V.int))) := Same.new n0
    refine ⟨l0, _, rfl, .inl (SqL.new upd_same), fun l n1 => ?_⟩
    have nl := none_of e0 n1
    have e1 : Same H (upd (upd H l0 (.lst ((ns.take 12).map V.int))) l (.lst ((ns.take 12).map V.int))) := e0.trans (Same.new n1)
    have hl : (upd (upd H l0 (.lst ((ns.take 12).map V.int))) l (.lst ((ns.take 12).map V.int))) l = some (.lst ((ns.take 12).map V.int)) := upd_same
    generalize upd (upd H l0 (.lst ((ns.take 12).map V.int))) l (.lst ((ns.take 12).map V.int)) = H1 at e1 hl ⊢
    obtain ⟨ys, hy1, hy2, hy3⟩ := cut_mid ns 12 63
    refine ⟨_, rfl, _, rfl, _, rfl, a, _, rfl, Same.seq e1 ha, fun l2 n2 => ?_⟩
    rw [show (some (12 : Int)) = some ((12 : Nat) : Int) from rfl, show (some (63 : Int)) = some ((63 : Nat) : Int) from rfl, hy1]
    have e2 : Same H1 (upd H1 l2 (.lst (ys.map V.int))) := Same.new n2
    have nl2 := none_of e1 n2
    have hl2 := e2 _ _ hl
    have hq2 : (upd H1 l2 (.lst (ys.map V.int))) l2 = some (.lst (ys.map V.int)) := upd_same
    have ne : l2 ≠ l := fun z => by rw [z, hl] at n2; cases n2
    have e02 := e1.trans e2
    generalize upd H1 l2 (.lst (ys.map V.int)) = H2 at e02 hl2 hq2 ⊢
    refine ⟨l2, _, rfl, SqL.new hq2, ?_⟩
    refine for_it (walk_enum (K := K) (a := l2) (xs := ys.map V.int)) (fun i σ H' => ∃ (cs : List Int) (o2 o3 : Option V), σ = [some (.ref a), some (.ref l), o2, o3] ∧ Same H H' ∧ H' l = some (.lst (cs.map V.int)) ∧ cs.length = (ns.take 12).length ∧ H' l2 = some (.lst (ys.map V.int))) ⟨_, _, _, rfl, e02, hl2, rfl, hq2⟩ ?_ ?_ ?_
    · rintro i σ H' hi ⟨cs, o2, o3, rfl, e, h1, h2, h3⟩
      exact SqL.new h3
    · rintro i v σ H' H3 hi ⟨cs, o2, o3, rfl, e, h1, h2, h3⟩ ⟨t, x1, x2, rfl, nt, rfl, ev1, ev2⟩
      rw [List.length_map] at hi
      obtain rfl := Option.some.inj ((z_get ys hi).symm.trans ev2)
      obtain rfl : V.int (i : Nat) = x1 := Option.some.inj ev1
      have st : Same H' (upd H' t (.tup [.int (i : Nat), .int (ys.getD i 0)])) := Same.new nt
      have h1' := st _ _ h1
      have h3' := st _ _ h3
      have e' := e.trans st
      refine ⟨t, _, rfl, SqT.new upd_same, rfl, _, _, rfl, _, _, rfl, rfl, ?_⟩
      generalize upd H' t (.tup [.int (i : Nat), .int (ys.getD i 0)]) = H4 at e' h1' h3' ⊢
      have n12 : 12 < ns.length := hy3.resolve_right fun z => by rw [z] at hi; simp at hi
      have lc : cs.length = 12 := by rw [h2, List.length_take]; omega
      obtain ⟨f1, f2⟩ := fm_bd (i := (i : Int)) (j := 12) (by decide)
      obtain ⟨j, hj⟩ : ∃ j : Nat, (i : Int).fmod 12 = (j : Nat) := ⟨((i : Int).fmod 12).toNat, by omega⟩
      have hj2 : j < cs.length := by omega
      refine ⟨_, rfl, _, rfl, _, _, rfl, rfl, (by intro z; exact absurd z (by decide)), l, _, _, .int (cs.getD j 0), rfl, rfl, SqL.new h1', by rw [hj]; exact atI_nat (z_get cs hj2), _, rfl, _, _, rfl, rfl, ?_⟩
      refine ⟨_, rfl, _, rfl, _, _, rfl, rfl, (by intro z; exact absurd z (by decide)), l, _, _, j, rfl, rfl, h1', by rw [hj]; exact ix_nat (by rw [List.length_map]; exact hj2), ?_⟩
      refine ⟨cs.set j (cs.getD j 0 + ys.getD i 0), _, _, rfl, Same.mut e' nl, ?_, by rw [List.length_set, h2], by rw [upd_ne ne]; exact h3'⟩
      rw [upd_same, List.map_set]
    · rintro σ H' ⟨cs, o2, o3, rfl, e, h1, h2, h3⟩
      refine ⟨_, rfl, by show 3 ≤ sizeLine; decide, fun p np => ?_⟩
      have e3 : Same H' (upd H' p (.lst [.ref l, .int 0, .int 0])) := Same.new np
      exact k _ p (e.trans e3) ⟨l, cs, 0, 0, upd_same, ne_some h1 np, e3 _ _ h1, Nat.le_refl _⟩
/-! ### drawn fractions -/
def Nd (A D : Nat) (r : Rat) : Prop := r.num.natAbs ≤ A ∧ r.den ≤ D
theorem nd_div {t b : Int} {A D : Nat} (hb : 0 < b) (ht : t.natAbs ≤ A) (hd : b.natAbs ≤ D) : Nd A D (Rat.divInt t b) := by
  have := num_dvd (t := t) (b := b) (by omega)
  exact ⟨by omega, by omega⟩
theorem Nd.le {A B D E : Nat} {r : Rat} (h : Nd A D r) (k : A ≤ B) (l : D ≤ E) : Nd B E r := ⟨Nat.le_trans h.1 k, Nat.le_trans h.2 l⟩
theorem Nd.lo {A D : Nat} {r : Rat} (h : Nd A D r) (k : A < 2 ^ 100) (l : D < 2 ^ 100) : Bt 100 r := ⟨Nat.lt_of_le_of_lt h.1 k, Nat.lt_of_le_of_lt h.2 l⟩
theorem Nd.bd {A D : Nat} {r : Rat} (h : Nd A D r) : -((A : Nat) : Rat) ≤ r ∧ r ≤ ((A : Nat) : Rat) := by
  have h1 := h.1
  have d := r.den_pos
  have m : A ≤ A * r.den := Nat.le_mul_of_pos_right _ d
  have m' : (A : Int) ≤ (A : Int) * (r.den : Int) := by rw [← Int.natCast_mul]; omega
  constructor
  · rw [Rat.le_iff]
    have e1 : (-((A : Nat) : Rat)).num = -(A : Int) := by rw [Rat.neg_num]; rfl
    have e2 : (-((A : Nat) : Rat)).den = 1 := by rw [Rat.neg_den]; rfl
    rw [e1, e2]
    have : -(A : Int) * (r.den : Int) = -((A : Int) * (r.den : Int)) := Int.neg_mul _ _
    rw [this]
    omega
  · rw [Rat.le_iff]
    have e1 : (((A : Nat) : Rat)).num = (A : Int) := rfl
    have e2 : (((A : Nat) : Rat)).den = 1 := rfl
    rw [e1, e2]
    omega
end
end Bw

namespace Bw
open PySem PySem.Spec PyProof.Rows L2 Bz RT
theorem ten9 : (10 : Int) ^ Int.toNat 9 = 1000000000 := by decide
section
variable {P : Program} {w : World} {K : PySem.W.Frag} {mg : Str → Option Value} {base : Heap}
def spDrawF (K : PySem.W.Frag) : Sp := fun vs H Q _ => ∃ (p : Addr) (n : Nat), vs = [.ref p] ∧ Pen H p n ∧ n ≤ 800000 ∧ ∀ H' u r, SameX p H H' → Pen H' p (n + 8) → Fr K H' u r → Nd 1000000000 1000000000 r → Q (.ref u) H'
theorem nz3 (x : Int) : Nb x.natAbs x := Nat.le_refl _
theorem ok_law_draw_fraction {x : Str} (F : Has K mg x s_law_draw_fraction ["_law_pen"]) (T : Txt P K mg base) (cT : Prom P w K mg base 40 "_law_take" ["_law_pen", "_law_amount"] spTake) (cO : Prom P w K mg base 41 "_law_one_of" ["_law_pen", "_law_some"] (spOneOf K)) (cF : Prom P w K mg base 40 "_law_fraction" ["_law_top", "_law_bottom"] (spLFraction K)) : Prom P w K mg base 42 x ["_law_pen"] (spDrawF K) := by
  refine F.prom sc_law_draw_fraction (fun vs H Q E h => ?_) (fun f cdv A outer s H vs Q E hr h => ?_)
  · obtain ⟨p, n, rfl, _⟩ := h; rfl
  · obtain ⟨p, n, rfl, hp, hn, k⟩ := h
    refine ⟨_, pss_cons (ps_set (i := 1) sc_law_draw_fraction.nd rfl (.inl rfl) (pe_ca cO hr (pa_cons (pv 0) (pa_cons (pe_lst (pa_cons pe_int (pa_cons pe_int (pa_cons pe_int (pa_cons pe_int (pa_cons pe_int (pa_cons pe_int (pa_cons pe_int
          (pa_cons (pe_op op_add pe_int (pe_ca cT (hr.mono (by decide)) (pa_cons (pv 0) (pa_cons pe_int pa_nil)))) (pa_cons (pe_op op_add pe_int (pe_ca cT (hr.mono (by decide)) (pa_cons (pv 0) (pa_cons (pe_op op_pow pe_int pe_int) pa_nil)))) pa_nil)))))))))) pa_nil))))
      <| pss_cons (ps_set (i := 2) sc_law_draw_fraction.nd rfl (.inl rfl) (pe_ca cO hr (pa_cons (pv 0) (pa_cons (pe_lst (pa_cons pe_int (pa_cons pe_int (pa_cons pe_int (pa_cons (pv 1)
          (pa_cons (pe_ca cT (hr.mono (by decide)) (pa_cons (pv 0) (pa_cons pe_int pa_nil))) (pa_cons (pe_ca cT (hr.mono (by decide)) (pa_cons (pv 0) (pa_cons (pe_op op_mulX pe_int (pv 1)) pa_nil))) (pa_cons (pe_ca cT (hr.mono (by decide)) (pa_cons (pv 0) (pa_cons (pe_op op_pow pe_int pe_int) pa_nil))) pa_nil)))))))) pa_nil))))
      <| pss_one (ps_ret (pe_ca cF (hr.mono (by decide)) (pa_cons (pe_op op_mulX (pe_callB (call_min2 rfl) (by rfl) T.min boot_min (pa_cons (pv 2) (pa_cons (pe_op op_sub (pe_op op_pow pe_int pe_int) pe_int) pa_nil))) (pe_ca cO hr (pa_cons (pv 0) (pa_cons (pe_lst (pa_cons pe_int (pa_cons pe_int (pa_cons (pe_un un_neg pe_int) pa_nil)))) pa_nil)))) (pa_cons (pv 1) pa_nil)))), ?_⟩
    refine ⟨_, rfl, _, rfl, p, 40, n, rfl, by decide, hp, by omega, fun H1 r1 s1 p1 a1 b1 => ?_⟩
    refine ⟨_, _, rfl, rfl, _, rfl, _, _, rfl, rfl, ⟨by decide, by decide, by decide⟩, p, _, n + 1, rfl, by rw [ten9]; decide, p1, by omega, fun H2 r2 s2 p2 a2 b2 => ?_⟩
    rw [ten9] at b2
    refine ⟨_, _, rfl, rfl, by show 9 ≤ sizeLine; decide, fun l nl => ?_⟩
    have e3 : SameX p H2 (upd H2 l (.lst [.int 1, .int 1, .int 1, .int 2, .int 3, .int 4, .int 10, .int (1 + r1), .int (1 + r2)])) := .of (Same.new nl)
    refine ⟨p, l, n + 2, _, fun v => ∃ b : Int, v = .int b ∧ 1 ≤ b ∧ b ≤ 1000000000, rfl, p2.mono (Same.new nl), by omega, SqL.new upd_same, p2.ne nl, by show 0 < 9; decide, fun x hx => ?_, fun H4 v s4 p4 hv => ?_⟩
    · simp only [List.mem_cons, List.not_mem_nil, or_false] at hx
      rcases hx with hx | hx | hx | hx | hx | hx | hx | hx | hx
      all_goals exact ⟨_, hx, by omega, by omega⟩
    obtain ⟨b, rfl, b0, b1'⟩ := hv
    have s04 := s1.trans (s2.trans (e3.trans s4))
    have nb : Nb 1000000000 b := by unfold Nb; omega
    refine ⟨_, rfl, _, rfl, _, rfl, p, 9, n + 3, rfl, by decide, p4, by omega, fun H5 r5 s5 p5 a5 b5 => ?_⟩
    refine ⟨_, rfl, _, rfl, _, _, rfl, rfl, low_mul ((Nb.lit 9).low (by decide)) (nb.low (by decide)), p, _, n + 4, rfl, by omega, p5, by omega, fun H6 r6 s6 p6 a6 b6 => ?_⟩
    refine ⟨_, rfl, _, _, rfl, rfl, ⟨by decide, by decide, by decide⟩, p, _, n + 5, rfl, by rw [ten9]; decide, p6, by omega, fun H7 r7 s7 p7 a7 b7 => ?_⟩
    refine ⟨by show 7 ≤ sizeLine; decide, fun l2 nl2 => ?_⟩
    have e8 : SameX p H7 (upd H7 l2 (.lst [.int 0, .int 1, .int 2, .int b, .int r5, .int r6, .int r7])) := .of (Same.new nl2)
    refine ⟨p, l2, n + 6, _, fun v => ∃ b : Int, v = .int b ∧ 0 ≤ b, rfl, p7.mono (Same.new nl2), by omega, SqL.new upd_same, p7.ne nl2, by show 0 < 7; decide, fun x hx => ?_, fun H9 v s9 p9 hv => ?_⟩
    · simp only [List.mem_cons, List.not_mem_nil, or_false] at hx
      rcases hx with hx | hx | hx | hx | hx | hx | hx
      all_goals exact ⟨_, hx, by omega⟩
    obtain ⟨t, rfl, t0⟩ := hv
    have s09 := s04.trans (s5.trans (s6.trans (s7.trans (e8.trans s9))))
    refine ⟨_, rfl, _, _, rfl, rfl, ⟨by decide, by decide, by decide⟩, _, _, rfl, rfl, _, _, rfl, ?_⟩
    refine ⟨_, rfl, _, rfl, by show 3 ≤ sizeLine; decide, fun l3 nl3 => ?_⟩
    have e10 : SameX p H9 (upd H9 l3 (.lst [.int 1, .int 1, .int (-1)])) := .of (Same.new nl3)
    refine ⟨p, l3, n + 7, _, fun v => ∃ b : Int, v = .int b ∧ (b = 1 ∨ b = -1), rfl, p9.mono (Same.new nl3), by omega, SqL.new upd_same, p9.ne nl3, by show 0 < 3; decide, fun x hx => ?_, fun H11 v s11 p11 hv => ?_⟩
    · simp only [List.mem_cons, List.not_mem_nil, or_false] at hx
      rcases hx with hx | hx | hx
      all_goals exact ⟨_, hx, by omega⟩
    obtain ⟨sg, rfl, sg1⟩ := hv
    have nm : Nb 1000000000 (if (10 : Int) ^ Int.toNat 9 - 1 < t then (10 : Int) ^ Int.toNat 9 - 1 else t) := by
      rw [ten9]
      unfold Nb
      split <;> omega
    have ns : Nb 1 sg := by unfold Nb; omega
    refine ⟨_, _, rfl, rfl, low_mul (nm.low (by decide)) (ns.low (by decide)), _, rfl, _, _, rfl, by omega, fun H12 u e12 fu => ?_⟩
    exact k H12 u _ (s09.trans (e10.trans (s11.trans (.of e12)))) (p11.mono e12) fu (nd_div (by omega) (by have := nm.mul ns; exact this.le (by decide)) (by omega))
theorem ok_law_draw_small {x : Str} (F : Has K mg x s_law_draw_small ["_law_pen"]) (T : Txt P K mg base) (cT : Prom P w K mg base 40 "_law_take" ["_law_pen", "_law_amount"] spTake) (cO : Prom P w K mg base 41 "_law_one_of" ["_law_pen", "_law_some"] (spOneOf K)) (cF : Prom P w K mg base 40 "_law_fraction" ["_law_top", "_law_bottom"] (spLFraction K)) : Prom P w K mg base 42 x ["_law_pen"] (spDrawF K) := by
  refine F.prom sc_law_draw_small (fun vs H Q E h => ?_) (fun f cdv A outer s H vs Q E hr h => ?_)
  · obtain ⟨p, n, rfl, _⟩ := h; rfl
  · obtain ⟨p, n, rfl, hp, hn, k⟩ := h
    refine ⟨_, pss_cons (ps_set (i := 1) sc_law_draw_small.nd rfl (.inl rfl) (pe_ca cO hr (pa_cons (pv 0) (pa_cons (pe_lst (pa_cons pe_int (pa_cons pe_int (pa_cons pe_int (pa_cons pe_int (pa_cons pe_int (pa_cons pe_int (pa_cons pe_int pa_nil)))))))) pa_nil))))
      <| pss_one (ps_ret (pe_ca cF (hr.mono (by decide)) (pa_cons (pe_op op_mulX (pe_ca cT (hr.mono (by decide)) (pa_cons (pv 0) (pa_cons (pe_op op_add (pe_op op_mulX pe_int (pv 1)) pe_int) pa_nil))) (pe_ca cO hr (pa_cons (pv 0) (pa_cons (pe_lst (pa_cons pe_int (pa_cons pe_int (pa_cons (pe_un un_neg pe_int) pa_nil)))) pa_nil)))) (pa_cons (pv 1) pa_nil)))), ?_⟩
    refine ⟨_, rfl, by show 7 ≤ sizeLine; decide, fun l nl => ?_⟩
    have e3 : SameX p H (upd H l (.lst [.int 1, .int 1, .int 1, .int 2, .int 3, .int 4, .int 7])) := .of (Same.new nl)
    refine ⟨p, l, n, _, fun v => ∃ b : Int, v = .int b ∧ 1 ≤ b ∧ b ≤ 7, rfl, hp.mono (Same.new nl), by omega, SqL.new upd_same, hp.ne nl, by show 0 < 7; decide, fun x hx => ?_, fun H4 v s4 p4 hv => ?_⟩
    · simp only [List.mem_cons, List.not_mem_nil, or_false] at hx
      rcases hx with hx | hx | hx | hx | hx | hx | hx
      all_goals exact ⟨_, hx, by omega, by omega⟩
    obtain ⟨b, rfl, b0, b1'⟩ := hv
    have s04 := e3.trans s4
    have nb : Nb 7 b := by unfold Nb; omega
    refine ⟨_, rfl, _, rfl, _, _, rfl, rfl, low_mul ((Nb.lit 4).low (by decide)) (nb.low (by decide)), _, _, rfl, rfl, p, _, n + 1, rfl, by omega, p4, by omega, fun H6 r6 s6 p6 a6 b6 => ?_⟩
    refine ⟨_, rfl, _, rfl, by show 3 ≤ sizeLine; decide, fun l3 nl3 => ?_⟩
    have e10 : SameX p H6 (upd H6 l3 (.lst [.int 1, .int 1, .int (-1)])) := .of (Same.new nl3)
    refine ⟨p, l3, n + 2, _, fun v => ∃ b : Int, v = .int b ∧ (b = 1 ∨ b = -1), rfl, p6.mono (Same.new nl3), by omega, SqL.new upd_same, p6.ne nl3, by show 0 < 3; decide, fun x hx => ?_, fun H11 v s11 p11 hv => ?_⟩
    · simp only [List.mem_cons, List.not_mem_nil, or_false] at hx
      rcases hx with hx | hx | hx
      all_goals exact ⟨_, hx, by omega⟩
    obtain ⟨sg, rfl, sg1⟩ := hv
    have nm : Nb 1000000000 r6 := by unfold Nb; omega
    have ns : Nb 1 sg := by unfold Nb; omega
    refine ⟨_, _, rfl, rfl, low_mul (nm.low (by decide)) (ns.low (by decide)), _, rfl, _, _, rfl, by omega, fun H12 u e12 fu => ?_⟩
    exact k H12 u _ (s04.trans (s6.trans (e10.trans (s11.trans (.of e12))))) ((p11.mono e12).le (by omega)) fu (nd_div (by omega) (by have := nm.mul ns; exact this.le (by decide)) (by omega))
/-! ### trimmed, of the law -/
theorem fl_dp {H : Hp} {a : Addr} {as : List Addr} {p : List Rat} (h : SqL K H a (as.map V.ref)) (hp : Frs K H as p) : Dp K H (.ref a) (.list (p.map frD)) := .lst h (frs_dp hp)
theorem fl_shaped (p : List Rat) : SeqAt.shaped (.list (p.map frD)) = true := by
  unfold SeqAt.shaped
  rw [Bool.and_eq_true]
  constructor
  · simp only [PyData.canLay0]
    induction p with
    | nil => simp [PyData.canLayAll0]
    | cons a p ih => simp_all [PyData.canLay0, PyData.canLayAll0, frD]
  · refine decide_eq_true ?_
    have : (PyData.list (p.map frD)).depth ≤ 2 := by
      induction p with
      | nil => simp [PyData.depth, PyData.depthAll]
      | cons a p ih => simp_all [PyData.depth, PyData.depthAll, frD]
    omega
theorem fl_empty (p : List Rat) : PyData.eqv (.list (p.map frD)) (.list []) = decide (p = []) := by
  cases p with
  | nil => rfl
  | cons a p => simp [PyData.eqv, PyData.eqvAll]
theorem ok_law_trimmed {x : Str} (F : Has K mg x s_law_trimmed ["_law_some"]) (T : Txt P K mg base) : Prom P w K mg base 1 x ["_law_some"] (spTrimmed K) := by
  refine F.prom sc_law_trimmed (fun vs H Q E h => ?_) (fun f cdv A outer s H vs Q E hr h => ?_)
  · obtain ⟨l, as, p, rfl, _⟩ := h; rfl
  · obtain ⟨l, as, p, rfl, hl, hp, hn, q⟩ := h
    have lp := paired_len hp
    refine ⟨_, pss_cons (ps_set (i := 1) sc_law_trimmed.nd rfl (.inl rfl) (pe_callTy call_list_of (by rfl) T.lst boot_list (pa_cons (pv 0) pa_nil)))
      <| pss_cons (ps_while PassesOwn.never (PW.pt (pw_and (pt_cmpR (op_neD hr.units) (pv 1) (pe_lst pa_nil) (nomark _)) (pw_and1 (pt_cmpR (op_eqD hr.units) (pe_ix ix_list (pv 1) (pe_un un_neg pe_int) (fun _ _ => rfl)) (pe_tup (pa_cons pe_int (pa_cons pe_int pa_nil))) (nomark _)))))
          (pss_one (ps_expr (pe_bm0 PySem.F.plainAttrs_list PySem.F.slot_list_pop PySem.F.type_list_pop mt_pop (pv 1)))))
      <| pss_one (ps_ret (pe_callTy call_tuple_of (by rfl) T.tup boot_tuple (pa_cons (pv 1) pa_nil))), ?_⟩
    refine ⟨_, rfl, l, _, rfl, .inl hl, fun g ng => ?_⟩
    have e0 : Same H (upd H g (.lst (as.map V.ref))) := Same.new ng
    have hg : (upd H g (.lst (as.map V.ref))) g = some (.lst (as.map V.ref)) := upd_same
    generalize upd H g (.lst (as.map V.ref)) = H1 at e0 hg ⊢
    refine ⟨fun m σ H' => ∃ c : Nat, σ = [some (.ref l), some (.ref g)] ∧ Same H H' ∧ H' g = some (.lst ((as.take c).map V.ref)) ∧ m = c ∧ c ≤ p.length ∧ ∀ i, c ≤ i → p.getD i 0 = 0, ⟨p.length, p.length, rfl, e0, by rw [← lp, List.take_length]; exact hg, rfl, Nat.le_refl _, fun i hi => ?_⟩, ?_⟩
    · rw [List.getD_eq_getElem?_getD, List.getElem?_eq_none hi]; rfl
    · rintro m σ H' ⟨c, rfl, e, hg', em, hc, hz⟩
      have fr' : Frs K H' (as.take c) (p.take c) := paired_take c (hp.mono e)
      have fin : c = 0 ∨ p.getD (c - 1) 0 ≠ 0 → ∀ H2, Same H' H2 → tRet (tCB (fun xs H Q => ∃ p ys, xs = [V.ref p] ∧ ((SqL K H p ys ∧ ∀ l, H l = none → Q (.ref l) (upd H l (.tup ys))) ∨ (SqT K H p ys ∧ Q (.ref p) H))) (tCons (tVar 1) tNil)) { nx := fun x H' => Q V.non H', rt := Q } [some (.ref l), some (.ref g)] H2 := fun hd H2 e2 => by
        refine ⟨_, rfl, g, _, rfl, .inl ⟨SqL.new (e2 _ _ hg'), fun t ht => ?_⟩⟩
        have e3 : Same H2 (upd H2 t (.tup ((as.take c).map V.ref))) := Same.new ht
        exact q _ t _ (e.trans (e2.trans e3)) (tr_take hc hz hd) ⟨as.take c, SqT.new upd_same, fr'.mono (e2.trans e3)⟩
      refine ⟨_, rfl, Nat.zero_le _, fun n1 hn1 => ?_⟩
      have e1 : Same H' (upd H' n1 (.lst [])) := Same.new hn1
      refine ⟨_, _, fl_dp (SqL.new (e1 _ _ hg')) (fr'.mono e1), .lst (SqL.new upd_same) .nil, fl_shaped _, rfl, _, rfl, ?_⟩
      rw [fl_empty]
      generalize upd H' n1 (.lst []) = H2 at e1 ⊢
      have ltk : (p.take c).length = c := by rw [List.length_take]; omega
      by_cases c0 : c = 0
      · subst c0
        refine iteNS (by rw [List.take_zero]) ?_
        exact iteF (fin (.inl rfl) H2 e1)
      · have ne : p.take c ≠ [] := fun z => by rw [z, List.length_nil] at ltk; omega
        rw [decide_eq_false ne]
        refine iteT ?_
        have hg2 := e1 _ _ hg'
        have fr2 := fr'.mono e1
        obtain ⟨u, _, g1, g2⟩ := frs_get fr2 (i := c - 1) (by omega)
        have gl : (p.take c).getD (c - 1) 0 = p.getD (c - 1) 0 := by
          rw [List.getD_eq_getElem?_getD, List.getElem?_take, if_pos (by omega), ← List.getD_eq_getElem?_getD]
        rw [gl] at g2
        have lat : (as.take c).length = c := by rw [List.length_take]; omega
        refine ⟨_, rfl, _, rfl, g, _, _, .ref u, rfl, rfl, SqL.new hg2, ?_, ?_⟩
        · exact last_get (by rw [List.length_map, lat]; exact g1) (by rw [List.length_map]; omega)
        refine ⟨by show 2 ≤ sizeLine; decide, fun z nz => ?_⟩
        have e3 : Same H2 (upd H2 z (.tup [.int 0, .int 1])) := Same.new nz
        have fz : Fr K (upd H2 z (.tup [.int 0, .int 1])) z 0 := SqT.new upd_same
        have hg3 := e3 _ _ hg2
        have e03 := e1.trans e3
        refine ⟨_, _, fr_dp (g2.mono e3), fr_dp fz, rfl, rfl, _, rfl, ?_⟩
        rw [fr_eqv]
        refine ite_and (fun y => ?_) (fun y => ?_)
        · refine ⟨_, fun _ _ h => h, ?_⟩
          refine ⟨_, rfl, .inl ⟨rfl, _, SqL.new hg3⟩, g, _, .ref u, rfl, rfl, hg3, by rw [List.length_map, lat]; exact g1, ?_⟩
          refine ⟨c - 1, by omega, c - 1, rfl, Same.mut (e.trans e03) ng, ?_, rfl, by omega, fun i hi => ?_⟩
          · rw [upd_same, ← List.map_dropLast, List.dropLast_eq_take, List.take_take, lat, show min (c - 1) c = c - 1 by omega]
          · by_cases ic : i = c - 1
            · rw [ic]; exact of_decide_eq_true y
            · exact hz i (by omega)
        · exact fin (.inr (of_decide_eq_false y)) _ e03
end
end Bw

namespace Bw
open PySem PySem.Spec PyProof.Rows L2 Bz RT
section
variable {P : Program} {w : World} {K : PySem.W.Frag} {mg : Str → Option Value} {base : Heap}
abbrev NdE (r : Rat) : Prop := Nd 1000000000 1000000000 r
theorem Pen.tm {H H' : Hp} {p : Addr} {n : Nat} (h : Pen H p n) (e : SameX p H H') : TupS H H' := let ⟨l, hl⟩ := h.lst; e.tups hl
theorem fr_z {H : Hp} {t : Addr} (n : Int) (h : H t = some (.tup [.int n, .int 1])) : Fr K H t (n : Rat) := fr_int (SqT.new h)
theorem nd_int {n : Int} (h : n.natAbs ≤ 1000000000) : NdE (n : Rat) := ⟨h, by show 1 ≤ _; omega⟩
def spDrawEnd (K : PySem.W.Frag) : Sp := fun vs H Q _ => ∃ (p l : Addr) (n : Nat), vs = [.ref p, .ref l] ∧ Pen H p n ∧ n ≤ 700000 ∧ SqL K H l [] ∧ l ≠ p ∧ ∀ H' u r, SameX p H H' → Pen H' p (n + 17) → Fr K H' u r → NdE r → Q (.ref u) H'
theorem ok_law_draw_end {x : Str} (F : Has K mg x s_law_draw_end ["_law_pen", "_law_roots"]) (T : Txt P K mg base) (cS : Prom P w K mg base 42 "_law_draw_small" ["_law_pen"] (spDrawF K)) (cF : Prom P w K mg base 42 "_law_draw_fraction" ["_law_pen"] (spDrawF K)) (cO : Prom P w K mg base 41 "_law_one_of" ["_law_pen", "_law_some"] (spOneOf K)) : Prom P w K mg base 43 x ["_law_pen", "_law_roots"] (spDrawEnd K) := by
  refine F.prom sc_law_draw_end (fun vs H Q E h => ?_) (fun f cdv A outer s H vs Q E hr h => ?_)
  · obtain ⟨p, l, n, rfl, _⟩ := h; rfl
  · obtain ⟨p, l, n, rfl, hp, hn, hl, hlp, k⟩ := h
    refine ⟨_, pss_cons (ps_set (i := 2) sc_law_draw_end.nd rfl (.inl rfl) (pe_lst (pa_cons (pe_tup (pa_cons pe_int (pa_cons pe_int pa_nil))) (pa_cons (pe_tup (pa_cons pe_int (pa_cons pe_int pa_nil))) (pa_cons (pe_tup (pa_cons pe_int (pa_cons pe_int pa_nil))) (pa_cons (pe_tup (pa_cons (pe_un un_neg pe_int) (pa_cons pe_int pa_nil)))
          (pa_cons (pe_ca cS hr (pa_cons (pv 0) pa_nil)) (pa_cons (pe_ca cF hr (pa_cons (pv 0) pa_nil)) pa_nil))))))))
      <| pss_cons (ps_if (pt_cmpR (op_neD hr.units) (pv 1) (pe_lst pa_nil) (nomark _)) pss_dead pss_nil)
      <| pss_one (ps_ret (pe_ca cO (hr.mono (by decide)) (pa_cons (pv 0) (pa_cons (pv 2) pa_nil)))), ?_⟩
    refine ⟨by show 2 ≤ sizeLine; decide, fun t1 m1 => ?_⟩
    have e1 : Same H (upd H t1 (.tup [.int 0, .int 1])) := Same.new m1
    have f1 := fr_z (K := K) (H := upd H t1 (.tup [.int 0, .int 1])) 0 upd_same
    generalize upd H t1 (.tup [.int 0, .int 1]) = H1 at e1 f1 ⊢
    refine ⟨by show 2 ≤ sizeLine; decide, fun t2 m2 => ?_⟩
    have e2 : Same H1 (upd H1 t2 (.tup [.int 1, .int 1])) := Same.new m2
    have f2 := fr_z (K := K) (H := upd H1 t2 (.tup [.int 1, .int 1])) 1 upd_same
    generalize upd H1 t2 (.tup [.int 1, .int 1]) = H2 at e2 f2 ⊢
    refine ⟨by show 2 ≤ sizeLine; decide, fun t3 m3 => ?_⟩
    have e3 : Same H2 (upd H2 t3 (.tup [.int 4, .int 1])) := Same.new m3
    have f3 := fr_z (K := K) (H := upd H2 t3 (.tup [.int 4, .int 1])) 4 upd_same
    generalize upd H2 t3 (.tup [.int 4, .int 1]) = H3 at e3 f3 ⊢
    refine ⟨_, rfl, by show 2 ≤ sizeLine; decide, fun t4 m4 => ?_⟩
    have e4 : Same H3 (upd H3 t4 (.tup [.int (-4), .int 1])) := Same.new m4
    have f4 := fr_z (K := K) (H := upd H3 t4 (.tup [.int (-4), .int 1])) (-4) upd_same
    generalize upd H3 t4 (.tup [.int (-4), .int 1]) = H4 at e4 f4 ⊢
    have e04 := e1.trans (e2.trans (e3.trans e4))
    have hp4 := hp.mono e04
    refine ⟨_, rfl, p, n, rfl, hp4, by omega, fun H5 u5 r5 s5 p5 g5 d5 => ?_⟩
    refine ⟨_, rfl, p, n + 8, rfl, p5, by omega, fun H6 u6 r6 s6 p6 g6 d6 => ?_⟩
    refine ⟨by show 6 ≤ sizeLine; decide, fun l7 m7 => ?_⟩
    have e7 : Same H6 (upd H6 l7 (.lst [.ref t1, .ref t2, .ref t3, .ref t4, .ref u5, .ref u6])) := Same.new m7
    have h7 : (upd H6 l7 (.lst [.ref t1, .ref t2, .ref t3, .ref t4, .ref u5, .ref u6])) l7 = some (.lst [.ref t1, .ref t2, .ref t3, .ref t4, .ref u5, .ref u6]) := upd_same
    have ne7 := p6.ne m7
    generalize upd H6 l7 (.lst [.ref t1, .ref t2, .ref t3, .ref t4, .ref u5, .ref u6]) = H7 at e7 h7 ⊢
    have m56 := (hp4.tm s5).trans ((p5.tm s6).trans e7.tups)
    have s07 : SameX p H H7 := (SameX.of e04).trans (s5.trans (s6.trans (.of e7)))
    have hl7 := s07.sql hlp hl
    refine ⟨_, rfl, Nat.zero_le _, fun l8 m8 => ?_⟩
    have e8 : Same H7 (upd H7 l8 (.lst [])) := Same.new m8
    refine ⟨_, _, .lst (Same.seq e8 hl7) .nil, .lst (SqL.new upd_same) .nil, rfl, rfl, _, rfl, ?_⟩
    refine iteF ?_
    refine ⟨_, rfl, _, rfl, p, l7, n + 16, _, fun v => ∃ u r, v = .ref u ∧ Fr K (upd H7 l8 (.lst [])) u r ∧ NdE r, rfl, p6.mono (e7.trans e8), by omega, SqL.new (e8 _ _ h7), ne7, by show 0 < 6; decide, fun x hx => ?_, fun H9 v s9 p9 hv => ?_⟩
    · simp only [List.mem_cons, List.not_mem_nil, or_false] at hx
      have m48 := m56.trans e8.tups
      have m38 := e4.tups.trans m48
      have m28 := e3.tups.trans m38
      have m18 := e2.tups.trans m28
      rcases hx with hx | hx | hx | hx | hx | hx
      · exact ⟨_, _, hx, f1.tm m18, nd_int (by decide)⟩
      · exact ⟨_, _, hx, f2.tm m28, nd_int (by decide)⟩
      · exact ⟨_, _, hx, f3.tm m38, nd_int (by decide)⟩
      · exact ⟨_, _, hx, f4.tm m48, nd_int (by decide)⟩
      · exact ⟨_, _, hx, g5.tm ((p5.tm s6).trans (e7.tups.trans e8.tups)), d5⟩
      · exact ⟨_, _, hx, g6.mono (e7.trans e8), d6⟩
    obtain ⟨u, r, rfl, fu, du⟩ := hv
    exact k H9 u r (s07.trans ((SameX.of e8).trans s9)) p9 (fu.tm ((p6.mono (e7.trans e8)).tm s9)) du
/-! ### the ends of an interval -/
structure EndOk (r : Rat) : Prop where
  l : -(2 ^ 31 : Rat) ≤ r
  h : r ≤ 2 ^ 31
  d : r.den ≤ 100000000000
  b : Bt 100 r
theorem end_of {r : Rat} (h : NdE r) : EndOk r := by
  obtain ⟨b1, b2⟩ := h.bd
  have e : ((1000000000 : Nat) : Rat) ≤ 2 ^ 31 := by decide +kernel
  exact ⟨by grind, by grind, by have := h.2; omega, h.lo (by decide) (by decide)⟩
theorem end_add {r x : Rat} (h : NdE r) (x0 : 0 < x) (x9 : x ≤ 9) (xd : x.den ≤ 100) (xb : Bt 10 x) : EndOk (r + x) := by
  obtain ⟨b1, b2⟩ := h.bd
  have e : ((1000000000 : Nat) : Rat) + 9 ≤ 2 ^ 31 := by decide +kernel
  have e2 : -(2 ^ 31 : Rat) ≤ -((1000000000 : Nat) : Rat) := by decide +kernel
  refine ⟨by grind, by grind, ?_, ?_⟩
  · rw [← rat_add]
    have h2 := (num_dvd (t := r.num * (x.den : Nat) + x.num * (r.den : Nat)) (b := (r.den : Nat) * (x.den : Nat)) (Int.mul_ne_zero (by have := den_pos' r; omega) (by have := den_pos' x; omega))).2
    rw [Int.natAbs_mul, Int.natAbs_natCast, Int.natAbs_natCast] at h2
    have := Nat.mul_le_mul h.2 xd
    omega
  · have hb : Bt 40 r := ⟨Nat.lt_of_le_of_lt h.1 (by decide), Nat.lt_of_le_of_lt h.2 (by decide)⟩
    exact (hb.add xb).mono (by decide)
theorem gr_ends {lo hi : Rat} (a : EndOk lo) (b : EndOk hi) : Bd.Gr 74 lo hi := by
  refine ⟨a.l, a.h, b.l, b.h, lo.den * hi.den, Nat.mul_pos lo.den_pos hi.den_pos, ?_, lo.num * hi.den, hi.num * lo.den, ?_, ?_⟩
  · have := Nat.mul_le_mul a.d b.d
    exact Nat.lt_of_le_of_lt this (by decide)
  · rw [Rat.natCast_mul, Rat.intCast_mul, ← Bd.mul_den, Rat.intCast_natCast]; grind
  · rw [Rat.natCast_mul, Rat.intCast_mul, ← Bd.mul_den hi, Rat.intCast_natCast]; grind
def spDrawInterval (K : PySem.W.Frag) : Sp := fun vs H Q _ => ∃ (p l : Addr) (n : Nat), vs = [.ref p, .ref l] ∧ Pen H p n ∧ n ≤ 600000 ∧ SqL K H l [] ∧ l ≠ p ∧ ∀ H' u lo hi, SameX p H H' → Pen H' p (n + 35) → Iv K H' u lo hi → lo < hi → EndOk lo → EndOk hi → Q (.ref u) H'
theorem ok_law_draw_interval {x : Str} (F : Has K mg x s_law_draw_interval ["_law_pen", "_law_roots"]) (T : Txt P K mg base) (cE : Prom P w K mg base 43 "_law_draw_end" ["_law_pen", "_law_roots"] (spDrawEnd K)) (cP : Prom P w K mg base 41 "_law_plus" ["_law_a", "_law_b"] (spPlus K)) (cO : Prom P w K mg base 41 "_law_one_of" ["_law_pen", "_law_some"] (spOneOf K)) (cL : Prom P w K mg base 1 "_law_is_less" ["_law_a", "_law_b"] (spIsLess K)) : Prom P w K mg base 44 x ["_law_pen", "_law_roots"] (spDrawInterval K) := by
  refine F.prom sc_law_draw_interval (fun vs H Q E h => ?_) (fun f cdv A outer s H vs Q E hr h => ?_)
  · obtain ⟨p, l, n, rfl, _⟩ := h; rfl
  · obtain ⟨p, l, n, rfl, hp, hn, hl, hlp, k⟩ := h
    refine ⟨_, pss_cons (ps_par (i := 2) (j := 3) (by rfl) sc_law_draw_interval.nd rfl rfl (by decide) rfl rfl (pa_cons (pe_ca cE hr (pa_cons (pv 0) (pa_cons (pv 1) pa_nil))) (pa_cons (pe_ca cE hr (pa_cons (pv 0) (pa_cons (pv 1) pa_nil))) pa_nil)) (by rfl))
      <| pss_cons (ps_if (pt_cmpR (op_eqD hr.units) (pv 2) (pv 3) (nomark _)) (pss_one (ps_set (i := 3) sc_law_draw_interval.nd rfl (.inl rfl) (pe_ca cP (hr.mono (by decide)) (pa_cons (pv 2) (pa_cons (pe_ca cO (hr.mono (by decide)) (pa_cons (pv 0) (pa_cons (pe_lst (pa_cons (pe_tup (pa_cons pe_int (pa_cons pe_int pa_nil))) (pa_cons (pe_tup (pa_cons pe_int (pa_cons pe_int pa_nil))) (pa_cons (pe_tup (pa_cons pe_int (pa_cons pe_int pa_nil))) pa_nil)))) pa_nil))) pa_nil))))) pss_nil)
      <| pss_one (ps_ret (pe_ifExp (pt_val (pe_ca cL (hr.mono (by decide)) (pa_cons (pv 2) (pa_cons (pv 3) pa_nil)))) (pe_tup (pa_cons (pv 2) (pa_cons (pv 3) pa_nil))) (pe_tup (pa_cons (pv 3) (pa_cons (pv 2) pa_nil))))), ?_⟩
    refine ⟨_, rfl, _, rfl, p, l, n, rfl, hp, by omega, hl, hlp, fun H1 u1 r1 s1 p1 f1 d1 => ?_⟩
    refine ⟨_, rfl, _, rfl, p, l, n + 17, rfl, p1, by omega, s1.sql hlp hl, hlp, fun H2 u2 r2 s2 p2 f2 d2 => ?_⟩
    refine ⟨_, _, rfl, ?_⟩
    have f1 := f1.tm (p1.tm s2)
    have s02 := s1.trans s2
    have b1 := (end_of d1).b
    -- the last step
    have fin : ∀ (H3 : Hp) (u : Addr) (r : Rat), SameX p H H3 → Pen H3 p (n + 35) → Fr K H3 u1 r1 → Fr K H3 u r → EndOk r → r1 ≠ r → tRet (tIf (tB (tCall (spIsLess K) [] E0 (tCons (tVar 2) (tCons (tVar 3) tNil)))) (tTup (tCons (tVar 2) (tCons (tVar 3) tNil))) (tTup (tCons (tVar 3) (tCons (tVar 2) tNil)))) { nx := fun x H' => Q V.non H', rt := Q } [some (.ref p), some (.ref l), some (.ref u1), some (.ref u)] H3 := by
      intro H3 u r s3 p3 g1 g er ne
      refine ⟨_, rfl, _, rfl, u1, u, r1, r, rfl, g1, g, b1.lo (by decide), er.b.lo (by decide), _, rfl, ?_⟩
      refine ite_and (fun z => ?_) (fun z => ?_)
      · refine ⟨_, rfl, _, rfl, by show 2 ≤ sizeLine; decide, fun t nt => ?_⟩
        have e4 : Same H3 (upd H3 t (.tup [.ref u1, .ref u])) := Same.new nt
        exact k _ t r1 r (s3.trans (.of e4)) (p3.mono e4) ⟨u1, u, SqT.new upd_same, g1.mono e4, g.mono e4⟩ (of_decide_eq_true z) (end_of d1) er
      · refine ⟨_, rfl, _, rfl, by show 2 ≤ sizeLine; decide, fun t nt => ?_⟩
        have e4 : Same H3 (upd H3 t (.tup [.ref u, .ref u1])) := Same.new nt
        exact k _ t r r1 (s3.trans (.of e4)) (p3.mono e4) ⟨u, u1, SqT.new upd_same, g.mono e4, g1.mono e4⟩ (by have := of_decide_eq_false z; grind) er (end_of d1)
    refine ⟨_, rfl, _, rfl, _, _, fr_dp f1, fr_dp f2, rfl, rfl, _, rfl, ?_⟩
    rw [fr_eqv]
    refine ite_and (fun z => ?_) (fun z => ?_)
    · refine ⟨_, rfl, _, rfl, by show 2 ≤ sizeLine; decide, fun t1 m1 => ?_⟩
      have e1 : Same H2 (upd H2 t1 (.tup [.int 1, .int 1])) := Same.new m1
      have g1 := fr_z (K := K) (H := upd H2 t1 (.tup [.int 1, .int 1])) 1 upd_same
      generalize upd H2 t1 (.tup [.int 1, .int 1]) = H3 at e1 g1 ⊢
      refine ⟨by show 2 ≤ sizeLine; decide, fun t2 m2 => ?_⟩
      have e2 : Same H3 (upd H3 t2 (.tup [.int 1, .int 100])) := Same.new m2
      have e100 : (1 / 100 : Rat).num = 1 ∧ (1 / 100 : Rat).den = 100 := by decide +kernel
      have g2 : Fr K (upd H3 t2 (.tup [.int 1, .int 100])) t2 (1 / 100) := by
        unfold Fr
        rw [e100.1, e100.2]
        exact SqT.new upd_same
      generalize upd H3 t2 (.tup [.int 1, .int 100]) = H4 at e2 g2 ⊢
      refine ⟨by show 2 ≤ sizeLine; decide, fun t3 m3 => ?_⟩
      have e3 : Same H4 (upd H4 t3 (.tup [.int 9, .int 1])) := Same.new m3
      have g3 := fr_z (K := K) (H := upd H4 t3 (.tup [.int 9, .int 1])) 9 upd_same
      generalize upd H4 t3 (.tup [.int 9, .int 1]) = H5 at e3 g3 ⊢
      refine ⟨by show 3 ≤ sizeLine; decide, fun l6 m6 => ?_⟩
      have e6 : Same H5 (upd H5 l6 (.lst [.ref t1, .ref t2, .ref t3])) := Same.new m6
      have e26 := e1.trans (e2.trans (e3.trans e6))
      have p6 := p2.mono e26
      refine ⟨p, l6, n + 34, _, fun v => ∃ u x, v = .ref u ∧ Fr K (upd H5 l6 (.lst [.ref t1, .ref t2, .ref t3])) u x ∧ 0 < x ∧ x ≤ 9 ∧ x.den ≤ 100 ∧ Bt 10 x, rfl, p6, by omega, SqL.new upd_same, (p2.mono (e1.trans (e2.trans e3))).ne m6, by show 0 < 3; decide, fun x hx => ?_, fun H7 v s7 p7 hv => ?_⟩
      · simp only [List.mem_cons, List.not_mem_nil, or_false] at hx
        rcases hx with hx | hx | hx
        · exact ⟨_, _, hx, g1.mono (e2.trans (e3.trans e6)), by decide +kernel, by decide +kernel, by decide +kernel, by decide +kernel, by decide +kernel⟩
        · exact ⟨_, _, hx, g2.mono (e3.trans e6), by decide +kernel, by decide +kernel, by decide +kernel, by decide +kernel, by decide +kernel⟩
        · exact ⟨_, _, hx, g3.mono e6, by decide +kernel, by decide +kernel, by decide +kernel, by decide +kernel, by decide +kernel⟩
      obtain ⟨u, x, rfl, fu, x0, x9, xd, xb⟩ := hv
      have m7 := p6.tm s7
      have f17 := (f1.mono e26).tm m7
      refine ⟨u1, u, r1, x, rfl, f17, fu.tm m7, b1.lo (by decide), xb.lo (by decide), trivial, fun H8 v e8 fv => ?_⟩
      exact fin H8 v _ (s02.trans ((SameX.of e26).trans (s7.trans (.of e8)))) ((p7.mono e8).le (by omega)) (f17.mono e8) fv (end_add d1 x0 x9 xd xb) (by grind)
    · exact fin H2 u2 r2 s02 (p2.le (by omega)) f1 f2 (end_of d2) (of_decide_eq_false z)
end
end Bw

namespace Bw
open PySem PySem.Spec PyProof.Rows L2 Bz RT
section
variable {P : Program} {w : World} {K : PySem.W.Frag} {mg : Str → Option Value} {base : Heap}
theorem trim_ib {p r : List Rat} {M : Nat} (h : Bd.Ib M p) (t : Bd.TrimOf p r) : Bd.Ib M r := h.sub fun a ha => t.mem ha
def spDrawPlain (K : PySem.W.Frag) : Sp := fun vs H Q _ => ∃ (p : Addr) (m : Int) (n : Nat), vs = [.ref p, .int m] ∧ 0 < m ∧ m ≤ 6 ∧ Pen H p n ∧ n ≤ 600000 ∧ ∀ H' u q, SameX p H H' → Pen H' p (n + 8) → Po K H' u q → PolyS q → Q (.ref u) H'
theorem poly3 : PolyS [-2, 0, 1] := ⟨.inr ⟨[-2, 0], 1, rfl, by decide⟩, by simp, fun r hr => by
  simp only [List.mem_cons, List.not_mem_nil, or_false] at hr
  rcases hr with rfl | rfl | rfl
  · exact ⟨-2, by decide +kernel, by decide⟩
  · exact ⟨0, by decide +kernel, by decide⟩
  · exact ⟨1, by decide +kernel, by decide⟩, by decide⟩
theorem ok_law_draw_plain {x : Str} (F : Has K mg x s_law_draw_plain ["_law_pen", "_law_most"]) (T : Txt P K mg base) (cT : Prom P w K mg base 40 "_law_take" ["_law_pen", "_law_amount"] spTake) (cM : Prom P w K mg base 1 "_law_trimmed" ["_law_some"] (spTrimmed K)) : Prom P w K mg base 41 x ["_law_pen", "_law_most"] (spDrawPlain K) := by
  refine F.prom sc_law_draw_plain (fun vs H Q E h => ?_) (fun f cdv A outer s H vs Q E hr h => ?_)
  · obtain ⟨p, m, n, rfl, _⟩ := h; rfl
  · obtain ⟨p, m, n, rfl, hm, hm6, hp, hn, k⟩ := h
    refine ⟨_, pss_cons (ps_set (i := 2) sc_law_draw_plain.nd rfl (.inl rfl) (pe_ca cM (hr.mono (by decide)) (pa_cons (pe_lc (own := [("_law_k", 3)]) (g := gName 3) (tt := tYes) rfl sc_law_draw_plain.nd (pi_range1 (by rfl) T.rng (pa_cons (pe_op op_add pe_int (pe_ca cT hr (pa_cons (pv 0) (pa_cons (pv 1) pa_nil)))) pa_nil)) (blkOk_by (N := ["_law_pen", "_law_most", "_law_found", "_law_k"]) (sc := defScope s_law_draw_plain) (by decide +kernel))
        (fun _ _ _ _ _ => pg_name (i := 3) sc_law_draw_plain.nd rfl (Or.inl rfl)) (fun _ _ _ _ _ => pts_nil) (fun _ _ _ _ _ => pe_tup (pa_cons (pe_op op_sub (pe_ca cT hr (pa_cons (pv 0) (pa_cons pe_int pa_nil))) pe_int) (pa_cons pe_int pa_nil)))) pa_nil)))
      <| pss_one (ps_ret (pe_ifExp (pt_cmpR (op_neD hr.units) (pv 2) (pe_tup pa_nil) (nomark _)) (pv 2) (pe_tup (pa_cons (pe_tup (pa_cons (pe_un un_neg pe_int) (pa_cons pe_int pa_nil))) (pa_cons (pe_tup (pa_cons pe_int (pa_cons pe_int pa_nil))) (pa_cons (pe_tup (pa_cons pe_int (pa_cons pe_int pa_nil))) pa_nil)))))), ?_⟩
    refine ⟨_, rfl, _, rfl, p, m, n, rfl, hm, hp, by omega, fun H1 r s1 p1 r0 r1 => ?_⟩
    refine ⟨_, _, rfl, rfl, _, rfl, by omega, by omega, fun D nD => ?_⟩
    have nDp : D ≠ p := p1.ne nD
    have nDe : ∀ {a : Addr} {u : HO}, H1 a = some u → a ≠ D := fun h => ne_some h nD
    refine lc_it walk_range (fun i H' => SameX p H1 H' ∧ Pen H' p (n + 1 + i) ∧ ∃ (as : List Addr) (q : List Rat), H' D = some (.lst (as.map V.ref)) ∧ Frs K H' as q ∧ q.length = i ∧ Bd.Ib 6 q) ?_ (fun _ _ _ _ => trivial) ?_ ?_
    · refine ⟨.of (Same.new nD), (p1.mono (Same.new nD)).le (by omega), [], [], upd_same, .nil, rfl, fun r hr => by cases hr⟩
    · rintro i v H2 H3 hi ⟨s2, p2, as, q, hD, hq, lq, ib⟩ ⟨rfl, rfl⟩
      refine ⟨rfl, ?_⟩
      refine ⟨_, rfl, p, 13, n + 1 + i, rfl, by decide, p2, by omega, fun H4 c s4 p4 c0 c1 => ?_⟩
      refine ⟨_, _, rfl, rfl, by show 2 ≤ sizeLine; decide, fun t nt => ?_⟩
      have e5 : Same H4 (upd H4 t (.tup [.int (c - 6), .int 1])) := Same.new nt
      have ft := fr_z (K := K) (H := upd H4 t (.tup [.int (c - 6), .int 1])) (c - 6) upd_same
      have hD4 := e5 _ _ (s4.1 _ _ nDp hD)
      have m25 := (p2.tm s4).trans e5.tups
      have hq5 := hq.tm m25
      have p5 := p4.mono e5
      have s5 : SameX p H1 (upd H4 t (.tup [.int (c - 6), .int 1])) := s2.trans (s4.trans (.of e5))
      generalize upd H4 t (.tup [.int (c - 6), .int 1]) = H5 at ft hD4 m25 hq5 p5 s5 ⊢
      refine ⟨_, hD4, ?_, ⟨fun a u na ha => ?_, fun c' v' w' hc' => ?_⟩, ?_, as ++ [t], q ++ [((c - 6 : Int) : Rat)], ?_, ?_, ?_, ?_⟩
      · rw [List.length_map, paired_len hq]
        exact Nat.lt_of_le_of_lt (show q.length ≤ 100 by omega) (by decide)
      · rw [upd_ne (nDe ha)]
        exact s5.1 a u na ha
      · obtain ⟨v2, w2, h2⟩ := s5.2 c' v' w' hc'
        exact ⟨v2, w2, by rw [upd_ne (Ne.symm nDp)]; exact h2⟩
      · exact (p1.upd s5 p5 nD).le (by omega)
      · rw [upd_same, List.map_append]
        rfl
      · have tl := TupS.lst (o := .lst (as.map V.ref ++ [.ref t])) hD4
        exact paired_app (hq5.tm tl) (.cons (ft.tm tl) .nil)
      · rw [List.length_append, List.length_singleton, lq]
      · intro z hz
        rcases List.mem_append.mp hz with y | y
        · exact ib z y
        · obtain rfl := List.mem_singleton.mp y
          exact ⟨c - 6, rfl, by omega⟩
    · rintro H2 ⟨s2, p2, as, q, hD, hq, lq, ib⟩
      have l7 : q.length ≤ 7 := by omega
      refine ⟨D, as, q, rfl, SqL.new hD, hq, by omega, fun H3 t z e3 tr hz => ?_⟩
      have s03 : SameX p H H3 := s1.trans (s2.trans (.of e3))
      have p3 := (p2.mono e3).le (n := n + 8) (by omega)
      refine ⟨_, rfl, Nat.zero_le _, fun n4 m4 => ?_⟩
      have e4 : Same H3 (upd H3 n4 (.tup [])) := Same.new m4
      have hz4 := hz.mono e4
      refine ⟨_, _, po_dp hz4, .tup (SqT.new upd_same) .nil, po_shaped _, rfl, _, rfl, ?_⟩
      rw [po_empty]
      have s04 := s03.trans (.of e4)
      have p4 := p3.mono e4
      generalize upd H3 n4 (.tup []) = H4 at e4 hz4 s04 p4 ⊢
      by_cases ze : z = []
      · refine iteNS ze ?_
        refine ⟨_, rfl, by show 2 ≤ sizeLine; decide, fun t1 m1 => ?_⟩
        have e1 : Same H4 (upd H4 t1 (.tup [.int (-2), .int 1])) := Same.new m1
        have g1 := fr_z (K := K) (H := upd H4 t1 (.tup [.int (-2), .int 1])) (-2) upd_same
        generalize upd H4 t1 (.tup [.int (-2), .int 1]) = H5 at e1 g1 ⊢
        refine ⟨by show 2 ≤ sizeLine; decide, fun t2 m2 => ?_⟩
        have e2 : Same H5 (upd H5 t2 (.tup [.int 0, .int 1])) := Same.new m2
        have g2 := fr_z (K := K) (H := upd H5 t2 (.tup [.int 0, .int 1])) 0 upd_same
        generalize upd H5 t2 (.tup [.int 0, .int 1]) = H6 at e2 g2 ⊢
        refine ⟨by show 2 ≤ sizeLine; decide, fun t3 m3 => ?_⟩
        have e3' : Same H6 (upd H6 t3 (.tup [.int 1, .int 1])) := Same.new m3
        have g3 := fr_z (K := K) (H := upd H6 t3 (.tup [.int 1, .int 1])) 1 upd_same
        generalize upd H6 t3 (.tup [.int 1, .int 1]) = H7 at e3' g3 ⊢
        refine ⟨by show 3 ≤ sizeLine; decide, fun t4 m4 => ?_⟩
        have e4' : Same H7 (upd H7 t4 (.tup [.ref t1, .ref t2, .ref t3])) := Same.new m4
        have e47 := e1.trans (e2.trans (e3'.trans e4'))
        exact k _ t4 [-2, 0, 1] (s04.trans (.of e47)) (p4.mono e47) ⟨[t1, t2, t3], SqT.new upd_same, .cons (g1.mono (e2.trans (e3'.trans e4'))) (.cons (g2.mono (e3'.trans e4')) (.cons (g3.mono e4') .nil))⟩ poly3
      · rw [decide_eq_false ze]
        refine iteT ⟨_, rfl, ?_⟩
        exact k H4 t z s04 p4 hz4 ⟨tr.tr, ze, trim_ib ib tr, by have := tr.le; omega⟩
end
end Bw

namespace Bw
open PySem PySem.Spec PyProof.Rows L2 Bz RT
theorem bls_pr2 {f : Nat → Bool} : ∀ {l : List Nat} {bs : List V}, Paired (fun i v => v = V.bl (f i)) l bs → bs = (l.map f).map V.bl
  | _, _, .nil => rfl
  | _, _, .cons e t => by rw [e, bls_pr2 t]; rfl
theorem b_get (l : List Bool) {i : Nat} (h : i < l.length) : (l.map V.bl)[i]? = some (.bl (l.getD i false)) := by
  rw [List.getElem?_map, List.getD_eq_getElem?_getD, List.getElem?_eq_getElem h]
  rfl
section
variable {P : Program} {w : World} {K : PySem.W.Frag} {mg : Str → Option Value} {base : Heap}
def spSignsRight (K : PySem.W.Frag) : Sp := fun vs H Q _ => ∃ (a b c : Addr) (p : List Rat) (lo hi : Rat), vs = [.ref a, .ref b, .ref c] ∧ Po K H a p ∧ Fr K H b lo ∧ Fr K H c hi ∧ PolyS p ∧ lo < hi ∧ EndOk lo ∧ EndOk hi ∧ ∀ H', Same H H' → Q (.bl true) H'
theorem ok_law_signs_right {x : Str} (F : Has K mg x s_law_signs_right ["_law_p", "_law_low", "_law_high"]) (T : Txt P K mg base) (cM : Prom P w K mg base 41 "_law_minus" ["_law_a", "_law_b"] (spMinus K)) (cO : Prom P w K mg base 41 "_law_over" ["_law_a", "_law_b"] (spLOver K)) (cP : Prom P w K mg base 41 "_law_plus" ["_law_a", "_law_b"] (spPlus K)) (cT : Prom P w K mg base 41 "_law_times" ["_law_a", "_law_b"] (spTimes K))
    (cV : Prom P w K mg base 42 "value_at" ["p", "x"] (spValueAt K)) (cR : Prom P w K mg base 46 "count_roots" ["p", "interval"] (spCountRoots K)) : Prom P w K mg base 47 x ["_law_p", "_law_low", "_law_high"] (spSignsRight K) := by
  refine F.prom sc_law_signs_right (fun vs H Q E h => ?_) (fun f cdv A outer s H vs Q E hr h => ?_)
  · obtain ⟨a, b, c, p, lo, hi, rfl, _⟩ := h; rfl
  · obtain ⟨a, b, c, p, lo, hi, rfl, hp, f1, f2, S, lt, e1, e2, k⟩ := h
    refine ⟨_, pss_cons (ps_set (i := 3) sc_law_signs_right.nd rfl (.inr rfl) (pe_ca cO (hr.mono (by decide)) (pa_cons (pe_ca cM (hr.mono (by decide)) (pa_cons (pv 2) (pa_cons (pv 1) pa_nil))) (pa_cons (pe_tup (pa_cons pe_int (pa_cons pe_int pa_nil))) pa_nil))))
      <| pss_cons (ps_setLc (i := 4) (own := [("_law_k", 5)]) (g := gName 5) (tt := tYes) (te := tOp (rIxT K) (tCall (spValueAt K) [] E0 (tCons (tVar 0) (tCons (tCall (spPlus K) [] E0 (tCons (tVar 1) (tCons (tCall (spTimes K) [] E0 (tCons (tVar 3) (tCons (tTup (tCons (tVar 5) (tCons (tC (.int 1)) tNil))) tNil))) tNil))) tNil))) (tC (.int 0))) rfl sc_law_signs_right.nd rfl rfl (sw_true rfl rfl rfl rfl) (pi_range1 (by rfl) T.rng (pa_cons pe_int pa_nil)) (blkOk_by (N := ["_law_p", "_law_low", "_law_high", "_law_step", "_law_heights", "_law_k", "_law_signs", "_law_one"]) (sc := defScope s_law_signs_right) (by decide +kernel))
        (fun _ _ _ _ _ => pg_name (i := 5) sc_law_signs_right.nd rfl (Or.inl rfl)) (fun _ _ _ _ _ => pts_nil) (fun _ _ _ _ _ => pT0 (pe_ca cV (hr.mono (by decide)) (pa_cons (pv 0) (pa_cons (pe_ca cP (hr.mono (by decide)) (pa_cons (pv 1) (pa_cons (pe_ca cT (hr.mono (by decide)) (pa_cons (pv 3) (pa_cons (pe_tup (pa_cons (pv 5) (pa_cons pe_int pa_nil))) pa_nil))) pa_nil))) pa_nil)))))
      <| pss_cons (ps_set (i := 6) sc_law_signs_right.nd rfl (.inr rfl) (pe_lc (own := [("_law_one", 7)]) (g := gName 7) (tt := tTest (tOp rNe (tVar 7) (tC (.int 0)))) (te := tOp (rI0 fun i j => .bl (decide (j < i))) (tVar 7) (tC (.int 0))) rfl sc_law_signs_right.nd (pi_list (pv 4)) (blkOk_by (N := ["_law_p", "_law_low", "_law_high", "_law_step", "_law_heights", "_law_k", "_law_signs", "_law_one"]) (sc := defScope s_law_signs_right) (by decide +kernel))
        (fun _ _ _ _ _ => pg_name (i := 7) sc_law_signs_right.nd rfl (Or.inl rfl)) (fun _ _ _ _ _ => pts_one (pt_cmpR op_ne (pv 7) pe_int (nomark _))) (fun _ _ _ _ _ => pe_cmpR op_gt (pv 7) pe_int (nomark _))))
      <| pss_one (ps_ret (pe_cmpR op_le (pe_callB call_len_seq (by rfl) T.len boot_len (pa_cons (pe_lc (own := [("_law_k", 5)]) (g := gName 5) (tt := tTest (tOp rNe (tOp (rIxL K) (tVar 6) (tVar 5)) (tOp (rIxL K) (tVar 6) (tOp (rI0 fun i j => .int (i - j)) (tVar 5) (tC (.int 1)))))) (te := tVar 5) rfl sc_law_signs_right.nd (pi_range2 (by rfl) T.rng (pa_cons pe_int (pa_cons (pe_callB call_len_seq (by rfl) T.len boot_len (pa_cons (pv 6) pa_nil)) pa_nil))) (blkOk_by (N := ["_law_p", "_law_low", "_law_high", "_law_step", "_law_heights", "_law_k", "_law_signs", "_law_one"]) (sc := defScope s_law_signs_right) (by decide +kernel))
        (fun _ _ _ _ _ => pg_name (i := 5) sc_law_signs_right.nd rfl (Or.inl rfl)) (fun _ _ _ _ _ => pts_one (pt_cmpR op_ne (pe_ix ix_list (pv 6) (pv 5) (fun _ _ => rfl)) (pe_ix ix_list (pv 6) (pe_op op_sub (pv 5) pe_int) (fun _ _ => rfl)) (nomark _))) (fun _ _ _ _ _ => pv 5)) pa_nil)) (pe_ca cR hr (pa_cons (pv 0) (pa_cons (pe_tup (pa_cons (pv 1) (pa_cons (pv 2) pa_nil))) pa_nil))) (nomark _))), ?_⟩
    refine ⟨_, rfl, _, rfl, c, b, hi, lo, rfl, f2, f1, e2.b.lo (by decide), e1.b.lo (by decide), trivial, fun H1 d1 s1 g1 => ?_⟩
    dsimp only at g1
    refine ⟨by show 2 ≤ sizeLine; decide, fun t nt => ?_⟩
    have s2 : Same H1 (upd H1 t (.tup [.int 12, .int 1])) := Same.new nt
    have g12 := fr_z (K := K) (H := upd H1 t (.tup [.int 12, .int 1])) 12 upd_same
    generalize upd H1 t (.tup [.int 12, .int 1]) = H2 at s2 g12 ⊢
    have bd : Bt 201 (hi - lo) := by
      have := e2.b.add e1.b.neg
      rw [show hi + -lo = hi - lo by grind] at this
      exact this
    have b12 : Bt 5 ((12 : Int) : Rat) := ⟨by decide, by decide⟩
    refine ⟨d1, t, hi - lo, ((12 : Int) : Rat), rfl, g1.mono s2, g12, bd.lo (by decide), b12.lo (by decide), (by show (0 : Int) < 12; decide), fun H3 st s3 g3 => ?_⟩
    dsimp only at g3
    have e12 : ((12 : Int) : Rat) = 12 := rfl
    have bs := bd.div b12 (by decide)
    rw [e12] at g3 bs
    have s03 := s1.trans (s2.trans s3)
    -- heights
    refine ⟨_, rfl, by decide, by decide, fun D1 n1 => ?_⟩
    refine lc_map (walk_range (lo := 0) (n := Int.toNat 13)) (fun i v H => v = .int (Bd.evr p (lo + (hi - lo) / 12 * ((i : Int) : Rat))).num) int_rel n1 (by decide) (fun _ _ => trivial) ?_ g_mono ?_
    · rintro i v H4 H5 hi' e4 ⟨rfl, rfl⟩ Q1 hq
      have hi' : i < 13 := hi'
      refine ⟨rfl, ?_⟩
      have s04 := s03.trans e4
      refine ⟨_, rfl, _, rfl, _, rfl, _, rfl, by show 2 ≤ sizeLine; decide, fun t5 nt5 => ?_⟩
      have e5 : Same H5 (upd H5 t5 (.tup [.int (0 + (i : Nat)), .int 1])) := Same.new nt5
      have gk := fr_z (K := K) (H := upd H5 t5 (.tup [.int (0 + (i : Nat)), .int 1])) (0 + (i : Nat)) upd_same
      generalize upd H5 t5 (.tup [.int (0 + (i : Nat)), .int 1]) = H6 at e5 gk ⊢
      have bk : Bt 5 ((0 + (i : Nat) : Int) : Rat) := bt_int (by rw [Int.zero_add, Int.natAbs_natCast]; exact Nat.lt_of_lt_of_le hi' (by decide)) (by decide)
      refine ⟨st, t5, _, _, rfl, g3.mono (e4.trans e5), gk, bs.lo (by decide), bk.lo (by decide), trivial, fun H7 u7 e7 g7 => ?_⟩
      have bm := bs.mul bk
      refine ⟨b, u7, lo, _, rfl, f1.mono (s04.trans (e5.trans e7)), g7, e1.b.lo (by decide), bm.lo (by decide), trivial, fun H8 u8 e8 g8 => ?_⟩
      have ba := (e1.b.add bm).mono (n := 400) (by decide)
      refine ⟨a, u8, p, _, 3, 400, rfl, hp.mono (s04.trans (e5.trans (e7.trans e8))), g8, S.cm, ba, ?_, fun H9 u9 e9 g9 => ?_⟩
      · have := Nat.mul_le_mul_right (3 + 400 + 1) S.2.2.2
        omega
      · exact ⟨u9, _, 0, _, rfl, rfl, g9, atI_nat (j := 0) rfl, hq _ _ (e5.trans (e7.trans (e8.trans e9))) (by rw [Int.zero_add])⟩
    intro H4 bs4 e4 hD4 pr4
    rw [ints_pr pr4] at hD4
    have st13 := Bd.steps_nrt (S.1.nz S.2.1) lt
    generalize hzs : (List.range (Int.toNat 13)).map (fun i : Nat => (Bd.evr p (lo + (hi - lo) / 12 * ((i : Int) : Rat))).num) = zs at hD4
    have st13' : Bd.chz zs ≤ Bd.nrt p lo hi := by rw [← hzs]; exact st13
    have lz : zs.length = 13 := by rw [← hzs, List.length_map, List.length_range]; rfl
    have s04 := s03.trans e4
    -- signs
    have sq1 : SqL K H4 D1 (zs.map V.int) := SqL.new hD4
    refine ⟨_, rfl, D1, rfl, ⟨_, sq1⟩, fun D2 n2 => ?_⟩
    refine lc_gen (walk_list (K := K) (a := D1) (xs := zs.map V.int)) (fun i => decide (zs.getD i 0 ≠ 0)) (fun i v H => v = .bl (decide (0 < zs.getD i 0))) (fun _ _ _ _ _ h => h) n2 (by rw [List.length_map]; omega) (fun H2 e => Same.seq e sq1) ?_ g_mono (fun σ H Q Q' hh q => ?_) ?_
    · rintro i v H5 H6 hi' e ⟨rfl, ev⟩ Q1 Qn hq hn
      rw [List.length_map] at hi'
      obtain rfl := Option.some.inj ((z_get zs hi').symm.trans ev)
      refine ⟨rfl, ?_⟩
      refine ⟨_, rfl, rfl, _, rfl, ?_⟩
      by_cases z : zs.getD i 0 = 0
      · rw [z]
        exact iteNS rfl ⟨rfl, hn _ (Same.refl _)⟩
      · refine ite_and (fun _ => ⟨decide_eq_true z, _, rfl, _, _, rfl, rfl, hq _ _ (Same.refl _) rfl⟩) (fun y => ?_)
        rw [decide_eq_false fun w => z (V.int.inj w)] at y
        cases y
    · obtain ⟨v, h1, h2, c, h3, h4⟩ := q
      exact ⟨v, h1, h2, c, h3, hh _ _ h4⟩
    intro H5 bs5 e5 hD5 pr5
    rw [List.length_map] at pr5
    rw [bls_pr2 (f := fun i => decide (0 < zs.getD i 0)) pr5] at hD5
    have ez : (List.filter (fun i => decide (zs.getD i 0 ≠ 0)) (List.range zs.length)).map (fun i => zs.getD i 0) = zs.filter fun n => decide (n ≠ 0) := by
      have e1 : (List.range zs.length).map (fun i => zs.getD i 0) = zs := by
        have := range_map 0 zs id
        rw [List.map_id] at this
        exact this
      have e2 := List.filter_map (p := fun n : Int => decide (n ≠ 0)) (f := fun i => zs.getD i 0) (l := List.range zs.length)
      rw [e1] at e2
      exact e2.symm
    have eb : (List.filter (fun i => decide (zs.getD i 0 ≠ 0)) (List.range zs.length)).map (fun i => decide (0 < zs.getD i 0)) = (zs.filter fun n => decide (n ≠ 0)).map fun n => decide (0 < n) := by
      rw [← ez, List.map_map]
      rfl
    rw [eb] at hD5
    generalize hnz : zs.filter (fun n => decide (n ≠ 0)) = nz at hD5
    have ch : Bd.chz zs = Bd.adj (fun a b => decide (a < 0) != decide (b < 0)) nz := by rw [← hnz]; rfl
    have nz0 : ∀ n ∈ nz, n ≠ 0 := fun n hn => by
      rw [← hnz] at hn
      exact of_decide_eq_true (List.mem_filter.mp hn).2
    have ln : nz.length ≤ 13 := by
      rw [← hnz, ← lz]
      exact List.length_filter_le _ _
    rw [← Bd.adj_pos nz nz0] at ch
    generalize hbl : nz.map (fun n => decide (0 < n)) = bl at hD5 ch
    have lb : bl.length ≤ 13 := by rw [← hbl, List.length_map]; exact ln
    have sq2 : SqL K H5 D2 (bl.map V.bl) := SqL.new hD5
    have s05 := s04.trans e5
    -- the changes
    refine ⟨_, rfl, D2, _, rfl, .inl sq2, _, _, rfl, ?_, fun D3 n3 => ?_⟩
    · rw [List.length_map]; omega
    refine lc_gen (walk_range (lo := 1) (n := (((bl.map V.bl).length : Int) - 1).toNat)) (fun i => bl.getD i false != bl.getD (i + 1) false) (fun i v H => True) (fun _ _ _ _ _ h => h) n3 (by rw [List.length_map]; omega) (fun _ _ => trivial) ?_ g_mono (fun σ H Q Q' hh q => ?_) ?_
    · rintro i v H6 H7 hi' e ⟨rfl, rfl⟩ Q1 Qn hq hn
      rw [List.length_map] at hi'
      have sq3 := Same.seq e sq2
      refine ⟨rfl, ?_⟩
      have i1 : atI (bl.map V.bl) (1 + (i : Int)) = some (.bl (bl.getD (i + 1) false)) := by
        rw [show (1 : Int) + (i : Int) = ((i + 1 : Nat) : Int) by omega]
        exact atI_nat (b_get bl (by omega))
      have i2 : atI (bl.map V.bl) (1 + (i : Int) - 1) = some (.bl (bl.getD i false)) := by
        rw [show (1 : Int) + (i : Int) - 1 = ((i : Nat) : Int) by omega]
        exact atI_nat (b_get bl (by omega))
      refine ⟨_, rfl, _, rfl, D2, _, _, _, rfl, rfl, sq3, i1, _, rfl, _, rfl, _, _, rfl, rfl, D2, _, _, _, rfl, rfl, sq3, i2, rfl, _, rfl, ?_⟩
      have eb : ∀ p q : Bool, (!decide (V.bl p = V.bl q)) = (q != p) := fun p q => by cases p <;> cases q <;> decide
      rw [eb]
      exact ite_and (fun z => ⟨z, _, rfl, hq _ _ (Same.refl _) trivial⟩) (fun z => ⟨z, hn _ (Same.refl _)⟩)
    · obtain ⟨v, h1, v2, h2, q, xs, i, y, h3, h4, h5, h6, v3, h7, v4, h8, j1, j2, h9, h10, q', xs', i', y', h11, h12, h13, h14, h15, c, h16, h17⟩ := q
      exact ⟨v, h1, v2, h2, q, xs, i, y, h3, h4, h5, h6, v3, h7, v4, h8, j1, j2, h9, h10, q', xs', i', y', h11, h12, h13, h14, h15, c, h16, hh _ _ h17⟩
    intro H6 bs6 e6 hD6 pr6
    have l6 := paired_len pr6
    rw [List.length_map, show ((bl.length : Int) - 1).toNat = bl.length - 1 by omega, Bd.adj_range (fun a b : Bool => a != b) false bl, ← ch] at l6
    have s06 := s05.trans e6
    refine ⟨D3, _, rfl, .inl (SqL.new hD6), ?_⟩
    refine ⟨_, rfl, _, rfl, _, rfl, by show 2 ≤ sizeLine; decide, fun t7 nt7 => ?_⟩
    have e7 : Same H6 (upd H6 t7 (.tup [.ref b, .ref c])) := Same.new nt7
    have s07 := s06.trans e7
    refine ⟨a, t7, p, lo, hi, rfl, hp.mono s07, ⟨b, c, SqT.new upd_same, f1.mono s07, f2.mono s07⟩, S.ok, e1.b.mono (by decide), e2.b.mono (by decide), lt, fun H8 e8 => ?_⟩
    refine ⟨_, _, rfl, rfl, ?_⟩
    dsimp only
    rw [← l6, decide_eq_true (show ((Bd.chz zs : Nat) : Int) ≤ (Bd.nrt p lo hi : Nat) by omega)]
    exact k H8 (s07.trans e8)
end
end Bw

namespace Bw
open PySem PySem.Spec PyProof.Rows L2 Bz RT
theorem strs_dp {K : PySem.W.Frag} {H : Hp} (z : Str) : ∀ n, DpAll K H (List.replicate n (V.str z)) (List.replicate n (.str z))
  | 0 => .nil
  | n + 1 => .cons (.str z) (strs_dp z n)
theorem strs_shaped (z : Str) (hz : PyData.strOk z = true) (n : Nat) : SeqAt.shaped (.list (List.replicate n (.str z))) = true := by
  unfold SeqAt.shaped
  rw [Bool.and_eq_true]
  constructor
  · simp only [PyData.canLay0]
    induction n with
    | zero => simp [PyData.canLayAll0]
    | succ n ih => rw [List.replicate_succ]; simp_all [PyData.canLay0, PyData.canLayAll0]
  · refine decide_eq_true ?_
    have : (PyData.list (List.replicate n (.str z))).depth ≤ 1 := by
      induction n with
      | zero => simp [PyData.depth, PyData.depthAll]
      | succ n ih => rw [List.replicate_succ]; simp_all [PyData.depth, PyData.depthAll]
    omega
theorem strs_eqv (z : Str) (n : Nat) : PyData.eqv (.list (List.replicate n (.str z))) (.list (List.replicate n (.str z))) = true := by
  simp only [PyData.eqv]
  induction n with
  | zero => simp [PyData.eqvAll]
  | succ n ih => rw [List.replicate_succ]; simp [PyData.eqvAll, PyData.eqv, ih]
theorem strs_pr {z : Str} : ∀ {l : List Nat} {bs : List V}, Paired (fun _ v => v = V.str z) l bs → bs = List.replicate l.length (V.str z)
  | _, _, .nil => rfl
  | _, _, .cons e t => by rw [e, strs_pr t]; rfl
theorem lg_eqv : PyData.eqv (.list [.str "less", .str "greater"]) (.list [.str "less", .str "greater"]) = true := by decide +kernel
theorem lg_shaped : SeqAt.shaped (.list [.str "less", .str "greater"]) = true := by decide +kernel
section
variable {P : Program} {w : World} {K : PySem.W.Frag} {mg : Str → Option Value} {base : Heap}
def spNeighbours (K : PySem.W.Frag) : Sp := fun vs H Q _ => ∃ (a c : Addr) (p : List Rat) (lo hi : Rat) (as : List Addr) (L : List (Rat × Rat)), vs = [.ref a, .ref c] ∧ Po K H a p ∧ PolyS p ∧ SqL K H c (as.map V.ref) ∧ Ivs K H as L ∧ Bd.Iso p 331 lo hi L ∧ L.length ≤ 100 ∧ ∀ H', Same H H' → Q (.bl true) H'
theorem ok_law_neighbours_right {x : Str} (F : Has K mg x s_law_neighbours_right ["_law_p", "_law_some"]) (T : Txt P K mg base) (cN : Prom P w K mg base 46 "narrowed" ["p", "interval", "width"] (spNarrowed K)) (cC : Prom P w K mg base 48 "compared" ["p", "one", "q", "other"] (spCompared K)) (cF : Prom P w K mg base 48 "find_between" ["p", "one", "q", "other"] (spBetween K))
    (cL : Prom P w K mg base 1 "_law_is_less" ["_law_a", "_law_b"] (spIsLess K)) (cP : Prom P w K mg base 41 "_law_plus" ["_law_a", "_law_b"] (spPlus K)) (cR : Prom P w K mg base 46 "count_roots" ["p", "interval"] (spCountRoots K)) : Prom P w K mg base 49 x ["_law_p", "_law_some"] (spNeighbours K) := by
  refine F.prom sc_law_neighbours_right (fun vs H Q E h => ?_) (fun f cdv A outer s H vs Q E hr h => ?_)
  · obtain ⟨a, c, p, lo, hi, as, L, rfl, _⟩ := h; rfl
  · obtain ⟨a, c, p, lo, hi, as, L, rfl, hp, S, hc, hL, iso, l100, k⟩ := h
    have las := paired_len hL
    refine ⟨_, pss_cons (ps_setLc (i := 2) (own := [("_law_one", 3)]) (g := gName 3) (tt := tYes) (te := tCall (spNarrowed K) [] E0 (tCons (tVar 0) (tCons (tVar 3) (tCons (tTup (tCons (tC (.int 1)) (tCons (tC (.int 50)) tNil))) tNil)))) rfl sc_law_neighbours_right.nd rfl rfl (sw_true rfl rfl rfl rfl) (pi_list (pv 1)) (blkOk_by (N := ["_law_p", "_law_some", "_law_near", "_law_one", "_law_k", "_law_between", "_law_other"]) (sc := defScope s_law_neighbours_right) (by decide +kernel))
        (fun _ _ _ _ _ => pg_name (i := 3) sc_law_neighbours_right.nd rfl (Or.inl rfl)) (fun _ _ _ _ _ => pts_nil) (fun _ _ _ _ _ => pe_ca cN (hr.mono (by decide)) (pa_cons (pv 0) (pa_cons (pv 3) (pa_cons (pe_tup (pa_cons pe_int (pa_cons pe_int pa_nil))) pa_nil)))))
      <| pss_cons (ps_for PassesOwn.never rfl (pi_range2 (by rfl) T.rng (pa_cons pe_int (pa_cons (pe_callB call_len_seq (by rfl) T.len boot_len (pa_cons (pv 1) pa_nil)) pa_nil))) (pg_name (i := 4) sc_law_neighbours_right.nd rfl (.inl rfl))
        (pss_cons (ps_if (pt_cmpR (op_neD hr.units) (pe_lst (pa_cons (pe_ca cC hr (pa_cons (pv 0) (pa_cons (pe_ix ix_list (pv 1) (pe_op op_sub (pv 4) pe_int) (fun _ _ => rfl)) (pa_cons (pv 0) (pa_cons (pe_ix ix_list (pv 2) (pv 4) (fun _ _ => rfl)) pa_nil))))) (pa_cons (pe_ca cC hr (pa_cons (pv 0) (pa_cons (pe_ix ix_list (pv 2) (pv 4) (fun _ _ => rfl)) (pa_cons (pv 0) (pa_cons (pe_ix ix_list (pv 1) (pe_op op_sub (pv 4) pe_int) (fun _ _ => rfl)) pa_nil))))) pa_nil))) (pe_lst (pa_cons pe_str (pa_cons pe_str pa_nil))) (nomark _)) (pss_one (ps_ret pe_bl)) pss_nil)
          <| pss_cons (ps_set (i := 5) sc_law_neighbours_right.nd rfl (.inl rfl) (pe_ca cF hr (pa_cons (pv 0) (pa_cons (pe_ix ix_list (pv 2) (pe_op op_sub (pv 4) pe_int) (fun _ _ => rfl)) (pa_cons (pv 0) (pa_cons (pe_ix ix_list (pv 1) (pv 4) (fun _ _ => rfl)) pa_nil))))))
          <| pss_cons (ps_if (PW.pt (pw_or (pt_cmpR op_isN (pv 5) pe_non (nomark _)) (pw_or (pt_val (pe_ca cL (hr.mono (by decide)) (pa_cons (pT1 (pe_ix ix_list (pv 2) (pv 4) (fun _ _ => rfl))) (pa_cons (pv 5) pa_nil)))) (pw_or1 (pt_val (pe_ca cL (hr.mono (by decide)) (pa_cons (pv 5) (pa_cons (pT0 (pe_ix ix_list (pv 1) (pe_op op_sub (pv 4) pe_int) (fun _ _ => rfl))) pa_nil)))))))) (pss_one (ps_ret pe_bl)) pss_nil)
          <| pss_one (ps_if (pt_cmpR op_lt (pe_ca cR (hr.mono (by decide)) (pa_cons (pv 0) (pa_cons (pe_tup (pa_cons (pT0 (pe_ix ix_list (pv 1) (pe_op op_sub (pv 4) pe_int) (fun _ _ => rfl))) (pa_cons (pe_ca cP (hr.mono (by decide)) (pa_cons (pT1 (pe_ix ix_list (pv 2) (pv 4) (fun _ _ => rfl))) (pa_cons (pe_tup (pa_cons pe_int (pa_cons pe_int pa_nil))) pa_nil))) pa_nil))) pa_nil))) pe_int (nomark _)) (pss_one (ps_ret pe_bl)) pss_nil)))
      <| pss_one (ps_ret (pe_cmpR (op_eqD hr.units) (pe_lc (own := [("_law_one", 3), ("_law_other", 6)]) (g := gTup K 2 (gCons (gName 3) (gCons (gName 6) gNil))) (tt := tYes) (te := tCall (spCompared K) [] E0 (tCons (tVar 0) (tCons (tVar 3) (tCons (tVar 0) (tCons (tVar 6) tNil))))) rfl sc_law_neighbours_right.nd (pi_zip (by rfl) T.zip (pa_cons (pv 1) (pa_cons (pv 2) pa_nil))) (blkOk_by (N := ["_law_p", "_law_some", "_law_near", "_law_one", "_law_k", "_law_between", "_law_other"]) (sc := defScope s_law_neighbours_right) (by decide +kernel))
        (fun _ _ _ _ _ => pg_tup rfl (pgs_cons (pg_name (i := 3) sc_law_neighbours_right.nd rfl (Or.inl rfl)) (pgs_cons (pg_name (i := 6) sc_law_neighbours_right.nd rfl (Or.inl rfl)) pgs_nil))) (fun _ _ _ _ _ => pts_nil) (fun _ _ _ _ _ => pe_ca cC hr (pa_cons (pv 0) (pa_cons (pv 3) (pa_cons (pv 0) (pa_cons (pv 6) pa_nil)))))) (pe_op op_rep (pe_lst (pa_cons pe_str pa_nil)) (pe_callB call_len_seq (by rfl) T.len boot_len (pa_cons (pv 1) pa_nil))) (nomark _))), ?_⟩
    -- near
    refine ⟨_, rfl, c, rfl, ⟨_, hc⟩, fun D nD => ?_⟩
    refine lc_map (walk_list (K := K) (a := c) (xs := as.map V.ref)) (fun i v H => ∃ b x y, v = V.ref b ∧ Iv K H b x y ∧ Bd.Nar p (L.getD i (0, 0)) x y) (fun _ _ _ _ e ⟨b, x, y, h1, h2, h3⟩ => ⟨b, x, y, h1, h2.tm e, h3⟩) nD (by rw [List.length_map]; omega) (fun H2 e => Same.seq e hc) ?_ g_mono ?_
    · rintro i v H1 H2 hi' e ⟨rfl, ev⟩ Q1 hq
      obtain ⟨a', x, y, rfl, hi2, hL', iv⟩ := ivs_at hL ev
      obtain ⟨lt', n1⟩ := cut_drop_cut iso.cut hL'
      have gx := iso.gr _ (List.mem_of_getElem? hL')
      refine ⟨rfl, ?_⟩
      refine ⟨_, rfl, _, rfl, by show 2 ≤ sizeLine; decide, fun t nt => ?_⟩
      have e3 : Same H2 (upd H2 t (.tup [.int 1, .int 50])) := Same.new nt
      have e50 : (1 / 50 : Rat).num = 1 ∧ (1 / 50 : Rat).den = 50 := by decide +kernel
      have gt : Fr K (upd H2 t (.tup [.int 1, .int 50])) t (1 / 50) := by
        unfold Fr
        rw [e50.1, e50.2]
        exact SqT.new upd_same
      have eg : L.getD i (0, 0) = (x, y) := by rw [List.getD_eq_getElem?_getD, hL']; rfl
      refine ⟨a, a', t, p, x, y, 1 / 50, 331, 38, rfl, hp.mono (e.trans e3), iv.mono (e.trans e3), gt, S.ok, lt', gx, by decide, ?_, by decide +kernel, Bd.gr_narrow gx, n1, fun H4 u x' y' e4 hu k1 k2 k3 k4 k5 => ?_⟩
      · exact ⟨by rw [e50.1]; exact Nat.one_lt_two_pow (by decide), by rw [e50.2]; exact Nat.lt_of_lt_of_le (show 50 < 2 ^ 6 by decide) (Nat.pow_le_pow_right (by decide) (by decide))⟩
      · exact hq _ _ (e3.trans e4) ⟨u, x', y', rfl, hu, by rw [eg]; exact ⟨k1, k2, k3, k4, k5.mono (by decide)⟩⟩
    intro H1 bs e1 hD pr
    rw [List.length_map, las] at pr
    have lbs := paired_len pr
    rw [List.length_range] at lbs
    -- what stands at j
    have at1 : ∀ {H' : Hp}, Same H1 H' → ∀ j, j < L.length → ∃ a' x y b x' y', atI (as.map V.ref) ((j : Nat) : Int) = some (.ref a') ∧ L[j]? = some (x, y) ∧ Iv K H' a' x y ∧ atI bs ((j : Nat) : Int) = some (.ref b) ∧ Iv K H' b x' y' ∧ Bd.Nar p (x, y) x' y' ∧ bs[j]? = some (.ref b) ∧ (as.map V.ref)[j]? = some (.ref a') := by
      intro H' e j hj
      obtain ⟨a', x, y, h1, h2, h3⟩ := ivs_get hL hj
      have er : (List.range L.length)[j]? = some j := by rw [List.getElem?_range hj]
      obtain ⟨v, g1, b, x', y', rfl, g2, g3⟩ := paired_get pr er
      have eg : L.getD j (0, 0) = (x, y) := by rw [List.getD_eq_getElem?_getD, h2]; rfl
      rw [eg] at g3
      exact ⟨a', x, y, b, x', y', atI_nat h1, h2, h3.mono (e1.trans e), atI_nat g1, g2.mono e, g3, g1, h1⟩
    have btL : ∀ {j x y}, L[j]? = some (x, y) → Bt 3000 x ∧ Bt 3000 y := fun h => Gr.bt0 (iso.gr _ (List.mem_of_getElem? h)) (by decide)
    have btN : ∀ {u x y}, Bd.Nar p u x y → Bt 3000 x ∧ Bt 3000 y := fun h => Gr.bt0 h.gr (by decide)
    have sD : ∀ {H'}, Same H1 H' → SqL K H' D bs := fun e => SqL.new (e _ _ hD)
    have sC : ∀ {H'}, Same H1 H' → SqL K H' c (as.map V.ref) := fun e => Same.seq (e1.trans e) hc
    have sP : ∀ {H'}, Same H1 H' → Po K H' a p := fun e => hp.mono (e1.trans e)
    refine ⟨_, rfl, c, _, rfl, .inl (sC (Same.refl _)), _, _, rfl, ?_, ?_⟩
    · rw [List.length_map]; omega
    refine for_range (lo := 1) (n := (((as.map V.ref).length : Int) - 1).toNat) (fun i σ H' => ∃ o3 o4 o5 o6, σ = [some (.ref a), some (.ref c), some (.ref D), o3, o4, o5, o6] ∧ Same H1 H') ⟨_, _, _, _, rfl, Same.refl _⟩ ?_ ?_
    · rintro i σ H' hi' ⟨o3, o4, o5, o6, rfl, e⟩
      rw [List.length_map] at hi'
      have j1 : i + 1 < L.length := by omega
      obtain ⟨a0, x0, y0, b0, u0, v0, g1, g2, g3, g4, g5, g6, _, _⟩ := at1 e i (by omega)
      obtain ⟨a1, x1, y1, b1, u1, v1, k1, k2, k3, k4, k5, k6, _, _⟩ := at1 e (i + 1) j1
      have nx := Bd.cut_next iso.cut g2 k2
      obtain ⟨lt0, n0⟩ := cut_drop_cut iso.cut g2
      obtain ⟨lt1, n1⟩ := cut_drop_cut iso.cut k2
      have c1 := k6.l
      have c2 := k6.lt
      have c3 := g6.h
      have c4 := g6.l
      have c5 := g6.lt
      dsimp only at nx c1 c3 c4
      have ik : (1 : Int) + (i : Int) = ((i + 1 : Nat) : Int) := by omega
      have ik2 : (1 : Int) + (i : Int) - 1 = ((i : Nat) : Int) := by omega
      have q1 : atI bs ((1 : Int) + (i : Int)) = some (.ref b1) := by rw [ik]; exact k4
      have q2 : atI (as.map V.ref) ((1 : Int) + (i : Int) - 1) = some (.ref a0) := by rw [ik2]; exact g1
      have q3 : atI bs ((1 : Int) + (i : Int) - 1) = some (.ref b0) := by rw [ik2]; exact g4
      have q4 : atI (as.map V.ref) ((1 : Int) + (i : Int)) = some (.ref a1) := by rw [ik]; exact k1
      -- less, greater
      refine ⟨_, rfl, _, rfl, _, rfl, _, _, rfl, rfl, c, _, _, _, rfl, rfl, sC e, q2, _, rfl, _, rfl, _, rfl, D, _, _, _, rfl, rfl, sD e, q1, ?_⟩
      refine ⟨a, a0, a, b1, p, x0, y0, u1, v1, rfl, sP e, g3, sP e, k5, S, btL g2, btN k6, lt0, c2, .inr (.inl ⟨by grind, fun H2 e2 => ?_⟩)⟩
      have e02 := e.trans e2
      refine ⟨_, rfl, _, rfl, _, rfl, D, _, _, _, rfl, rfl, sD e02, q1, _, rfl, _, rfl, _, rfl, _, _, rfl, rfl, c, _, _, _, rfl, rfl, sC e02, q2, ?_⟩
      refine ⟨a, b1, a, a0, p, u1, v1, x0, y0, rfl, sP e02, k5.mono e2, sP e02, g3.mono e2, S, btN k6, btL g2, c2, lt0, .inr (.inr ⟨by grind, fun H3 e3 => ?_⟩)⟩
      refine ⟨by show 2 ≤ sizeLine; decide, fun l4 m4 => ?_⟩
      have e4 : Same H3 (upd H3 l4 (.lst [.str "less", .str "greater"])) := Same.new m4
      have h4 : (upd H3 l4 (.lst [.str "less", .str "greater"])) l4 = some (.lst [.str "less", .str "greater"]) := upd_same
      generalize upd H3 l4 (.lst [.str "less", .str "greater"]) = H4 at e4 h4 ⊢
      refine ⟨by show 2 ≤ sizeLine; decide, fun l5 m5 => ?_⟩
      have e5 : Same H4 (upd H4 l5 (.lst [.str "less", .str "greater"])) := Same.new m5
      refine ⟨.list [.str "less", .str "greater"], .list [.str "less", .str "greater"], .lst (SqL.new (e5 _ _ h4)) (.cons (.str _) (.cons (.str _) .nil)), .lst (SqL.new upd_same) (.cons (.str _) (.cons (.str _) .nil)), lg_shaped, lg_shaped, _, rfl, ?_⟩
      rw [lg_eqv]
      refine iteF ?_
      have e25 := e2.trans (e3.trans (e4.trans e5))
      generalize upd H4 l5 (.lst [.str "less", .str "greater"]) = H5 at e25 ⊢
      have e05 := e.trans e25
      -- between
      refine ⟨_, rfl, _, rfl, _, rfl, _, _, rfl, rfl, D, _, _, _, rfl, rfl, sD e05, q3, _, rfl, _, rfl, _, rfl, c, _, _, _, rfl, rfl, sC e05, q4, ?_⟩
      refine ⟨a, b0, a, a1, p, u0, v0, x1, y1, rfl, sP e05, g5.mono e25, sP e05, k3.mono e25, S, btN g6, btL k2, c5, lt1, by grind, fun H6 z e6 fz => ?_⟩
      have e06 := e05.trans e6
      have e26 := e25.trans e6
      obtain ⟨w1, w2, hw, fw1, fw2⟩ := k5.mono e26
      obtain ⟨r1, r2, hr1, fr1, fr2⟩ := g3.mono e26
      refine ⟨_, rfl, rfl, _, rfl, ?_⟩
      refine ite_and (fun y => by have := of_decide_eq_true y; cases this) (fun _ => ?_)
      refine ⟨_, rfl, _, rfl, D, _, _, .ref b1, rfl, rfl, sD e06, q1, b1, _, 1, .ref w2, rfl, rfl, hw, atI_nat (j := 1) rfl, _, rfl, w2, z, v1, v0, rfl, fw2, fz, (btN k6).2.lo (by decide), (btN g6).2.lo (by decide), _, rfl, ?_⟩
      rw [decide_eq_false (show ¬ v1 < v0 from fun y => by grind)]
      refine iteF ?_
      refine ⟨_, rfl, _, rfl, _, rfl, _, _, rfl, rfl, c, _, _, .ref a0, rfl, rfl, sC e06, q2, a0, _, 0, .ref r1, rfl, rfl, hr1, atI_nat (j := 0) rfl, z, r1, v0, x0, rfl, fz, fr1, (btN g6).2.lo (by decide), (btL g2).1.lo (by decide), _, rfl, ?_⟩
      rw [decide_eq_false (show ¬ v0 < x0 from fun y => by grind)]
      refine iteF ?_
      -- two roots
      refine ⟨_, rfl, _, rfl, _, rfl, _, _, rfl, rfl, c, _, _, .ref a0, rfl, rfl, sC e06, q2, a0, _, 0, .ref r1, rfl, rfl, hr1, atI_nat (j := 0) rfl, _, rfl, _, rfl, D, _, _, .ref b1, rfl, rfl, sD e06, q1, b1, _, 1, .ref w2, rfl, rfl, hw, atI_nat (j := 1) rfl, by show 2 ≤ sizeLine; decide, fun t7 m7 => ?_⟩
      have e7 : Same H6 (upd H6 t7 (.tup [.int 0, .int 1])) := Same.new m7
      have f7 := fr_z (K := K) (H := upd H6 t7 (.tup [.int 0, .int 1])) 0 upd_same
      refine ⟨w2, t7, v1, ((0 : Int) : Rat), rfl, fw2.mono e7, f7, (btN k6).2.lo (by decide), (bt0 (n := 5) (by decide)).lo (by decide), trivial, fun H8 s8 e8 f8 => ?_⟩
      have z0 : v1 + ((0 : Int) : Rat) = v1 := by
        show v1 + 0 = v1
        grind
      dsimp only at f8
      rw [z0] at f8
      refine ⟨by show 2 ≤ sizeLine; decide, fun t9 m9 => ?_⟩
      have e9 : Same H8 (upd H8 t9 (.tup [.ref r1, .ref s8])) := Same.new m9
      have e69 := e7.trans (e8.trans e9)
      refine ⟨a, t9, p, x0, v1, rfl, sP (e06.trans e69), ⟨r1, s8, SqT.new upd_same, fr1.mono e69, f8.mono e9⟩, S.ok, (btL g2).1.mono (by decide), (btN k6).2.mono (by decide), by grind, fun H10 e10 => ?_⟩
      have two := Bd.two_count (p := p) lt0 (show y0 ≤ u1 by grind) c2 n0 k6.one
      refine ⟨_, _, rfl, rfl, _, rfl, ?_⟩
      rw [decide_eq_false (show ¬ ((Bd.nrt p x0 v1 : Nat) : Int) < 2 by omega)]
      refine iteF ?_
      exact ⟨_, _, _, _, rfl, e06.trans (e69.trans e10)⟩
    · rintro σ H' ⟨o3, o4, o5, o6, rfl, e⟩
      have lm : L.length = min (as.map V.ref).length bs.length := by rw [List.length_map]; omega
      refine ⟨_, rfl, _, rfl, c, D, _, _, rfl, sC e, sD e, fun D2 n2 => ?_⟩
      refine lc_map (walk_zip (K := K) (a := c) (b := D) (xs := as.map V.ref) (ys := bs) lm) (fun i v H => v = .str "equal") (fun _ _ _ _ _ h => h) n2 (by omega) (fun H2 e2 => ⟨sC (e.trans e2), sD (e.trans e2)⟩) ?_ g2_mono ?_
      · rintro i v H2 H3 hi' e2 ⟨t, x1, x2, rfl, nt, rfl, ev1, ev2⟩ Q1 hq
        obtain ⟨a', x, y, b, x', y', _, h2, h3, _, h5, h6, h7, h8⟩ := at1 (e.trans e2) i hi'
        obtain rfl := Option.some.inj (h8.symm.trans ev1)
        obtain rfl := Option.some.inj (h7.symm.trans ev2)
        have st : Same H2 (upd H2 t (.tup [.ref a', .ref b])) := Same.new nt
        have e3 := e.trans (e2.trans st)
        obtain ⟨lt', n1⟩ := cut_drop_cut iso.cut h2
        have c1 := h6.l
        have c2 := h6.h
        have c3 := h6.lt
        dsimp only at c1 c2
        have m1 : mxr x x' = x' := if_neg (by grind)
        have m2 : mnr y y' = y' := if_neg (by grind)
        refine ⟨t, _, rfl, SqT.new upd_same, rfl, _, _, rfl, _, _, rfl, rfl, rfl, ?_⟩
        refine ⟨_, rfl, _, rfl, _, rfl, _, rfl, a, a', a, b, p, x, y, x', y', rfl, sP e3, h3.mono st, sP e3, h5.mono st, S, btL h2, btN h6, lt', c3, .inl ⟨by rw [m1, m2]; exact c3, by rw [m1, m2, h6.one]; decide, fun H4 e4 => hq _ _ (st.trans e4) rfl⟩⟩
      intro H2 bs2 e2 hD2 pr2
      rw [strs_pr pr2, List.length_range] at hD2
      refine ⟨by show 1 ≤ sizeLine; decide, fun l m => ?_⟩
      have e3 : Same H2 (upd H2 l (.lst [.str "equal"])) := Same.new m
      have e03 := e.trans (e2.trans e3)
      refine ⟨_, rfl, c, _, rfl, .inl (sC e03), l, _, _, rfl, rfl, upd_same, by omega, ?_, ?_, fun g ng => ?_⟩
      · rw [List.length_map]; omega
      · rw [Int.toNat_natCast, List.length_map]
        exact Nat.le_trans (show 1 * as.length ≤ 100 by omega) (by decide)
      rw [Int.toNat_natCast, List.length_map, las, flat_one]
      have e4 : Same (upd H2 l (.lst [.str "equal"])) (upd (upd H2 l (.lst [.str "equal"])) g (.lst (List.replicate L.length (.str "equal")))) := Same.new ng
      refine ⟨.list (List.replicate L.length (.str "equal")), .list (List.replicate L.length (.str "equal")), .lst (SqL.new (e4 _ _ (e3 _ _ hD2))) (strs_dp _ _), .lst (SqL.new upd_same) (strs_dp _ _), strs_shaped _ (by decide +kernel) _, strs_shaped _ (by decide +kernel) _, ?_⟩
      rw [strs_eqv]
      exact k _ (e1.trans (e03.trans e4))
end
end Bw

namespace Bw
open PySem PySem.Spec PyProof.Rows L2 Bz RT
theorem wv13 {n : Nat} (h : n ≤ 13) : Bd.wv n ≤ 114243 := Nat.le_trans (Bd.wv_mono h) (by decide)
theorem prod_ok {p q r : List Rat} (h : PolyS p) (k : PolyS q) (t : Bd.TrimOf (Bd.px (List.replicate (p.length + q.length) 0) 0 p q) r) : (∀ x, Bd.ev (Bd.cQ r) x = Bd.ev (Bd.cQ p) x * Bd.ev (Bd.cQ q) x) ∧ (∃ x, Bd.ev (Bd.cQ r) x ≠ 0) ∧ PolyOk r := by
  have e := Bd.prod_ev t
  have nz := Bd.mul_nz h.1 h.2.1 k.1 k.2.1 e
  refine ⟨e, nz, 8, t.tr, Bd.ne_of_nz nz, ?_, ?_, ?_⟩
  · have Z0 : Bd.Ib 0 (List.replicate (p.length + q.length) 0) := fun r hr => ⟨0, (List.mem_replicate.mp hr).2, Nat.le_refl _⟩
    have := Z0.px p (A := 6) (C := 6) (q := q) (sh := 0) h.2.2.1 k.2.2.1 (by rw [List.length_replicate]; omega)
    have l := h.2.2.2
    have i8 := trim_ib this t
    exact Bd.Ib.cm i8 (Nat.lt_of_le_of_lt (show 0 + p.length * (6 * 6) ≤ 252 by omega) (by decide)) (by decide)
  · have := Bd.prod_trim h.2.1 t
    have := h.2.2.2
    have := k.2.2.2
    omega
  · have l := Bd.prod_trim h.2.1 t
    have := h.2.2.2
    have := k.2.2.2
    have := Nat.mul_le_mul_left (25 * 8 + 222) (wv13 (n := r.length) (by omega))
    omega
section
variable {P : Program} {w : World} {K : PySem.W.Frag} {mg : Str → Option Value} {base : Heap}
/-- a count of roots, read -/
theorem rd_count {σ : L2.St} {H : Hp} {Q : VK} {j k : Nat} {a b c : Addr} {p : List Rat} {lo hi : Rat} {ta : TE} (h1 : ta σ H fun v H1 => v = .ref a ∧ Same H H1 ∧ Po K H1 a p) (mono : ∀ (Q Q' : VK), (∀ v H', Q v H' → Q' v H') → ta σ H Q → ta σ H Q') (h2 : σ[j]? = some (some (.ref b))) (h3 : σ[k]? = some (some (.ref c)))
    (fb : Fr K H b lo) (fc : Fr K H c hi) (ok : PolyOk p) (bl : Bt 3000 lo) (bh : Bt 3000 hi) (lt : lo < hi) (kk : ∀ H', Same H H' → Q (.int (Bd.nrt p lo hi : Nat)) H') :
    tCall (spCountRoots K) [] E0 (tCons ta (tCons (tTup (tCons (tVar j) (tCons (tVar k) tNil))) tNil)) σ H Q := by
  refine mono _ _ (fun v H1 ⟨hv, e1, hp⟩ => ?_) h1
  subst hv
  refine ⟨_, h2, _, h3, by show 2 ≤ sizeLine; decide, fun t nt => ?_⟩
  have e2 : Same H1 (upd H1 t (.tup [.ref b, .ref c])) := Same.new nt
  exact ⟨a, t, p, lo, hi, rfl, hp.mono e2, ⟨b, c, SqT.new upd_same, fb.mono (e1.trans e2), fc.mono (e1.trans e2)⟩, ok, bl.mono (by decide), bh.mono (by decide), lt, fun H' e => kk H' (e1.trans (e2.trans e))⟩
theorem tl_count {σ : L2.St} {H : Hp} {Q : VK} {j k : Nat} {a b c : Addr} {p : List Rat} {lo hi : Rat} (hp : Po K H a p) (h2 : σ[j]? = some (some (.ref b))) (h3 : σ[k]? = some (some (.ref c)))
    (fb : Fr K H b lo) (fc : Fr K H c hi) (ok : PolyOk p) (bl : Bt 3000 lo) (bh : Bt 3000 hi) (lt : lo < hi) (kk : ∀ H', Same H H' → Q (.int (Bd.nrt p lo hi : Nat)) H') :
    tCons (tTup (tCons (tVar j) (tCons (tVar k) tNil))) tNil σ H fun xs H2 => spCountRoots K ((.ref a :: xs) ++ []) H2 Q E0 := by
  refine ⟨_, h2, _, h3, by show 2 ≤ sizeLine; decide, fun t nt => ?_⟩
  have e2 : Same H (upd H t (.tup [.ref b, .ref c])) := Same.new nt
  exact ⟨a, t, p, lo, hi, rfl, hp.mono e2, ⟨b, c, SqT.new upd_same, fb.mono e2, fc.mono e2⟩, ok, bl.mono (by decide), bh.mono (by decide), lt, fun H' e => kk H' (e2.trans e)⟩
theorem rd_cnt {σ : L2.St} {H : Hp} {Q : VK} {i j k : Nat} {a b c : Addr} {p : List Rat} {lo hi : Rat} (h1 : σ[i]? = some (some (.ref a))) (hp : Po K H a p) (h2 : σ[j]? = some (some (.ref b))) (h3 : σ[k]? = some (some (.ref c)))
    (fb : Fr K H b lo) (fc : Fr K H c hi) (ok : PolyOk p) (bl : Bt 3000 lo) (bh : Bt 3000 hi) (lt : lo < hi) (kk : ∀ H', Same H H' → Q (.int (Bd.nrt p lo hi : Nat)) H') :
    tCall (spCountRoots K) [] E0 (tCons (tVar i) (tCons (tTup (tCons (tVar j) (tCons (tVar k) tNil))) tNil)) σ H Q :=
  ⟨_, h1, tl_count hp h2 h3 fb fc ok bl bh lt kk⟩
theorem mono_var {σ : L2.St} {H : Hp} {i : Nat} : ∀ (Q Q' : VK), (∀ v H', Q v H' → Q' v H') → tVar i σ H Q → tVar i σ H Q' := fun Q Q' h ⟨v, e, q⟩ => ⟨v, e, h _ _ q⟩
def spLaw (K : PySem.W.Frag) : Sp := fun vs H Q _ => ∃ (a : Addr) (ns : List Int), vs = [.ref a] ∧ SqL K H a (ns.map V.int) ∧ ∀ H', Q (.bl true) H'
set_option maxHeartbeats 8000000 in
theorem ok_law {x : Str} {f : Addr} {fd : FuncData} (F : Fun K x x s_law f fd) (T : Txt P K mg base) (cOp : Prom P w K mg base 1 "_law_open" ["_law_script"] (spLOpen K)) (cPl : Prom P w K mg base 41 "_law_draw_plain" ["_law_pen", "_law_most"] (spDrawPlain K)) (cIv : Prom P w K mg base 44 "_law_draw_interval" ["_law_pen", "_law_roots"] (spDrawInterval K)) (cAdd : Prom P w K mg base 41 "_law_plus" ["_law_a", "_law_b"] (spPlus K))
    (cMul : Prom P w K mg base 41 "_law_times" ["_law_a", "_law_b"] (spTimes K)) (cSub : Prom P w K mg base 41 "_law_minus" ["_law_a", "_law_b"] (spMinus K)) (cOne : Prom P w K mg base 41 "_law_one_of" ["_law_pen", "_law_some"] (spOneOf K)) (cR : Prom P w K mg base 46 "count_roots" ["p", "interval"] (spCountRoots K)) (cSR : Prom P w K mg base 47 "_law_signs_right" ["_law_p", "_law_low", "_law_high"] (spSignsRight K))
    (cCm : Prom P w K mg base 44 "common" ["p", "q"] (spCommon K)) (cPr : Prom P w K mg base 42 "product_of" ["p", "q"] (spProduct K)) (cIs : Prom P w K mg base 130 "isolated" ["p", "interval"] (spIsolated K)) (cII : Prom P w K mg base 46 "is_isolated" ["p", "interval", "value"] (spIsIsolated K)) (cNR : Prom P w K mg base 49 "_law_neighbours_right" ["_law_p", "_law_some"] (spNeighbours K))
    (cCh : Prom P w K mg base 1 "changes" ["p"] (spChanges K)) : FnOk P w K mg base CX0 131 f fd ["_law_script"] (spLaw K) := by
  refine F.ok sc_law (fun vs H Q E h => ?_) (fun cdv A outer s H vs Q E hr h => ?_)
  · obtain ⟨a, ns, rfl, _⟩ := h; rfl
  · obtain ⟨a, ns, rfl, ha, k⟩ := h
    refine ⟨_, pss_cons (ps_set (i := 1) sc_law.nd rfl (.inl rfl) (pe_ca cOp (hr.mono (by decide)) (pa_cons (pv 0) pa_nil)))
      <| pss_cons (ps_for PassesOwn.never rfl (pi_range1 (by rfl) T.rng (pa_cons pe_int pa_nil)) (pg_name (i := 2) sc_law.nd rfl (.inl rfl))
        (pss_cons (ps_par (i := 3) (j := 4) (by rfl) sc_law.nd rfl rfl (by decide) rfl rfl (pa_cons (pe_ca cPl (hr.mono (by decide)) (pa_cons (pv 1) (pa_cons pe_int pa_nil))) (pa_cons (pe_ca cPl (hr.mono (by decide)) (pa_cons (pv 1) (pa_cons pe_int pa_nil))) pa_nil)) (by rfl))
          <| pss_cons (ps_asg (pe_ca cIv (hr.mono (by decide)) (pa_cons (pv 1) (pa_cons (pe_lst pa_nil) pa_nil))) (pg_tup rfl (pgs_cons (pg_name (i := 5) sc_law.nd rfl (.inl rfl)) (pgs_cons (pg_name (i := 6) sc_law.nd rfl (.inl rfl)) pgs_nil))))
          <| pss_cons (ps_set (i := 7) sc_law.nd rfl (.inl rfl) (pe_ca cAdd (hr.mono (by decide)) (pa_cons (pv 5) (pa_cons (pe_ca cMul (hr.mono (by decide)) (pa_cons (pe_ca cSub (hr.mono (by decide)) (pa_cons (pv 6) (pa_cons (pv 5) pa_nil))) (pa_cons (pe_ca cOne (hr.mono (by decide)) (pa_cons (pv 1) (pa_cons (pe_lst (pa_cons (pe_tup (pa_cons pe_int (pa_cons pe_int pa_nil))) (pa_cons (pe_tup (pa_cons pe_int (pa_cons pe_int pa_nil))) (pa_cons (pe_tup (pa_cons pe_int (pa_cons pe_int pa_nil))) pa_nil)))) pa_nil))) pa_nil))) pa_nil))))
          <| pss_cons (ps_set (i := 8) sc_law.nd rfl (.inl rfl) (pe_ca cR (hr.mono (by decide)) (pa_cons (pv 3) (pa_cons (pe_tup (pa_cons (pv 5) (pa_cons (pv 6) pa_nil))) pa_nil))))
          <| pss_cons (ps_if (PW.pt (pw_or (pt_cmpR op_ne (pv 8) (pe_op op_add (pe_ca cR (hr.mono (by decide)) (pa_cons (pv 3) (pa_cons (pe_tup (pa_cons (pv 5) (pa_cons (pv 7) pa_nil))) pa_nil))) (pe_ca cR (hr.mono (by decide)) (pa_cons (pv 3) (pa_cons (pe_tup (pa_cons (pv 7) (pa_cons (pv 6) pa_nil))) pa_nil)))) (nomark _)) (pw_or1 (pt_not (pt_val (pe_ca cSR (hr.mono (by decide)) (pa_cons (pv 3) (pa_cons (pv 5) (pa_cons (pv 6) pa_nil))))))))) (pss_one (ps_ret pe_bl)) pss_nil)
          <| pss_cons (ps_par (i := 9) (j := 10) (by rfl) sc_law.nd rfl rfl (by decide) rfl rfl (pa_cons (pe_ca cR (hr.mono (by decide)) (pa_cons (pe_ca cCm (hr.mono (by decide)) (pa_cons (pv 3) (pa_cons (pv 4) pa_nil))) (pa_cons (pe_tup (pa_cons (pv 5) (pa_cons (pv 6) pa_nil))) pa_nil))) (pa_cons (pe_ca cR (hr.mono (by decide)) (pa_cons (pe_ca cPr (hr.mono (by decide)) (pa_cons (pv 3) (pa_cons (pv 4) pa_nil))) (pa_cons (pe_tup (pa_cons (pv 5) (pa_cons (pv 6) pa_nil))) pa_nil))) pa_nil)) (by rfl))
          <| pss_cons (ps_if (PW.pt (pw_or (pt_cmpR op_ne (pe_ca cR (hr.mono (by decide)) (pa_cons (pe_ca cPr (hr.mono (by decide)) (pa_cons (pv 3) (pa_cons (pv 3) pa_nil))) (pa_cons (pe_tup (pa_cons (pv 5) (pa_cons (pv 6) pa_nil))) pa_nil))) (pv 8) (nomark _)) (pw_or1 (pt_cmpR op_ne (pv 10) (pe_op op_sub (pe_op op_add (pv 8) (pe_ca cR (hr.mono (by decide)) (pa_cons (pv 4) (pa_cons (pe_tup (pa_cons (pv 5) (pa_cons (pv 6) pa_nil))) pa_nil)))) (pv 9)) (nomark _))))) (pss_one (ps_ret pe_bl)) pss_nil)
          <| pss_cons (ps_set (i := 11) sc_law.nd rfl (.inl rfl) (pe_ca cIs hr (pa_cons (pv 3) (pa_cons (pe_tup (pa_cons (pv 5) (pa_cons (pv 6) pa_nil))) pa_nil))))
          <| pss_cons (ps_if (PW.pt (pw_or (pt_cmpR op_ne (pe_callB call_len_seq (by rfl) T.len boot_len (pa_cons (pv 11) pa_nil)) (pv 8) (nomark _)) (pw_or (pt_cmpR op_notBl (pe_ca cII (hr.mono (by decide)) (pa_cons (pv 3) (pa_cons (pe_tup (pa_cons (pv 5) (pa_cons (pv 6) pa_nil))) (pa_cons (pv 11) pa_nil)))) pe_bl rfl) (pw_or1 (pt_not (pt_val (pe_ca cNR (hr.mono (by decide)) (pa_cons (pv 3) (pa_cons (pv 11) pa_nil))))))))) (pss_one (ps_ret pe_bl)) pss_nil)
          <| pss_cons (ps_if (pt_cmpR op_notBl (pe_ca cII (hr.mono (by decide)) (pa_cons (pe_ca cPr (hr.mono (by decide)) (pa_cons (pv 3) (pa_cons (pv 3) pa_nil))) (pa_cons (pe_tup (pa_cons (pv 5) (pa_cons (pv 6) pa_nil))) (pa_cons (pv 11) pa_nil)))) pe_bl rfl) (pss_one (ps_ret pe_bl)) pss_nil)
          <| pss_one (ps_if (pt_cmpR op_gt (pe_ca cR (hr.mono (by decide)) (pa_cons (pv 3) (pa_cons (pe_tup (pa_cons (pe_tup (pa_cons pe_int (pa_cons pe_int pa_nil))) (pa_cons (pe_tup (pa_cons pe_int (pa_cons pe_int pa_nil))) pa_nil))) pa_nil))) (pe_ca cCh (hr.mono (by decide)) (pa_cons (pv 3) pa_nil)) (nomark _)) (pss_one (ps_ret pe_bl)) pss_nil)))
      <| pss_one (ps_ret pe_bl), ?_⟩
    refine ⟨_, rfl, a, ns, rfl, ha, fun H0 pn e0 pen0 => ?_⟩
    refine ⟨_, rfl, by decide, by decide, ?_⟩
    refine for_range (lo := 0) (n := Int.toNat 3) (fun i σ H' => ∃ o2 o3 o4 o5 o6 o7 o8 o9 o10 o11, σ = [some (.ref a), some (.ref pn), o2, o3, o4, o5, o6, o7, o8, o9, o10, o11] ∧ Pen H' pn (i * 52)) ⟨_, _, _, _, _, _, _, _, _, _, rfl, pen0⟩ ?_ ?_
    · rintro i σ H1 hi' ⟨o2, o3, o4, o5, o6, o7, o8, o9, o10, o11, rfl, p1⟩
      have hi' : i < 3 := hi'
      refine ⟨_, rfl, pn, 6, i * 52, rfl, by decide, by decide, p1, by omega, fun H2 ap p s2 p2 hp S => ?_⟩
      refine ⟨_, rfl, pn, 5, i * 52 + 8, rfl, by decide, by decide, p2, by omega, fun H3 aq q s3 p3 hq S' => ?_⟩
      have hp := hp.tm (p2.tm s3)
      refine ⟨_, _, rfl, ?_⟩
      refine ⟨_, rfl, Nat.zero_le _, fun l4 m4 => ?_⟩
      have e4 : Same H3 (upd H3 l4 (.lst [])) := Same.new m4
      have p4 := p3.mono e4
      refine ⟨pn, l4, i * 52 + 16, rfl, p4, by omega, SqL.new upd_same, p3.ne m4, fun H5 iv lo hi s5 p5 hI lt el eh => ?_⟩
      have hp := (hp.mono e4).tm (p4.tm s5)
      have hq := (hq.mono e4).tm (p4.tm s5)
      obtain ⟨b, c, hiv, fb, fc⟩ := hI
      refine ⟨iv, _, rfl, hiv, rfl, _, _, rfl, _, _, rfl, rfl, ?_⟩
      -- the cut
      refine ⟨_, rfl, _, rfl, _, rfl, c, b, hi, lo, rfl, fc, fb, eh.b.lo (by decide), el.b.lo (by decide), trivial, fun H6 d e6 fd => ?_⟩
      dsimp only at fd
      have bd : Bt 201 (hi - lo) := by
        have := eh.b.add el.b.neg
        rw [show hi + -lo = hi - lo by grind] at this
        exact this
      refine ⟨_, rfl, by show 2 ≤ sizeLine; decide, fun t1 m1 => ?_⟩
      have e7 : Same H6 (upd H6 t1 (.tup [.int 1, .int 2])) := Same.new m1
      have r12 : (1 / 2 : Rat).num = 1 ∧ (1 / 2 : Rat).den = 2 := by decide +kernel
      have g1 : Fr K (upd H6 t1 (.tup [.int 1, .int 2])) t1 (1 / 2) := by
        unfold Fr
        rw [r12.1, r12.2]
        exact SqT.new upd_same
      generalize upd H6 t1 (.tup [.int 1, .int 2]) = H7 at e7 g1 ⊢
      refine ⟨by show 2 ≤ sizeLine; decide, fun t2 m2 => ?_⟩
      have e8 : Same H7 (upd H7 t2 (.tup [.int 1, .int 3])) := Same.new m2
      have r13 : (1 / 3 : Rat).num = 1 ∧ (1 / 3 : Rat).den = 3 := by decide +kernel
      have g2 : Fr K (upd H7 t2 (.tup [.int 1, .int 3])) t2 (1 / 3) := by
        unfold Fr
        rw [r13.1, r13.2]
        exact SqT.new upd_same
      generalize upd H7 t2 (.tup [.int 1, .int 3]) = H8 at e8 g2 ⊢
      refine ⟨by show 2 ≤ sizeLine; decide, fun t3 m3 => ?_⟩
      have e9 : Same H8 (upd H8 t3 (.tup [.int 5, .int 8])) := Same.new m3
      have r58 : (5 / 8 : Rat).num = 5 ∧ (5 / 8 : Rat).den = 8 := by decide +kernel
      have g3 : Fr K (upd H8 t3 (.tup [.int 5, .int 8])) t3 (5 / 8) := by
        unfold Fr
        rw [r58.1, r58.2]
        exact SqT.new upd_same
      generalize upd H8 t3 (.tup [.int 5, .int 8]) = H9 at e9 g3 ⊢
      refine ⟨by show 3 ≤ sizeLine; decide, fun l10 m10 => ?_⟩
      have e10 : Same H9 (upd H9 l10 (.lst [.ref t1, .ref t2, .ref t3])) := Same.new m10
      have e69 := e6.trans (e7.trans (e8.trans e9))
      have e610 := e69.trans e10
      have p10 := p5.mono e610
      refine ⟨pn, l10, i * 52 + 51, _, fun v => ∃ u x, v = .ref u ∧ Fr K (upd H9 l10 (.lst [.ref t1, .ref t2, .ref t3])) u x ∧ 0 < x ∧ x < 1 ∧ Bt 5 x, rfl, p10, by omega, SqL.new upd_same, (p5.mono e69).ne m10, by show 0 < 3; decide, fun x hx => ?_, fun H11 v s11 p11 hv => ?_⟩
      · simp only [List.mem_cons, List.not_mem_nil, or_false] at hx
        rcases hx with hx | hx | hx
        · exact ⟨_, _, hx, g1.mono (e8.trans (e9.trans e10)), by decide +kernel, by decide +kernel, by decide +kernel, by decide +kernel⟩
        · exact ⟨_, _, hx, g2.mono (e9.trans e10), by decide +kernel, by decide +kernel, by decide +kernel, by decide +kernel⟩
        · exact ⟨_, _, hx, g3.mono e10, by decide +kernel, by decide +kernel, by decide +kernel, by decide +kernel⟩
      obtain ⟨u, x, rfl, fu, x0, x1, xb⟩ := hv
      have m11 := p10.tm s11
      refine ⟨d, u, hi - lo, x, rfl, (fd.mono (e7.trans (e8.trans (e9.trans e10)))).tm m11, fu.tm m11, bd.lo (by decide), xb.lo (by decide), trivial, fun H12 md e12 fm => ?_⟩
      dsimp only at fm
      have bm := bd.mul xb
      have fb12 := ((fb.mono e610).tm m11).mono e12
      refine ⟨b, md, lo, (hi - lo) * x, rfl, fb12, fm, el.b.lo (by decide), bm.lo (by decide), trivial, fun H13 ct e13 fct => ?_⟩
      dsimp only at fct
      have bct := ((el.b.add bm).mono (n := 3000) (by decide))
      have pos : 0 < (hi - lo) * x := Rat.mul_pos (by grind) x0
      have les : (hi - lo) * x < (hi - lo) * 1 := Rat.mul_lt_mul_of_pos_left x1 (by grind)
      have lt1 : lo < lo + (hi - lo) * x := by grind
      have lt2 : lo + (hi - lo) * x < hi := by grind
      generalize lo + (hi - lo) * x = cv at fct bct lt1 lt2
      have e1213 := e12.trans e13
      have hp := ((hp.mono e610).tm m11).mono e1213
      have hq := ((hq.mono e610).tm m11).mono e1213
      have fb := ((fb.mono e610).tm m11).mono e1213
      have fc := ((fc.mono e610).tm m11).mono e1213
      have p13 := p11.mono e1213
      have bl := el.b.mono (n := 3000) (by decide)
      have bh := eh.b.mono (n := 3000) (by decide)
      have add := Bd.nrt_add p (Rat.le_of_lt lt1) (Rat.le_of_lt lt2)
      -- counts
      refine rd_cnt rfl hp rfl rfl fb fc S.ok bl bh lt fun H14 e14 => ?_
      refine ⟨_, rfl, ?_⟩
      refine rd_cnt rfl (hp.mono e14) rfl rfl (fb.mono e14) (fct.mono e14) S.ok bl bct lt1 fun H15 e15 => ?_
      have e15 := e14.trans e15
      refine rd_cnt rfl (hp.mono e15) rfl rfl (fct.mono e15) (fc.mono e15) S.ok bct bh lt2 fun H16 e16 => ?_
      have e16 := e15.trans e16
      refine ⟨_, _, rfl, rfl, rfl, _, rfl, ?_⟩
      refine iteNS (by rw [add]; rfl) ?_
      refine ⟨_, rfl, _, rfl, _, rfl, ap, b, c, p, lo, hi, rfl, hp.mono e16, fb.mono e16, fc.mono e16, S, lt, el, eh, fun H17 e17 => ⟨_, rfl, iteF ?_⟩⟩
      have e17 := e16.trans e17
      -- both, whole
      have l7 := S.2.2.2
      have l7' := S'.2.2.2
      have W := wv7 l7'
      refine ⟨_, rfl, _, rfl, ap, aq, p, q, 3, 3, 12, rfl, hp.mono e17, hq.mono e17, S.cp S', by omega, by omega, by omega, fun H18 ag g e18 hg G => ?_⟩
      have e18 := e17.trans e18
      refine tl_count hg rfl rfl (fb.mono e18) (fc.mono e18) (gcd_ok S S' G) bl bh lt fun H19 e19 => ?_
      have e19 := e18.trans e19
      refine ⟨_, rfl, _, rfl, ap, aq, p, q, rfl, hp.mono e19, hq.mono e19, S.2.2.1, S'.2.2.1, l7, l7', fun H20 ar r e20 tr hr' => ?_⟩
      have e20 := e19.trans e20
      obtain ⟨er, nzr, okr⟩ := prod_ok S S' tr
      refine tl_count hr' rfl rfl (fb.mono e20) (fc.mono e20) okr bl bh lt fun H21 e21 => ?_
      have e21 := e20.trans e21
      refine ⟨_, _, rfl, ?_⟩
      have mul := Bd.nrt_mul (S.1.nz S.2.1) (S'.1.nz S'.2.1) nzr er G.gcd lo hi
      -- the square
      refine ⟨_, rfl, _, rfl, ap, ap, p, p, rfl, hp.mono e21, hp.mono e21, S.2.2.1, S.2.2.1, l7, l7, fun H22 a2 r2 e22 tr2 hr2 => ?_⟩
      have e22 := e21.trans e22
      obtain ⟨er2, nzr2, okr2⟩ := prod_ok S S tr2
      have sq := Bd.nrt_sq (S.1.nz S.2.1) nzr2 er2
      refine tl_count hr2 rfl rfl (fb.mono e22) (fc.mono e22) okr2 bl bh lt fun H23 e23 => ?_
      have e23 := e22.trans e23
      refine ⟨_, rfl, rfl, _, rfl, ?_⟩
      refine iteNS (by rw [sq]) ?_
      refine ⟨_, rfl, _, rfl, ?_⟩
      refine rd_cnt rfl (hq.mono e23) rfl rfl (fb.mono e23) (fc.mono e23) S'.ok bl bh lt fun H24 e24 => ?_
      have e24 := e23.trans e24
      refine ⟨_, _, rfl, rfl, _, rfl, _, _, rfl, rfl, rfl, _, rfl, ?_⟩
      refine iteNS (by
        congr 1
        show ((Bd.nrt r lo hi : Nat) : Int) = ((Bd.nrt p lo hi : Nat) : Int) + ((Bd.nrt q lo hi : Nat) : Int) - ((Bd.nrt g lo hi : Nat) : Int)
        omega) ?_
      -- isolated
      refine ⟨_, rfl, _, rfl, _, rfl, by show 2 ≤ sizeLine; decide, fun t25 m25 => ?_⟩
      have e25 : Same H24 (upd H24 t25 (.tup [.ref b, .ref c])) := Same.new m25
      have e25' := e24.trans e25
      refine ⟨ap, t25, p, lo, hi, 74, rfl, hp.mono e25', ⟨b, c, SqT.new upd_same, fb.mono e25', fc.mono e25'⟩, S.ok, S.2.2.1, l7, lt, gr_ends el eh, by decide, fun H26 ls as L e26 hls hL iso => ?_⟩
      have e26' := e25'.trans e26
      have ll := iso.len
      have lal := paired_len hL
      have nle := Bd.nrt_le (S.1.nz S.2.1) lo hi
      have bL : ∀ u ∈ L, Bt 3000 u.1 ∧ Bt 3000 u.2 := fun u hu => Gr.bt0 (iso.gr u hu) (by decide)
      -- len, is_isolated, neighbours
      refine ⟨_, rfl, ls, _, rfl, .inl (SqL.new hls), _, rfl, rfl, _, rfl, ?_⟩
      refine iteNS (by rw [List.length_map, lal, ll]) ?_
      refine ⟨_, rfl, _, rfl, _, rfl, by show 2 ≤ sizeLine; decide, fun t27 m27 => ?_⟩
      have e27 : Same H26 (upd H26 t27 (.tup [.ref b, .ref c])) := Same.new m27
      have e27' := e26'.trans e27
      refine ⟨_, rfl, ap, t27, ls, p, lo, hi, as, L, rfl, hp.mono e27', ⟨b, c, SqT.new upd_same, fb.mono e27', fc.mono e27'⟩, SqL.new (e27 _ _ hls), hL.mono e27, S.ok, lt, bl, bh, bL, iso.cut, ll, by omega, fun H28 e28 => ?_⟩
      have e28' := e27'.trans e28
      have e2628 := e27.trans e28
      refine ⟨true, true, rfl, rfl, _, rfl, ?_⟩
      refine iteF ?_
      refine ⟨_, rfl, _, rfl, ap, ls, p, lo, hi, as, L, rfl, hp.mono e28', S, SqL.new (e2628 _ _ hls), hL.mono e2628, iso, by omega, fun H29 e29 => ⟨_, rfl, iteF ?_⟩⟩
      have e29' := e28'.trans e29
      have e2629 := e2628.trans e29
      -- isolated for the square
      refine ⟨_, rfl, _, rfl, ap, ap, p, p, rfl, hp.mono e29', hp.mono e29', S.2.2.1, S.2.2.1, l7, l7, fun H30 a3 r3 e30 tr3 hr3 => ?_⟩
      have e30' := e29'.trans e30
      have e2630 := e2629.trans e30
      obtain ⟨er3, nzr3, okr3⟩ := prod_ok S S tr3
      have sq3 := Bd.nrt_sq (S.1.nz S.2.1) nzr3 er3
      refine ⟨_, rfl, _, rfl, by show 2 ≤ sizeLine; decide, fun t31 m31 => ?_⟩
      have e31 : Same H30 (upd H30 t31 (.tup [.ref b, .ref c])) := Same.new m31
      have e31' := e30'.trans e31
      refine ⟨_, rfl, a3, t31, ls, r3, lo, hi, as, L, rfl, hr3.mono e31, ⟨b, c, SqT.new upd_same, fb.mono e31', fc.mono e31'⟩, SqL.new (e31 _ _ (e2630 _ _ hls)), hL.mono (e2630.trans e31), okr3, lt, bl, bh, bL, iso.cut.congr fun a b => (sq3 a b).symm, by rw [sq3]; exact ll, by omega, fun H32 e32 => ?_⟩
      have e32' := e31'.trans e32
      refine ⟨true, true, rfl, rfl, _, rfl, ?_⟩
      refine iteF ?_
      -- Descartes
      refine ⟨_, rfl, by show 2 ≤ sizeLine; decide, fun t33 m33 => ?_⟩
      have e33 : Same H32 (upd H32 t33 (.tup [.int 0, .int 1])) := Same.new m33
      have f0 := fr_z (K := K) (H := upd H32 t33 (.tup [.int 0, .int 1])) 0 upd_same
      generalize upd H32 t33 (.tup [.int 0, .int 1]) = H33 at e33 f0 ⊢
      refine ⟨by show 2 ≤ sizeLine; decide, fun t34 m34 => ?_⟩
      have e34 : Same H33 (upd H33 t34 (.tup [.int 100, .int 1])) := Same.new m34
      have f100 := fr_z (K := K) (H := upd H33 t34 (.tup [.int 100, .int 1])) 100 upd_same
      generalize upd H33 t34 (.tup [.int 100, .int 1]) = H34 at e34 f100 ⊢
      refine ⟨by show 2 ≤ sizeLine; decide, fun t35 m35 => ?_⟩
      have e35 : Same H34 (upd H34 t35 (.tup [.ref t33, .ref t34])) := Same.new m35
      have e35' := e32'.trans (e33.trans (e34.trans e35))
      refine ⟨ap, t35, p, 0, 100, rfl, hp.mono e35', ⟨t33, t34, SqT.new upd_same, f0.mono (e34.trans e35), f100.mono e35⟩, S.ok, bt0 (by decide), bt_int (n := 100) (B := 100000) (Nat.lt_of_lt_of_le (show 100 < 2 ^ 7 by decide) (Nat.pow_le_pow_right (by decide) (by decide))) (by decide), by decide +kernel, fun H36 e36 => ?_⟩
      have e36' := e35'.trans e36
      refine ⟨_, rfl, ap, p, rfl, hp.mono e36', by omega, fun H37 e37 => ?_⟩
      have desc := Bd.desc_nrt (S.1.nz S.2.1) (b := 100)
      refine ⟨_, _, rfl, rfl, _, rfl, ?_⟩
      rw [decide_eq_false (show ¬ ((Bd.chz (p.map (·.num)) : Nat) : Int) < (Bd.nrt p 0 100 : Nat) by omega)]
      refine iteF ?_
      exact ⟨_, _, _, _, _, _, _, _, _, _, rfl, (p13.mono (e36'.trans e37)).le (by omega)⟩
    · rintro σ H' ⟨o2, o3, o4, o5, o6, o7, o8, o9, o10, o11, rfl, _⟩
      exact k H'
end
end Bw

namespace Bw
open PySem PySem.Spec PyProof.Rows L2
/-! ## the end: a law's call over a base in which no seer stands -/
theorem ns_hid {H : Hp} {h : Heap} (free : ∀ b o, h.get? b = some o → (∃ es ep, o.data = .dict es ep) ∨ o.cls = .type "module" → H b = none)
    {b : Addr} {m : Str → Option Value} (n : h.Ns b m) : (hidT h H).Ns b m := by
  obtain ⟨o, es, ep, g, d, r⟩ := n
  exact ⟨o, es, ep, hidT_get g (free b o g (.inl ⟨es, ep, d⟩)), d, r⟩
theorem seer_hid {H : Hp} {h : Heap} (free : ∀ b o, h.get? b = some o → (∃ es ep, o.data = .dict es ep) ∨ o.cls = .type "module" → H b = none)
    (x : h.NoSeer) : (hidT h H).NoSeer := by
  obtain ⟨⟨c1, n1, q1⟩, ⟨c2, n2, q2⟩, ⟨c3, n3, q3⟩, ⟨c4, bm, ob, n4, q4, g4, k4, d4⟩⟩ := x
  exact ⟨⟨c1, ns_hid free n1, q1⟩, ⟨c2, ns_hid free n2, q2⟩, ⟨c3, ns_hid free n3, q3⟩, ⟨c4, bm, ob, ns_hid free n4, q4, hidT_get g4 (free bm ob g4 (.inr k4)), k4, d4⟩⟩
section
variable {P : Program} {w : World} {K : PySem.W.Frag} {mg mb : Str → Option Value} {k : Nat} {fa p : Addr} {fd : FuncData} {x : Str} {sp : Sp} {st : Shared} {us : List Value} {zs : List Int}
/-- the call at one abstract heap -/
theorem call_at {H : Hp} (inK : K.In st.heap) (main : st.heap.Ns mainGlobals mg) (blt : st.heap.Ns builtinsNs mb) (same : ∀ y : Str, y ≠ "__name__" → mb y = bootBuiltins y)
    (lim : st.heap.NoLimit) (seer : st.heap.NoSeer) (calm : st.gens = #[]) (lst : st.heap.get? p = some { cls := .type "list", data := .seq us.toArray }) (room : Room k callerA)
    (promise : ∀ base : Heap, K.In base → base.Ns mainGlobals mg → base.NoSeer → FnOk P w K mg base CX0 k fa fd [x] sp)
    (bind : ∀ (s : Shared) (u : Value), BindsTo s fd ⟨[u], []⟩ [(x, u)]) (meets : sp [.ref p] H (fun v _ => v = .bl true) fun _ _ _ => False)
    (only : Only H) (ok : HOk P w H st.heap) (alone : ∀ b, H b ≠ none → b = p) (apart : H p ≠ none → K.lookup p = none) :
    codeAny (model P w) callerA (.call (.ref fa) ⟨[.ref p], []⟩) (fun r t => r = .ok (.ret (.bool true)) ∧ OldK st.heap t.heap ∧ t.os = st.os ∧ AllBare t.gens) st := by
  have other : ∀ b o, st.heap.get? b = some o → o.cls ≠ .type "list" ∨ (∃ es ep, o.data = .dict es ep) → H b = none := fun b o g hk => by
    refine Classical.byContradiction fun n => ?_
    obtain rfl := alone b n
    rw [lst] at g
    cases g
    rcases hk with z | ⟨es, ep, z⟩
    · exact z rfl
    · cases (show Data.seq us.toArray _ = Data.dict es ep from z)
  have free : ∀ b o, st.heap.get? b = some o → (∃ es ep, o.data = .dict es ep) ∨ o.cls = .type "module" → H b = none := fun b o g hk =>
    other b o g (hk.elim .inr fun z => .inl (by rw [z]; decide))
  have inB : K.In (hidT st.heap H) := fun b o l => by
    refine hidT_get (inK b o l) ?_
    refine Classical.byContradiction fun n => ?_
    obtain rfl := alone b n
    rw [apart n] at l
    cases l
  obtain ⟨mc, l1, l2⟩ := lim
  have md : Mod K mg (hidT st.heap H) := ⟨inB, ns_hid free main, ⟨mb, ns_hid free blt, same⟩, mc, ns_hid free l1, l2⟩
  have at0 : Env0 P w K mg (hidT st.heap H) callerA [] st H :=
    ⟨rfl, md, fun b o g => of_hidT g, Nat.le_of_eq (hidT_size _ _), trivial, (fun b hb => nomatch hb), ok, .of_eq calm⟩
  have ran := (promise _ inB (ns_hid free main) (seer_hid free seer)).run callerA [] st H ⟨[.ref p], []⟩ [.ref p] [.ref p] _ _ room at0 (bind st (.ref p)) (.cons rfl .nil) meets
  refine codeAny_mono ran fun r t got => ?_
  match r, got with
  | .error e, got => exact (show False from got).elim
  | .ok .next, got => exact (show False from got).elim
  | .ok .brk, got => exact (show False from got).elim
  | .ok .cont, got => exact (show False from got).elim
  | .ok (.ret u), got =>
    obtain ⟨v, H', os, bare, un, ok', rel, ans⟩ := got
    have ans : v = .bl true := ans
    subst ans
    have eu : u = Value.bool true := rel
    subst eu
    refine ⟨rfl, OldK.of_keep fun b o g => ?_, os, bare⟩
    cases hb : H b with
    | none => exact un.keep b o g hb (fun z => by cases z) (fun z => by cases z)
    | some y =>
      rcases only b with z | ⟨ob, xs, z⟩
      · rw [hb] at z; cases z
      · obtain ⟨g1, _⟩ := ok b _ z
        obtain ⟨g2, _⟩ := ok' b _ (un.frzs b ob _ z)
        rw [g] at g1
        cases g1
        exact g2
/-- the script is tracked as it stands, or it is one of the module's own objects -/
theorem call_end (inK : K.In st.heap) (main : st.heap.Ns mainGlobals mg) (blt : st.heap.Ns builtinsNs mb) (same : ∀ y : Str, y ≠ "__name__" → mb y = bootBuiltins y)
    (lim : st.heap.NoLimit) (seer : st.heap.NoSeer) (calm : st.gens = #[]) (lst : st.heap.get? p = some { cls := .type "list", data := .seq us.toArray }) (nums : IntsAre us zs) (size : zs.length ≤ sizeLine) (room : Room k callerA)
    (promise : ∀ base : Heap, K.In base → base.Ns mainGlobals mg → base.NoSeer → FnOk P w K mg base CX0 k fa fd [x] sp)
    (bind : ∀ (s : Shared) (u : Value), BindsTo s fd ⟨[u], []⟩ [(x, u)]) (meets : ∀ H : Hp, Only H → SqL K H p (zs.map V.int) → sp [.ref p] H (fun v _ => v = .bl true) fun _ _ _ => False) :
    codeAny (model P w) callerA (.call (.ref fa) ⟨[.ref p], []⟩) (fun r t => r = .ok (.ret (.bool true)) ∧ OldK st.heap t.heap ∧ t.os = st.os ∧ AllBare t.gens) st := by
  have vals := vals_ints nums
  have long := nums.length
  cases own : K.lookup p with
  | some o =>
    have g := inK p o own
    rw [lst] at g
    cases g
    have seen : SqL K (fun _ => none) p (zs.map V.int) := .inr ⟨_, us.toArray, _, own, rfl, rfl, rfl, by rw [List.size_toArray, long]; exact size, by simpa using vals⟩
    have bare : Only (fun _ => none) := fun _ => .inl rfl
    exact call_at inK main blt same lim seer calm lst room promise bind (meets _ bare seen) bare (fun b u z => nomatch (show (none : Option HO) = some u from z)) (fun b z => absurd rfl z) fun z => absurd rfl z
  | none =>
    have yes : ∀ {b : Addr}, b = p → (fun b => if b = p then some (HO.frz { cls := .type "list", data := .seq us.toArray } (.lst (zs.map V.int))) else none) b = some (HO.frz { cls := .type "list", data := .seq us.toArray } (.lst (zs.map V.int))) := fun e => if_pos e
    have no : ∀ {b : Addr}, b ≠ p → (fun b => if b = p then some (HO.frz { cls := .type "list", data := .seq us.toArray } (.lst (zs.map V.int))) else none) b = none := fun e => if_neg e
    generalize (fun b => if b = p then some (HO.frz { cls := .type "list", data := .seq us.toArray } (.lst (zs.map V.int))) else none) = G at yes no
    have bare : Only G := fun b => (Classical.em (b = p)).elim (fun e => .inr ⟨_, _, yes e⟩) fun e => .inl (no e)
    refine call_at inK main blt same lim seer calm lst room promise bind (meets G bare (.inl (.inr ⟨_, yes rfl⟩))) bare (fun b u z => ?_) (fun b z => Classical.byContradiction fun e => z (no e)) fun _ => own
    rcases Classical.em (b = p) with e | e
    · rw [yes e] at z
      cases z
      subst e
      exact ⟨lst, by rw [List.length_map]; exact size, us, _, vals, lst⟩
    · rw [no e] at z
      cases z
end
theorem walk_seer {l : PySem.W.OpenLaw} {n k : Nat} {q : Program} {loose : List Str} {XP : (Str → Option Value) → Heap → Prop} {YP : World → Heap → Prop} {d : DefRec} {K : Params → PySem.W.Frag} {sp : World → Sp} {x : Str} (most : l.most = some n) (small : n ≤ sizeLine) (plain : d.params.defaults = [])
    (room : Room k callerA) (alone : importsNone q = true) (stands : ∀ (w : World) (h : Heap), YP w h → (K w.params).In h)
    (promise : ∀ (w : World) (mg : Str → Option Value) (fa : Addr) (h : Heap), (K w.params).In h → h.Ns mainGlobals mg → mg d.name = some (.ref fa) → ∃ fd : FuncData, (∀ (s : Shared) (u : Value), BindsTo s fd ⟨[u], []⟩ [(x, u)]) ∧
      ∀ base : Heap, (K w.params).In base → base.Ns mainGlobals mg → base.NoSeer → FnOk l.prog w (K w.params) mg base CX0 k fa fd [x] (sp w))
    (meets : ∀ (w : World) (H : Hp) (a : Addr) (zs : List Int), Only H → SqL (K w.params) H a (zs.map V.int) → sp w [.ref a] H (fun v _ => v = .bl true) fun _ _ _ => False) : PySem.W.WalkO q loose XP YP l.row.toRowW d [] (fun f vs => PySem.call f vs) := by
  refine Att.attach_callB most plain fun w s₀ st mg mb fa o pm cd doc a us zs G Y g0 g1 g2 named lst nums long bits calm => ?_
  have inK := stands w _ Y
  obtain ⟨fd, bind, F⟩ := promise w mg fa _ inK G.T.g named
  exact call_end inK G.T.g G.T.b G.T.builtins G.T.nolimit (G.T.seer alone) calm lst nums (Nat.le_trans long small) room F bind fun H h1 h2 => meets w H a zs h1 h2
end Bw

namespace Bw
open PySem PySem.Spec PyProof.Rows L2
/-! ## what the top has written -/
section
variable {K : PySem.W.Frag} {mg : Str → Option Value} {h : Heap}
theorem has_mk {x : Str} {st : Stmt} {ps : List Str} {f : Addr} {oc : Value} {od an : Option Addr} {sl : Array (Option Value)} {kV dc pm cd ct : Value} (X : K.In h) (G : h.Ns mainGlobals mg)
    (a : PySem.W.nsIn K mainGlobals x = some (some (.ref f))) (l : K.lookup f = some ⟨oc, od, .func (PySem.W.fnOf x x (defArgs st) (defBody st) (defScope st) .none kV dc pm an cd ct), sl⟩)
    (c : PySem.W.codeIn K cd x = true) (k : PySem.W.keepIn K (.ref f) = true) (b : ∀ {f : Addr} {fd : FuncData}, Fun K x x st f fd → Binds K fd ps []) : Has K mg x st ps :=
  ⟨f, _, fun_mk l c k, PySem.W.mg_of X G a, b (fun_mk l c k)⟩
theorem con_fr {x : Str} {z : Addr} {n d : Int} {t u : Tok} {m : Nat} {dd : Option Addr} {sl : Array (Option Value)} (r : Rat) (X : K.In h) (G : h.Ns mainGlobals mg) (a : PySem.W.nsIn K mainGlobals x = some (some (.ref z)))
    (l : K.lookup z = some ⟨.type "tuple", dd, .seq #[.int n t, .int d u] m, sl⟩) (hn : r.num = n) (hd : ((r.den : Nat) : Int) = d) : ∃ a, mg x = some (.ref a) ∧ ∀ H, Fr K H a r := by
  subst hn hd
  exact ⟨z, PySem.W.mg_of X G a, fun H => .inr ⟨_, _, m, l, rfl, rfl, by show 2 ≤ sizeLine; decide, .cons ⟨t, rfl⟩ (.cons ⟨u, rfl⟩ .nil)⟩⟩
theorem con_str {x z : Str} {t : Tok} (X : K.In h) (G : h.Ns mainGlobals mg) (a : PySem.W.nsIn K mainGlobals x = some (some (.str z t))) : ∃ t, mg x = some (.str z t) := ⟨t, PySem.W.mg_of X G a⟩
end
/-- each def keeps its promise: one after the other -/
theorem all_ok {P : Program} {w : World} {K : PySem.W.Frag} {mg : Str → Option Value} {base : Heap} {f : Addr} {fd : FuncData} (T : Txt P K mg base) (F : Fun K "law" "law" s_law f fd)
    (h_divisor : Has K mg "divisor" s_divisor ["a", "b"]) (h_fraction : Has K mg "fraction" s_fraction ["top", "bottom"]) (h_plus : Has K mg "plus" s_plus ["a", "b"]) (h_minus : Has K mg "minus" s_minus ["a", "b"]) (h_times : Has K mg "times" s_times ["a", "b"]) (h_over : Has K mg "over" s_over ["a", "b"]) (h_is_less : Has K mg "is_less" s_is_less ["a", "b"]) (h_negated : Has K mg "negated" s_negated ["a"]) (h_middle : Has K mg "middle" s_middle ["a", "b"]) (h_trimmed : Has K mg "trimmed" s_trimmed ["some"]) (h_value_at : Has K mg "value_at" s_value_at ["p", "x"]) (h_scaled : Has K mg "scaled" s_scaled ["p", "factor"]) (h_product_of : Has K mg "product_of" s_product_of ["p", "q"]) (h_derivative : Has K mg "derivative" s_derivative ["p"]) (h_divided : Has K mg "divided" s_divided ["p", "q"]) (h_rest_of : Has K mg "rest_of" s_rest_of ["p", "q"]) (h_common : Has K mg "common" s_common ["p", "q"]) (h_lowered : Has K mg "lowered" s_lowered ["numbers"]) (h_whole_numbers : Has K mg "whole_numbers" s_whole_numbers ["p"]) (h_turned_rest : Has K mg "turned_rest" s_turned_rest ["p", "q"]) (h_sturm_rows : Has K mg "sturm_rows" s_sturm_rows ["p"]) (h_sign_at : Has K mg "sign_at" s_sign_at ["row", "x"]) (h_sign_changes : Has K mg "sign_changes" s_sign_changes ["rows", "x"]) (h_count_by : Has K mg "count_by" s_count_by ["rows", "interval"]) (h_count_roots : Has K mg "count_roots" s_count_roots ["p", "interval"]) (h_split_by : Has K mg "split_by" s_split_by ["rows", "interval"]) (h_isolated : Has K mg "isolated" s_isolated ["p", "interval"]) (h_halved : Has K mg "halved" s_halved ["rows", "interval"]) (h_narrowed : Has K mg "narrowed" s_narrowed ["p", "interval", "width"]) (h_is_fraction : Has K mg "is_fraction" s_is_fraction ["value"]) (h_is_interval : Has K mg "is_interval" s_is_interval ["value"]) (h_is_isolated : Has K mg "is_isolated" s_is_isolated ["p", "interval", "value"]) (h_are_equal : Has K mg "are_equal" s_are_equal ["p", "one", "q", "other"]) (h_parted : Has K mg "parted" s_parted ["p", "one", "q", "other"]) (h_compared : Has K mg "compared" s_compared ["p", "one", "q", "other"]) (h_find_between : Has K mg "find_between" s_find_between ["p", "one", "q", "other"]) (h_changes : Has K mg "changes" s_changes ["p"]) (h_law_gcd : Has K mg "_law_gcd" s_law_gcd ["_law_a", "_law_b"]) (h_law_fraction : Has K mg "_law_fraction" s_law_fraction ["_law_top", "_law_bottom"]) (h_law_plus : Has K mg "_law_plus" s_law_plus ["_law_a", "_law_b"]) (h_law_minus : Has K mg "_law_minus" s_law_minus ["_law_a", "_law_b"]) (h_law_times : Has K mg "_law_times" s_law_times ["_law_a", "_law_b"]) (h_law_over : Has K mg "_law_over" s_law_over ["_law_a", "_law_b"]) (h_law_is_less : Has K mg "_law_is_less" s_law_is_less ["_law_a", "_law_b"]) (h_law_spread : Has K mg "_law_spread" s_law_spread ["_law_cell", "_law_at"]) (h_law_take : Has K mg "_law_take" s_law_take ["_law_pen", "_law_amount"]) (h_law_one_of : Has K mg "_law_one_of" s_law_one_of ["_law_pen", "_law_some"]) (h_law_open : Has K mg "_law_open" s_law_open ["_law_script"]) (h_law_draw_fraction : Has K mg "_law_draw_fraction" s_law_draw_fraction ["_law_pen"]) (h_law_draw_small : Has K mg "_law_draw_small" s_law_draw_small ["_law_pen"]) (h_law_trimmed : Has K mg "_law_trimmed" s_law_trimmed ["_law_some"]) (h_law_draw_end : Has K mg "_law_draw_end" s_law_draw_end ["_law_pen", "_law_roots"]) (h_law_draw_interval : Has K mg "_law_draw_interval" s_law_draw_interval ["_law_pen", "_law_roots"]) (h_law_draw_plain : Has K mg "_law_draw_plain" s_law_draw_plain ["_law_pen", "_law_most"]) (h_law_signs_right : Has K mg "_law_signs_right" s_law_signs_right ["_law_p", "_law_low", "_law_high"]) (h_law_neighbours_right : Has K mg "_law_neighbours_right" s_law_neighbours_right ["_law_p", "_law_some"]) : FnOk P w K mg base CX0 131 f fd ["_law_script"] (spLaw K) := by
  have p_divisor := ok_divisor (P := P) (w := w) (base := base) h_divisor T
  have p_fraction := ok_fraction (P := P) (w := w) (base := base) h_fraction T p_divisor
  have p_plus := ok_plus (P := P) (w := w) (base := base) h_plus p_fraction
  have p_minus := ok_minus (P := P) (w := w) (base := base) h_minus p_fraction
  have p_times := ok_times (P := P) (w := w) (base := base) h_times p_fraction
  have p_over := ok_over (P := P) (w := w) (base := base) h_over p_fraction
  have p_is_less := ok_is_less (P := P) (w := w) (base := base) h_is_less 
  have p_negated := ok_negated (P := P) (w := w) (base := base) h_negated 
  have p_middle := ok_middle (P := P) (w := w) (base := base) h_middle p_plus p_times
  have p_trimmed := ok_trimmed (P := P) (w := w) (base := base) h_trimmed T
  have p_value_at := ok_value_at (P := P) (w := w) (base := base) h_value_at T p_plus p_times
  have p_scaled := ok_scaled (P := P) (w := w) (base := base) h_scaled T p_trimmed p_times
  have p_product_of := ok_product_of (P := P) (w := w) (base := base) h_product_of T p_trimmed p_plus p_times
  have p_derivative := ok_derivative (P := P) (w := w) (base := base) h_derivative T p_trimmed p_times
  have p_divided := ok_divided (P := P) (w := w) (base := base) h_divided T p_trimmed p_plus p_times p_over p_negated
  have p_rest_of := ok_rest_of (P := P) (w := w) (base := base) h_rest_of p_divided
  have p_common := ok_common (P := P) (w := w) (base := base) h_common T p_rest_of p_scaled p_over
  have p_lowered := ok_lowered (P := P) (w := w) (base := base) h_lowered T p_divisor
  have p_whole_numbers := ok_whole_numbers (P := P) (w := w) (base := base) h_whole_numbers T p_divisor p_lowered
  have p_turned_rest := ok_turned_rest (P := P) (w := w) (base := base) h_turned_rest T p_lowered
  have p_sturm_rows := ok_sturm_rows (P := P) (w := w) (base := base) h_sturm_rows T p_whole_numbers p_derivative p_divided p_common p_turned_rest
  have p_sign_at := ok_sign_at (P := P) (w := w) (base := base) h_sign_at T
  have p_sign_changes := ok_sign_changes (P := P) (w := w) (base := base) h_sign_changes T p_sign_at
  have p_count_by := ok_count_by (P := P) (w := w) (base := base) h_count_by p_sign_changes
  have p_count_roots := ok_count_roots (P := P) (w := w) (base := base) h_count_roots p_sturm_rows p_count_by
  have p_split_by := ok_split_by (P := P) (w := w) (base := base) h_split_by p_middle p_count_by
  have p_isolated := ok_isolated (P := P) (w := w) (base := base) h_isolated p_sturm_rows p_split_by
  have p_halved := ok_halved (P := P) (w := w) (base := base) h_halved p_middle p_count_by
  have p_narrowed := ok_narrowed (P := P) (w := w) (base := base) h_narrowed p_sturm_rows p_is_less p_minus p_halved
  have p_is_fraction := ok_is_fraction (P := P) (w := w) (base := base) h_is_fraction T p_divisor
  have p_is_interval := ok_is_interval (P := P) (w := w) (base := base) h_is_interval T p_is_fraction p_is_less
  have p_is_isolated := ok_is_isolated (P := P) (w := w) (base := base) h_is_isolated T p_is_interval p_is_less p_sturm_rows p_count_by
  have p_are_equal := ok_are_equal (P := P) (w := w) (base := base) h_are_equal p_is_less p_common p_count_roots
  have p_parted := ok_parted (P := P) (w := w) (base := base) h_parted T p_is_less p_sturm_rows p_halved
  have p_compared := ok_compared (P := P) (w := w) (base := base) h_compared T p_are_equal p_parted
  have p_find_between := ok_find_between (P := P) (w := w) (base := base) h_find_between p_are_equal p_parted
  have p_changes := ok_changes (P := P) (w := w) (base := base) h_changes T
  have p_law_gcd := ok_law_gcd (P := P) (w := w) (base := base) h_law_gcd T
  have p_law_fraction := ok_law_fraction (P := P) (w := w) (base := base) h_law_fraction T p_law_gcd
  have p_law_plus := ok_law_plus (P := P) (w := w) (base := base) h_law_plus p_law_fraction
  have p_law_minus := ok_law_minus (P := P) (w := w) (base := base) h_law_minus p_law_fraction
  have p_law_times := ok_law_times (P := P) (w := w) (base := base) h_law_times p_law_fraction
  have p_law_over := ok_law_over (P := P) (w := w) (base := base) h_law_over p_law_fraction
  have p_law_is_less := ok_law_is_less (P := P) (w := w) (base := base) h_law_is_less 
  have p_law_spread := ok_law_spread (P := P) (w := w) (base := base) h_law_spread 
  have p_law_take := ok_law_take (P := P) (w := w) (base := base) h_law_take T p_law_spread
  have p_law_one_of := ok_law_one_of (P := P) (w := w) (base := base) h_law_one_of T p_law_take
  have p_law_open := ok_law_open (P := P) (w := w) (base := base) h_law_open T
  have p_law_draw_fraction := ok_law_draw_fraction (P := P) (w := w) (base := base) h_law_draw_fraction T p_law_take p_law_one_of p_law_fraction
  have p_law_draw_small := ok_law_draw_small (P := P) (w := w) (base := base) h_law_draw_small T p_law_take p_law_one_of p_law_fraction
  have p_law_trimmed := ok_law_trimmed (P := P) (w := w) (base := base) h_law_trimmed T
  have p_law_draw_end := ok_law_draw_end (P := P) (w := w) (base := base) h_law_draw_end T p_law_draw_small p_law_draw_fraction p_law_one_of
  have p_law_draw_interval := ok_law_draw_interval (P := P) (w := w) (base := base) h_law_draw_interval T p_law_draw_end p_law_plus p_law_one_of p_law_is_less
  have p_law_draw_plain := ok_law_draw_plain (P := P) (w := w) (base := base) h_law_draw_plain T p_law_take p_law_trimmed
  have p_law_signs_right := ok_law_signs_right (P := P) (w := w) (base := base) h_law_signs_right T p_law_minus p_law_over p_law_plus p_law_times p_value_at p_count_roots
  have p_law_neighbours_right := ok_law_neighbours_right (P := P) (w := w) (base := base) h_law_neighbours_right T p_narrowed p_compared p_find_between p_law_is_less p_law_plus p_count_roots
  exact ok_law F T p_law_open p_law_draw_plain p_law_draw_interval p_law_plus p_law_times p_law_minus p_law_one_of p_count_roots p_law_signs_right p_common p_product_of p_isolated p_is_isolated p_law_neighbours_right p_changes
theorem end_ok {P : Program} {w : World} {K : PySem.W.Frag} {mg : Str → Option Value} {fa : Addr} (tree : P.given.tree = none) (named : mg "law" = some (.ref fa))
    (n_abs : mg "abs" = none) (n_len : mg "len" = none) (n_lst : mg "list" = none) (n_tup : mg "tuple" = none) (n_rev : mg "reversed" = none) (n_rng : mg "range" = none) (n_enu : mg "enumerate" = none) (n_zip : mg "zip" = none) (n_all : mg "all" = none) (n_isi : mg "isinstance" = none) (n_int : mg "int" = none) (n_bool : mg "bool" = none) (n_min : mg "min" = none)
    (zero : ∃ a, mg "ZERO" = some (.ref a) ∧ ∀ H, Fr K H a 0) (one : ∃ a, mg "ONE" = some (.ref a) ∧ ∀ H, Fr K H a 1) (less : ∃ t, mg "LESS" = some (.str "less" t)) (equal : ∃ t, mg "EQUAL" = some (.str "equal" t)) (greater : ∃ t, mg "GREATER" = some (.str "greater" t))
    (h_law : Has K mg "law" s_law ["_law_script"]) (h_divisor : Has K mg "divisor" s_divisor ["a", "b"]) (h_fraction : Has K mg "fraction" s_fraction ["top", "bottom"]) (h_plus : Has K mg "plus" s_plus ["a", "b"]) (h_minus : Has K mg "minus" s_minus ["a", "b"]) (h_times : Has K mg "times" s_times ["a", "b"]) (h_over : Has K mg "over" s_over ["a", "b"]) (h_is_less : Has K mg "is_less" s_is_less ["a", "b"]) (h_negated : Has K mg "negated" s_negated ["a"]) (h_middle : Has K mg "middle" s_middle ["a", "b"]) (h_trimmed : Has K mg "trimmed" s_trimmed ["some"]) (h_value_at : Has K mg "value_at" s_value_at ["p", "x"]) (h_scaled : Has K mg "scaled" s_scaled ["p", "factor"]) (h_product_of : Has K mg "product_of" s_product_of ["p", "q"]) (h_derivative : Has K mg "derivative" s_derivative ["p"]) (h_divided : Has K mg "divided" s_divided ["p", "q"]) (h_rest_of : Has K mg "rest_of" s_rest_of ["p", "q"]) (h_common : Has K mg "common" s_common ["p", "q"]) (h_lowered : Has K mg "lowered" s_lowered ["numbers"]) (h_whole_numbers : Has K mg "whole_numbers" s_whole_numbers ["p"]) (h_turned_rest : Has K mg "turned_rest" s_turned_rest ["p", "q"]) (h_sturm_rows : Has K mg "sturm_rows" s_sturm_rows ["p"]) (h_sign_at : Has K mg "sign_at" s_sign_at ["row", "x"]) (h_sign_changes : Has K mg "sign_changes" s_sign_changes ["rows", "x"]) (h_count_by : Has K mg "count_by" s_count_by ["rows", "interval"]) (h_count_roots : Has K mg "count_roots" s_count_roots ["p", "interval"]) (h_split_by : Has K mg "split_by" s_split_by ["rows", "interval"]) (h_isolated : Has K mg "isolated" s_isolated ["p", "interval"]) (h_halved : Has K mg "halved" s_halved ["rows", "interval"]) (h_narrowed : Has K mg "narrowed" s_narrowed ["p", "interval", "width"]) (h_is_fraction : Has K mg "is_fraction" s_is_fraction ["value"]) (h_is_interval : Has K mg "is_interval" s_is_interval ["value"]) (h_is_isolated : Has K mg "is_isolated" s_is_isolated ["p", "interval", "value"]) (h_are_equal : Has K mg "are_equal" s_are_equal ["p", "one", "q", "other"]) (h_parted : Has K mg "parted" s_parted ["p", "one", "q", "other"]) (h_compared : Has K mg "compared" s_compared ["p", "one", "q", "other"]) (h_find_between : Has K mg "find_between" s_find_between ["p", "one", "q", "other"]) (h_changes : Has K mg "changes" s_changes ["p"]) (h_law_gcd : Has K mg "_law_gcd" s_law_gcd ["_law_a", "_law_b"]) (h_law_fraction : Has K mg "_law_fraction" s_law_fraction ["_law_top", "_law_bottom"]) (h_law_plus : Has K mg "_law_plus" s_law_plus ["_law_a", "_law_b"]) (h_law_minus : Has K mg "_law_minus" s_law_minus ["_law_a", "_law_b"]) (h_law_times : Has K mg "_law_times" s_law_times ["_law_a", "_law_b"]) (h_law_over : Has K mg "_law_over" s_law_over ["_law_a", "_law_b"]) (h_law_is_less : Has K mg "_law_is_less" s_law_is_less ["_law_a", "_law_b"]) (h_law_spread : Has K mg "_law_spread" s_law_spread ["_law_cell", "_law_at"]) (h_law_take : Has K mg "_law_take" s_law_take ["_law_pen", "_law_amount"]) (h_law_one_of : Has K mg "_law_one_of" s_law_one_of ["_law_pen", "_law_some"]) (h_law_open : Has K mg "_law_open" s_law_open ["_law_script"]) (h_law_draw_fraction : Has K mg "_law_draw_fraction" s_law_draw_fraction ["_law_pen"]) (h_law_draw_small : Has K mg "_law_draw_small" s_law_draw_small ["_law_pen"]) (h_law_trimmed : Has K mg "_law_trimmed" s_law_trimmed ["_law_some"]) (h_law_draw_end : Has K mg "_law_draw_end" s_law_draw_end ["_law_pen", "_law_roots"]) (h_law_draw_interval : Has K mg "_law_draw_interval" s_law_draw_interval ["_law_pen", "_law_roots"]) (h_law_draw_plain : Has K mg "_law_draw_plain" s_law_draw_plain ["_law_pen", "_law_most"]) (h_law_signs_right : Has K mg "_law_signs_right" s_law_signs_right ["_law_p", "_law_low", "_law_high"]) (h_law_neighbours_right : Has K mg "_law_neighbours_right" s_law_neighbours_right ["_law_p", "_law_some"]) :
    ∃ fd : FuncData, (∀ (s : Shared) (u : Value), BindsTo s fd ⟨[u], []⟩ [("_law_script", u)]) ∧ ∀ base : Heap, K.In base → base.Ns mainGlobals mg → base.NoSeer → FnOk P w K mg base CX0 131 fa fd ["_law_script"] (spLaw K) := by
  obtain ⟨f, fd, F, m, b⟩ := h_law
  rw [named] at m
  cases m
  obtain ⟨oc, od, kV, doc, pm, an, cdv, ct, osl, e, l, c⟩ := F.ex
  subst e
  refine ⟨PySem.W.fnOf "law" "law" (defArgs s_law) (defBody s_law) (defScope s_law) .none kV doc pm an cdv ct, fun s u => .of_eq rfl, fun base X G seer => ?_⟩
  exact all_ok ⟨seer, tree, n_abs, n_len, n_lst, n_tup, n_rev, n_rng, n_enu, n_zip, n_all, n_isi, n_int, n_bool, n_min, zero, one, less, equal, greater⟩ F h_divisor h_fraction h_plus h_minus h_times h_over h_is_less h_negated h_middle h_trimmed h_value_at h_scaled h_product_of h_derivative h_divided h_rest_of h_common h_lowered h_whole_numbers h_turned_rest h_sturm_rows h_sign_at h_sign_changes h_count_by h_count_roots h_split_by h_isolated h_halved h_narrowed h_is_fraction h_is_interval h_is_isolated h_are_equal h_parted h_compared h_find_between h_changes h_law_gcd h_law_fraction h_law_plus h_law_minus h_law_times h_law_over h_law_is_less h_law_spread h_law_take h_law_one_of h_law_open h_law_draw_fraction h_law_draw_small h_law_trimmed h_law_draw_end h_law_draw_interval h_law_draw_plain h_law_signs_right h_law_neighbours_right
end Bw
open PySem PySem.W PyProof.Rows
set_option maxHeartbeats 0 in
theorem PySem.Challenge.cw_bondroots_k45_whole_roots_holds : PySem.Challenge.rw_bondroots_k45_whole_roots.Holds := by
  w_on; o_law; k_head; (case hw => w_witness2)
  k_fill
  refine Bw.walk_seer (l := PySem.Challenge.rw_bondroots_k45_whole_roots) (n := 63) (k := 131) (x := "_law_script") (sp := fun w => Bw.spLaw _) rfl (by decide) rfl ⟨rfl, by decide, by decide⟩ (by decide +kernel) (fun w h Y => PySem.W.kIn_of Y) ?F (fun _ _ a zs _ hS => ⟨a, zs, rfl, hS, fun _ => rfl⟩)
  case F =>
    intro w mg fa h KX G hmg
    refine' Bw.end_ok rfl hmg ?n_abs ?n_len ?n_lst ?n_tup ?n_rev ?n_rng ?n_enu ?n_zip ?n_all ?n_isi ?n_int ?n_bool ?n_min ?zero ?one ?less ?equal ?greater ?h_law ?h_divisor ?h_fraction ?h_plus ?h_minus ?h_times ?h_over ?h_is_less ?h_negated ?h_middle ?h_trimmed ?h_value_at ?h_scaled ?h_product_of ?h_derivative ?h_divided ?h_rest_of ?h_common ?h_lowered ?h_whole_numbers ?h_turned_rest ?h_sturm_rows ?h_sign_at ?h_sign_changes ?h_count_by ?h_count_roots ?h_split_by ?h_isolated ?h_halved ?h_narrowed ?h_is_fraction ?h_is_interval ?h_is_isolated ?h_are_equal ?h_parted ?h_compared ?h_find_between ?h_changes ?h_law_gcd ?h_law_fraction ?h_law_plus ?h_law_minus ?h_law_times ?h_law_over ?h_law_is_less ?h_law_spread ?h_law_take ?h_law_one_of ?h_law_open ?h_law_draw_fraction ?h_law_draw_small ?h_law_trimmed ?h_law_draw_end ?h_law_draw_interval ?h_law_draw_plain ?h_law_signs_right ?h_law_neighbours_right
    (case n_abs => refine' PySem.W.mg_none_of KX G ?z; (case z => k_is))
    (case n_len => refine' PySem.W.mg_none_of KX G ?z; (case z => k_is))
    (case n_lst => refine' PySem.W.mg_none_of KX G ?z; (case z => k_is))
    (case n_tup => refine' PySem.W.mg_none_of KX G ?z; (case z => k_is))
    (case n_rev => refine' PySem.W.mg_none_of KX G ?z; (case z => k_is))
    (case n_rng => refine' PySem.W.mg_none_of KX G ?z; (case z => k_is))
    (case n_enu => refine' PySem.W.mg_none_of KX G ?z; (case z => k_is))
    (case n_zip => refine' PySem.W.mg_none_of KX G ?z; (case z => k_is))
    (case n_all => refine' PySem.W.mg_none_of KX G ?z; (case z => k_is))
    (case n_isi => refine' PySem.W.mg_none_of KX G ?z; (case z => k_is))
    (case n_int => refine' PySem.W.mg_none_of KX G ?z; (case z => k_is))
    (case n_bool => refine' PySem.W.mg_none_of KX G ?z; (case z => k_is))
    (case n_min => refine' PySem.W.mg_none_of KX G ?z; (case z => k_is))
    (case zero => refine' Bw.con_fr 0 KX G ?a ?l rfl rfl; (case a => k_is); (case l => k_is))
    (case one => refine' Bw.con_fr 1 KX G ?a ?l rfl rfl; (case a => k_is); (case l => k_is))
    (case less => refine' Bw.con_str KX G ?a; (case a => k_is))
    (case equal => refine' Bw.con_str KX G ?a; (case a => k_is))
    (case greater => refine' Bw.con_str KX G ?a; (case a => k_is))
    (case h_law => refine' Bw.has_mk KX G ?a ?l ?c ?k Bw.bi_law; (case a => k_is); (case l => k_is); (case c => k_is); (case k => k_is))
    (case h_divisor => refine' Bw.has_mk KX G ?a ?l ?c ?k Bw.bi_divisor; (case a => k_is); (case l => k_is); (case c => k_is); (case k => k_is))
    (case h_fraction => refine' Bw.has_mk KX G ?a ?l ?c ?k Bw.bi_fraction; (case a => k_is); (case l => k_is); (case c => k_is); (case k => k_is))
    (case h_plus => refine' Bw.has_mk KX G ?a ?l ?c ?k Bw.bi_plus; (case a => k_is); (case l => k_is); (case c => k_is); (case k => k_is))
    (case h_minus => refine' Bw.has_mk KX G ?a ?l ?c ?k Bw.bi_minus; (case a => k_is); (case l => k_is); (case c => k_is); (case k => k_is))
    (case h_times => refine' Bw.has_mk KX G ?a ?l ?c ?k Bw.bi_times; (case a => k_is); (case l => k_is); (case c => k_is); (case k => k_is))
    (case h_over => refine' Bw.has_mk KX G ?a ?l ?c ?k Bw.bi_over; (case a => k_is); (case l => k_is); (case c => k_is); (case k => k_is))
    (case h_is_less => refine' Bw.has_mk KX G ?a ?l ?c ?k Bw.bi_is_less; (case a => k_is); (case l => k_is); (case c => k_is); (case k => k_is))
    (case h_negated => refine' Bw.has_mk KX G ?a ?l ?c ?k Bw.bi_negated; (case a => k_is); (case l => k_is); (case c => k_is); (case k => k_is))
    (case h_middle => refine' Bw.has_mk KX G ?a ?l ?c ?k Bw.bi_middle; (case a => k_is); (case l => k_is); (case c => k_is); (case k => k_is))
    (case h_trimmed => refine' Bw.has_mk KX G ?a ?l ?c ?k Bw.bi_trimmed; (case a => k_is); (case l => k_is); (case c => k_is); (case k => k_is))
    (case h_value_at => refine' Bw.has_mk KX G ?a ?l ?c ?k Bw.bi_value_at; (case a => k_is); (case l => k_is); (case c => k_is); (case k => k_is))
    (case h_scaled => refine' Bw.has_mk KX G ?a ?l ?c ?k Bw.bi_scaled; (case a => k_is); (case l => k_is); (case c => k_is); (case k => k_is))
    (case h_product_of => refine' Bw.has_mk KX G ?a ?l ?c ?k Bw.bi_product_of; (case a => k_is); (case l => k_is); (case c => k_is); (case k => k_is))
    (case h_derivative => refine' Bw.has_mk KX G ?a ?l ?c ?k Bw.bi_derivative; (case a => k_is); (case l => k_is); (case c => k_is); (case k => k_is))
    (case h_divided => refine' Bw.has_mk KX G ?a ?l ?c ?k Bw.bi_divided; (case a => k_is); (case l => k_is); (case c => k_is); (case k => k_is))
    (case h_rest_of => refine' Bw.has_mk KX G ?a ?l ?c ?k Bw.bi_rest_of; (case a => k_is); (case l => k_is); (case c => k_is); (case k => k_is))
    (case h_common => refine' Bw.has_mk KX G ?a ?l ?c ?k Bw.bi_common; (case a => k_is); (case l => k_is); (case c => k_is); (case k => k_is))
    (case h_lowered => refine' Bw.has_mk KX G ?a ?l ?c ?k Bw.bi_lowered; (case a => k_is); (case l => k_is); (case c => k_is); (case k => k_is))
    (case h_whole_numbers => refine' Bw.has_mk KX G ?a ?l ?c ?k Bw.bi_whole_numbers; (case a => k_is); (case l => k_is); (case c => k_is); (case k => k_is))
    (case h_turned_rest => refine' Bw.has_mk KX G ?a ?l ?c ?k Bw.bi_turned_rest; (case a => k_is); (case l => k_is); (case c => k_is); (case k => k_is))
    (case h_sturm_rows => refine' Bw.has_mk KX G ?a ?l ?c ?k Bw.bi_sturm_rows; (case a => k_is); (case l => k_is); (case c => k_is); (case k => k_is))
    (case h_sign_at => refine' Bw.has_mk KX G ?a ?l ?c ?k Bw.bi_sign_at; (case a => k_is); (case l => k_is); (case c => k_is); (case k => k_is))
    (case h_sign_changes => refine' Bw.has_mk KX G ?a ?l ?c ?k Bw.bi_sign_changes; (case a => k_is); (case l => k_is); (case c => k_is); (case k => k_is))
    (case h_count_by => refine' Bw.has_mk KX G ?a ?l ?c ?k Bw.bi_count_by; (case a => k_is); (case l => k_is); (case c => k_is); (case k => k_is))
    (case h_count_roots => refine' Bw.has_mk KX G ?a ?l ?c ?k Bw.bi_count_roots; (case a => k_is); (case l => k_is); (case c => k_is); (case k => k_is))
    (case h_split_by => refine' Bw.has_mk KX G ?a ?l ?c ?k Bw.bi_split_by; (case a => k_is); (case l => k_is); (case c => k_is); (case k => k_is))
    (case h_isolated => refine' Bw.has_mk KX G ?a ?l ?c ?k Bw.bi_isolated; (case a => k_is); (case l => k_is); (case c => k_is); (case k => k_is))
    (case h_halved => refine' Bw.has_mk KX G ?a ?l ?c ?k Bw.bi_halved; (case a => k_is); (case l => k_is); (case c => k_is); (case k => k_is))
    (case h_narrowed => refine' Bw.has_mk KX G ?a ?l ?c ?k Bw.bi_narrowed; (case a => k_is); (case l => k_is); (case c => k_is); (case k => k_is))
    (case h_is_fraction => refine' Bw.has_mk KX G ?a ?l ?c ?k Bw.bi_is_fraction; (case a => k_is); (case l => k_is); (case c => k_is); (case k => k_is))
    (case h_is_interval => refine' Bw.has_mk KX G ?a ?l ?c ?k Bw.bi_is_interval; (case a => k_is); (case l => k_is); (case c => k_is); (case k => k_is))
    (case h_is_isolated => refine' Bw.has_mk KX G ?a ?l ?c ?k Bw.bi_is_isolated; (case a => k_is); (case l => k_is); (case c => k_is); (case k => k_is))
    (case h_are_equal => refine' Bw.has_mk KX G ?a ?l ?c ?k Bw.bi_are_equal; (case a => k_is); (case l => k_is); (case c => k_is); (case k => k_is))
    (case h_parted => refine' Bw.has_mk KX G ?a ?l ?c ?k Bw.bi_parted; (case a => k_is); (case l => k_is); (case c => k_is); (case k => k_is))
    (case h_compared => refine' Bw.has_mk KX G ?a ?l ?c ?k Bw.bi_compared; (case a => k_is); (case l => k_is); (case c => k_is); (case k => k_is))
    (case h_find_between => refine' Bw.has_mk KX G ?a ?l ?c ?k Bw.bi_find_between; (case a => k_is); (case l => k_is); (case c => k_is); (case k => k_is))
    (case h_changes => refine' Bw.has_mk KX G ?a ?l ?c ?k Bw.bi_changes; (case a => k_is); (case l => k_is); (case c => k_is); (case k => k_is))
    (case h_law_gcd => refine' Bw.has_mk KX G ?a ?l ?c ?k Bw.bi_law_gcd; (case a => k_is); (case l => k_is); (case c => k_is); (case k => k_is))
    (case h_law_fraction => refine' Bw.has_mk KX G ?a ?l ?c ?k Bw.bi_law_fraction; (case a => k_is); (case l => k_is); (case c => k_is); (case k => k_is))
    (case h_law_plus => refine' Bw.has_mk KX G ?a ?l ?c ?k Bw.bi_law_plus; (case a => k_is); (case l => k_is); (case c => k_is); (case k => k_is))
    (case h_law_minus => refine' Bw.has_mk KX G ?a ?l ?c ?k Bw.bi_law_minus; (case a => k_is); (case l => k_is); (case c => k_is); (case k => k_is))
    (case h_law_times => refine' Bw.has_mk KX G ?a ?l ?c ?k Bw.bi_law_times; (case a => k_is); (case l => k_is); (case c => k_is); (case k => k_is))
    (case h_law_over => refine' Bw.has_mk KX G ?a ?l ?c ?k Bw.bi_law_over; (case a => k_is); (case l => k_is); (case c => k_is); (case k => k_is))
    (case h_law_is_less => refine' Bw.has_mk KX G ?a ?l ?c ?k Bw.bi_law_is_less; (case a => k_is); (case l => k_is); (case c => k_is); (case k => k_is))
    (case h_law_spread => refine' Bw.has_mk KX G ?a ?l ?c ?k Bw.bi_law_spread; (case a => k_is); (case l => k_is); (case c => k_is); (case k => k_is))
    (case h_law_take => refine' Bw.has_mk KX G ?a ?l ?c ?k Bw.bi_law_take; (case a => k_is); (case l => k_is); (case c => k_is); (case k => k_is))
    (case h_law_one_of => refine' Bw.has_mk KX G ?a ?l ?c ?k Bw.bi_law_one_of; (case a => k_is); (case l => k_is); (case c => k_is); (case k => k_is))
    (case h_law_open => refine' Bw.has_mk KX G ?a ?l ?c ?k Bw.bi_law_open; (case a => k_is); (case l => k_is); (case c => k_is); (case k => k_is))
    (case h_law_draw_fraction => refine' Bw.has_mk KX G ?a ?l ?c ?k Bw.bi_law_draw_fraction; (case a => k_is); (case l => k_is); (case c => k_is); (case k => k_is))
    (case h_law_draw_small => refine' Bw.has_mk KX G ?a ?l ?c ?k Bw.bi_law_draw_small; (case a => k_is); (case l => k_is); (case c => k_is); (case k => k_is))
    (case h_law_trimmed => refine' Bw.has_mk KX G ?a ?l ?c ?k Bw.bi_law_trimmed; (case a => k_is); (case l => k_is); (case c => k_is); (case k => k_is))
    (case h_law_draw_end => refine' Bw.has_mk KX G ?a ?l ?c ?k Bw.bi_law_draw_end; (case a => k_is); (case l => k_is); (case c => k_is); (case k => k_is))
    (case h_law_draw_interval => refine' Bw.has_mk KX G ?a ?l ?c ?k Bw.bi_law_draw_interval; (case a => k_is); (case l => k_is); (case c => k_is); (case k => k_is))
    (case h_law_draw_plain => refine' Bw.has_mk KX G ?a ?l ?c ?k Bw.bi_law_draw_plain; (case a => k_is); (case l => k_is); (case c => k_is); (case k => k_is))
    (case h_law_signs_right => refine' Bw.has_mk KX G ?a ?l ?c ?k Bw.bi_law_signs_right; (case a => k_is); (case l => k_is); (case c => k_is); (case k => k_is))
    (case h_law_neighbours_right => refine' Bw.has_mk KX G ?a ?l ?c ?k Bw.bi_law_neighbours_right; (case a => k_is); (case l => k_is); (case c => k_is); (case k => k_is))
