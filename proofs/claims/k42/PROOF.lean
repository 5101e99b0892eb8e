import PyProof.Rows.All
import Wide.All
import OpenK.AllK
import Wide.FinOn
import HandS.ForMost
import HandS.Wide
import HandS.IsInst
import HandS.SortRule
import HandS.NoneIn
import HandS.CallRecv
import HandS.Codes
import HandS.EndBits
import PyProof.LongRange
import PySem.Challenge.RW_penwright_k42_whole_times_within_times
set_option Elab.async false
set_option linter.all false
set_option maxRecDepth 100000
set_option maxHeartbeats 4000000
/-! Penwright in plain Lean: motions, boxes, counts. No program in sight. -/
namespace Pen

/-! ### motions -/
@[ext] structure Mo where
  x : Int
  y : Int
  q : Int

def rotN : Nat → Int → Int → Int × Int
  | 0, x, y => (x, y)
  | n + 1, x, y => rotN n (0 - y) x
def rot (q x y : Int) : Int × Int := rotN (q % 4).toNat x y

theorem rot0 {q : Int} (h : q % 4 = 0) (x y : Int) : rot q x y = (x, y) := by
  unfold rot; rw [h]; rfl
theorem rot1 {q : Int} (h : q % 4 = 1) (x y : Int) : rot q x y = (0 - y, x) := by
  unfold rot; rw [h]; rfl
theorem rot2 {q : Int} (h : q % 4 = 2) (x y : Int) : rot q x y = (0 - x, 0 - y) := by
  unfold rot; rw [h]; rfl
theorem rot3 {q : Int} (h : q % 4 = 3) (x y : Int) : rot q x y = (0 - (0 - y), 0 - x) := by
  unfold rot; rw [h]; rfl
theorem four (q : Int) : q % 4 = 0 ∨ q % 4 = 1 ∨ q % 4 = 2 ∨ q % 4 = 3 := by omega

def comp (a b : Mo) : Mo := ⟨a.x + (rot a.q b.x b.y).1, a.y + (rot a.q b.x b.y).2, (a.q + b.q) % 4⟩
def one : Mo := ⟨0, 0, 0⟩
def Norm (m : Mo) : Prop := 0 ≤ m.q ∧ m.q < 4

theorem norm_one : Norm one := ⟨by decide, by decide⟩
theorem norm_comp (a b : Mo) : Norm (comp a b) := by
  unfold Norm comp
  constructor <;> dsimp only <;> omega

theorem comp_assoc (a b c : Mo) : comp (comp a b) c = comp a (comp b c) := by
  obtain ⟨ax, ay, aq⟩ := a
  obtain ⟨bx, bY, bq⟩ := b
  obtain ⟨cx, cy, cq⟩ := c
  unfold comp
  dsimp only
  have hq : ((aq + bq) % 4 + cq) % 4 = (aq + (bq + cq) % 4) % 4 := by omega
  have e4 : ∀ z : Int, z % 4 % 4 = z % 4 := fun z => by omega
  have e : (aq + bq) % 4 = (aq % 4 + bq % 4) % 4 := by omega
  rcases four aq with h | h | h | h <;> rcases four bq with k | k | k | k
  all_goals
    rw [h, k] at e
    simp only [rot, e4, h, k, e, hq, Int.reduceAdd, Int.reduceMod, Int.reduceToNat, rotN, Mo.mk.injEq, and_true]
    constructor <;> omega

theorem one_comp {m : Mo} (h : Norm m) : comp one m = m := by
  obtain ⟨x, y, q⟩ := m
  obtain ⟨h0, h1⟩ := h
  dsimp only at h0 h1
  unfold comp one
  dsimp only
  rw [rot0 (by decide)]
  simp only [Mo.mk.injEq]
  refine ⟨by omega, by omega, by omega⟩
theorem comp_one {m : Mo} (h : Norm m) : comp m one = m := by
  obtain ⟨x, y, q⟩ := m
  obtain ⟨h0, h1⟩ := h
  dsimp only at h0 h1
  unfold comp one
  dsimp only
  rcases four q with e | e | e | e
  · rw [rot0 e]; simp only [Mo.mk.injEq]; refine ⟨by omega, by omega, by omega⟩
  · rw [rot1 e]; simp only [Mo.mk.injEq]; refine ⟨by omega, by omega, by omega⟩
  · rw [rot2 e]; simp only [Mo.mk.injEq]; refine ⟨by omega, by omega, by omega⟩
  · rw [rot3 e]; simp only [Mo.mk.injEq]; refine ⟨by omega, by omega, by omega⟩

def pow (m : Mo) : Nat → Mo
  | 0 => one
  | n + 1 => comp (pow m n) m
theorem norm_pow (m : Mo) : ∀ n, Norm (pow m n)
  | 0 => norm_one
  | _ + 1 => norm_comp _ _
theorem pow_front {m : Mo} (h : Norm m) : ∀ n, pow m (n + 1) = comp m (pow m n)
  | 0 => by
    show comp one m = comp m one
    rw [one_comp h, comp_one h]
  | n + 1 => by
    have ih := pow_front h n
    show comp (pow m (n + 1)) m = comp m (comp (pow m n) m)
    rw [← comp_assoc, ← ih]
theorem pow_twice (m : Mo) : ∀ k, pow (comp m m) k = pow m (2 * k)
  | 0 => rfl
  | k + 1 => by
    have ih := pow_twice m k
    show comp (pow (comp m m) k) (comp m m) = pow m (2 * k + 1 + 1)
    rw [ih, ← comp_assoc]
    rfl
/-- one turn of the doubling loop, the number odd -/
theorem pow_odd {m : Mo} (h : Norm m) (f : Mo) (k : Nat) : comp (comp f m) (pow (comp m m) k) = comp f (pow m (2 * k + 1)) := by
  rw [pow_twice, comp_assoc, pow_front h]
theorem pow_even (m f : Mo) (k : Nat) : comp f (pow (comp m m) k) = comp f (pow m (2 * k)) := by
  rw [pow_twice]
theorem pow_shift (x y : Int) : ∀ n : Nat, pow ⟨x, y, 0⟩ n = ⟨(n : Int) * x, (n : Int) * y, 0⟩
  | 0 => by
    show one = _
    unfold one
    simp
  | n + 1 => by
    have ih := pow_shift x y n
    show comp (pow ⟨x, y, 0⟩ n) ⟨x, y, 0⟩ = _
    rw [ih]
    unfold comp
    dsimp only
    rw [rot0 (by decide)]
    simp only [Mo.mk.injEq]
    refine ⟨?_, ?_, by decide⟩
    · rw [Int.natCast_succ, Int.add_mul, Int.one_mul]
    · rw [Int.natCast_succ, Int.add_mul, Int.one_mul]

/-! ### words -/
mutual
inductive Deed where
  | go (n : Int)
  | jump (n : Int)
  | turn (n : Int)
  | times (n : Int) (w : Word)
inductive Word where
  | nil
  | cons (d : Deed) (w : Word)
end

mutual
def deedMo : Deed → Mo
  | .go n => ⟨n, 0, 0⟩
  | .jump n => ⟨n, 0, 0⟩
  | .turn n => ⟨0, 0, n % 4⟩
  | .times n w => pow (wordMo one w) n.toNat
def wordMo : Mo → Word → Mo
  | f, .nil => f
  | f, .cons d w => wordMo (comp f (deedMo d)) w
end
theorem wordMo_nil (f : Mo) : wordMo f .nil = f := by rw [wordMo]
theorem wordMo_cons (f : Mo) (d : Deed) (w : Word) : wordMo f (.cons d w) = wordMo (comp f (deedMo d)) w := by rw [wordMo]
theorem norm_deed (d : Deed) : Norm (deedMo d) := by
  cases d with
  | go n => unfold deedMo; exact ⟨Int.le_refl 0, (by decide : (0 : Int) < 4)⟩
  | jump n => unfold deedMo; exact ⟨Int.le_refl 0, (by decide : (0 : Int) < 4)⟩
  | turn n => unfold deedMo Norm; dsimp only; omega
  | times n w => unfold deedMo; exact norm_pow _ _
theorem norm_word : ∀ (w : Word) {f : Mo}, Norm f → Norm (wordMo f w)
  | .nil, f, h => by unfold wordMo; exact h
  | .cons d w, f, _ => by unfold wordMo; exact norm_word w (norm_comp _ _)

mutual
def deedSize : Deed → Nat
  | .go _ => 0
  | .jump _ => 0
  | .turn _ => 0
  | .times _ w => wordSize w
def wordSize : Word → Nat
  | .nil => 0
  | .cons d w => wordSize w + 1 + deedSize d
end
mutual
def deedDeep : Deed → Nat
  | .go _ => 0
  | .jump _ => 0
  | .turn _ => 0
  | .times _ w => wordDeep w + 1
def wordDeep : Word → Nat
  | .nil => 0
  | .cons d w => max (deedDeep d) (wordDeep w)
end
def great : Int := 100000000000000000000
mutual
def DeedOk : Deed → Prop
  | .go n => 0 ≤ n ∧ n < great
  | .jump n => 1 - great ≤ n ∧ n < great
  | .turn n => 1 - great ≤ n ∧ n < great
  | .times n w => (0 ≤ n ∧ n < great) ∧ WordOk w
def WordOk : Word → Prop
  | .nil => True
  | .cons d w => DeedOk d ∧ WordOk w
end

/-! ### boxes -/
@[ext] structure Box where
  a : Int
  b : Int
  c : Int
  d : Int
def mn (i j : Int) : Int := if j < i then j else i
def mx (i j : Int) : Int := if j > i then j else i
theorem mn_eq (i j : Int) : mn i j = min i j := by unfold mn; split <;> omega
theorem mx_eq (i j : Int) : mx i j = max i j := by unfold mx; split <;> omega
def joined : Option Box → Option Box → Option Box
  | none, o => o
  | some p, none => some p
  | some p, some r => some ⟨mn p.a r.a, mn p.b r.b, mx p.c r.c, mx p.d r.d⟩
def mv (m : Mo) (x y : Int) : Int × Int := ((rot m.q x y).1 + m.x, (rot m.q x y).2 + m.y)
def mvBox (m : Mo) (b : Box) : Box :=
  ⟨mn (mv m b.a b.b).1 (mv m b.c b.d).1, mn (mv m b.a b.b).2 (mv m b.c b.d).2, mx (mv m b.a b.b).1 (mv m b.c b.d).1, mx (mv m b.a b.b).2 (mv m b.c b.d).2⟩
def moved (m : Mo) : Option Box → Option Box
  | none => none
  | some b => some (mvBox m b)
def turnsBox (m : Mo) (b : Option Box) : Nat → Option Box
  | 0 => none
  | n + 1 => joined (turnsBox m b n) (moved (pow m n) b)
mutual
def deedBox : Deed → Option Box
  | .go n => if n > 0 then some ⟨0, 0, n, 0⟩ else none
  | .jump _ => none
  | .turn _ => none
  | .times n w =>
    if n = 0 then none
    else if (wordMo one w).q = 0 then joined (wordBox none one w) (moved (pow (wordMo one w) (n - 1).toNat) (wordBox none one w))
    else turnsBox (wordMo one w) (wordBox none one w) (mn n 4).toNat
def wordBox : Option Box → Mo → Word → Option Box
  | f, _, .nil => f
  | f, h, .cons d w => wordBox (joined f (moved h (deedBox d))) (comp h (deedMo d)) w
end

theorem wordBox_nil (f : Option Box) (h : Mo) : wordBox f h .nil = f := by rw [wordBox]
theorem wordBox_cons (f : Option Box) (h : Mo) (d : Deed) (w : Word) : wordBox f h (.cons d w) = wordBox (joined f (moved h (deedBox d))) (comp h (deedMo d)) w := by rw [wordBox]

/-! ### strokes -/
@[ext] structure Stk where
  x : Int
  y : Int
  w : Int
def undo (m : Mo) : Mo := ⟨(rot (0 - m.q) (0 - m.x) (0 - m.y)).1, (rot (0 - m.q) (0 - m.x) (0 - m.y)).2, (0 - m.q) % 4⟩
def before (p r : Int × Int) : Prop := p.1 < r.1 ∨ (p.1 = r.1 ∧ p.2 < r.2)
instance (p r : Int × Int) : Decidable (before p r) := by unfold before; exact inferInstance
def laid (p r : Int × Int) : Stk := ⟨p.1, p.2, if p.1 = r.1 then 1 else 0⟩
def carry (m : Mo) (s : Stk) : Stk :=
  if before (mv m (s.x + 1 - s.w) (s.y + s.w)) (mv m s.x s.y) then laid (mv m (s.x + 1 - s.w) (s.y + s.w)) (mv m s.x s.y)
  else laid (mv m s.x s.y) (mv m (s.x + 1 - s.w) (s.y + s.w))
def ptIn (b : Box) (x y : Int) : Prop := (b.a ≤ x ∧ x ≤ b.c) ∧ (b.b ≤ y ∧ y ≤ b.d)
def LiesIn (s : Stk) (b : Box) : Prop := ptIn b s.x s.y ∧ ptIn b (s.x + 1 - s.w) (s.y + s.w)
def reach (lo hi here step : Int) : Option (Int × Int) :=
  if step = 0 then (if lo ≤ here ∧ here ≤ hi then none else some (1, 0))
  else if step > 0 then some (0 - (hi - here) / step, (here - lo) / step)
  else some (0 - (here - lo) / (0 - step), (hi - here) / (0 - step))
def narrow (fl : Int × Int) : Option (Int × Int) → Int × Int
  | none => fl
  | some r => (mx fl.1 r.1, mn fl.2 r.2)
def turns (s : Stk) (b : Box) (m : Mo) (n : Int) : Int × Int :=
  narrow (narrow (narrow (narrow (0, n - 1) (reach b.a b.c s.x m.x)) (reach b.b b.d s.y m.y)) (reach b.a b.c (s.x + 1 - s.w) m.x)) (reach b.b b.d (s.y + s.w) m.y)
def hit (n : Int) (s : Stk) : Prop := (s.y = 0 ∧ s.w = 0) ∧ (0 ≤ s.x ∧ s.x < n)
instance (n : Int) (s : Stk) : Decidable (hit n s) := by unfold hit; exact inferInstance

/-! ### how often a word draws a stroke: c times, with k doings looked at (the ways that the law takes) -/
mutual
inductive CDs : Word → Mo → Stk → Int → Nat → Prop
  | nil {here s} : CDs .nil here s 0 0
  | go {n w here s c k} : CDs w (comp here (deedMo (.go n))) s c k → CDs (.cons (.go n) w) here s ((if hit n (carry (undo here) s) then 1 else 0) + c) k
  | jump {n w here s c k} : CDs w (comp here (deedMo (.jump n))) s c k → CDs (.cons (.jump n) w) here s c k
  | turn {n w here s c k} : CDs w (comp here (deedMo (.turn n))) s c k → CDs (.cons (.turn n) w) here s c k
  | times {n u w here s c1 k1 c k} : CT n u (carry (undo here) s) c1 k1 → CDs w (comp here (deedMo (.times n u))) s c k → CDs (.cons (.times n u) w) here s (c1 + c) (k1 + k)
inductive CT : Int → Word → Stk → Int → Nat → Prop
  | still {n u b s c k} : wordBox none one u = some b → 0 < n → n < 18446744073709551616 → wordMo one u = one → C1 u b one s c k → CT n u s (n * c) k
  | turned {n u b s c k} : wordBox none one u = some b → 0 < n → n < 18446744073709551616 → (wordMo one u).q ≠ 0 → CR n u b (wordMo one u) (mn n 4).toNat 0 s c k → CT n u s c k
  | shift0 {n u b s} : wordBox none one u = some b → 0 < n → wordMo one u ≠ one → (wordMo one u).q = 0 →
      (-1000 < (wordMo one u).x ∧ (wordMo one u).x < 1000) → (-1000 < (wordMo one u).y ∧ (wordMo one u).y < 1000) →
      (turns s b (wordMo one u) n).2 < (turns s b (wordMo one u) n).1 → CT n u s 0 0
  | shift1 {n u b s c k} : wordBox none one u = some b → 0 < n → wordMo one u ≠ one → (wordMo one u).q = 0 →
      (-1000 < (wordMo one u).x ∧ (wordMo one u).x < 1000) → (-1000 < (wordMo one u).y ∧ (wordMo one u).y < 1000) →
      (turns s b (wordMo one u) n).2 = (turns s b (wordMo one u) n).1 → 0 ≤ (turns s b (wordMo one u) n).1 →
      C1 u b (pow (wordMo one u) (turns s b (wordMo one u) n).1.toNat) s c k → CT n u s c k
/-- the doings left of a word that turns the pen: i gone, r left -/
inductive CR : Int → Word → Box → Mo → Nat → Nat → Stk → Int → Nat → Prop
  | done {n u b m i s} : CR n u b m 0 i s 0 0
  | more {n u b m r i s c1 k1 c k} : C1 u b (pow m i) s c1 k1 → CR n u b m r (i + 1) s c k → CR n u b m (r + 1) i s ((n - (i : Int) + 3) / 4 * c1 + c) (k1 + k)
inductive C1 : Word → Box → Mo → Stk → Int → Nat → Prop
  | out {u b m s} : ¬ LiesIn (carry (undo m) s) b → C1 u b m s 0 0
  | inn {u b m s c k} : LiesIn (carry (undo m) s) b → CDs u one (carry (undo m) s) c k → C1 u b m s c (1 + k)
end

/-! ### the words of the law -/
def goW (n : Int) : Word := .cons (.go n) .nil
def rowD (wide : Int) : Deed := .times wide (goW 1)
def stepW (wide step : Int) : Word := .cons (rowD wide) (.cons (.jump (0 - wide)) (.cons (.turn 1) (.cons (.jump step) (.cons (.turn (-1)) .nil))))
def deedsW (wide high step : Int) : Word := .cons (.times high (stepW wide step)) .nil
def edgeW (side : Int) : Word := .cons (.go side) (.cons (.turn 1) .nil)
def ringW (high side : Int) : Word := .cons (.times high (edgeW side)) .nil
def backW (wide : Int) : Word := .cons (rowD wide) (.cons (.jump (0 - wide)) .nil)
def overW (high wide : Int) : Word := .cons (.times high (backW wide)) .nil

end Pen

/-! what the law asks, in plain Lean -/
namespace Pen
/-! ### motions with a written heading -/
theorem comp0 (x y : Int) (b : Mo) : comp ⟨x, y, 0⟩ b = ⟨x + b.x, y + b.y, b.q % 4⟩ := by
  unfold comp
  dsimp only
  rw [rot0 (by decide), Int.zero_add]
theorem comp1 (x y : Int) (b : Mo) : comp ⟨x, y, 1⟩ b = ⟨x + (0 - b.y), y + b.x, (1 + b.q) % 4⟩ := by
  unfold comp
  dsimp only
  rw [rot1 (by decide)]
theorem comp2 (x y : Int) (b : Mo) : comp ⟨x, y, 2⟩ b = ⟨x + (0 - b.x), y + (0 - b.y), (2 + b.q) % 4⟩ := by
  unfold comp
  dsimp only
  rw [rot2 (by decide)]
theorem mo_eq {a b c d e f : Int} (h1 : a = d) (h2 : b = e) (h3 : c = f) : (⟨a, b, c⟩ : Mo) = ⟨d, e, f⟩ := by rw [h1, h2, h3]
theorem stk_eq {a b c d e f : Int} (h1 : a = d) (h2 : b = e) (h3 : c = f) : (⟨a, b, c⟩ : Stk) = ⟨d, e, f⟩ := by rw [h1, h2, h3]
theorem box_eq {a b c d e f g h : Int} (h1 : a = e) (h2 : b = f) (h3 : c = g) (h4 : d = h) : (⟨a, b, c, d⟩ : Box) = ⟨e, f, g, h⟩ := by rw [h1, h2, h3, h4]
theorem undo0 (x y : Int) : undo ⟨x, y, 0⟩ = ⟨0 - x, 0 - y, 0⟩ := by
  unfold undo
  dsimp only
  rw [rot0 (by decide)]
  exact mo_eq rfl rfl (by decide)
theorem undo1 (x y : Int) : undo ⟨x, y, 1⟩ = ⟨0 - y, x, 3⟩ := by
  unfold undo
  dsimp only
  rw [rot3 (by decide)]
  exact mo_eq (by omega) (by omega) (by decide)
theorem undo2 (x y : Int) : undo ⟨x, y, 2⟩ = ⟨x, y, 2⟩ := by
  unfold undo
  dsimp only
  rw [rot2 (by decide)]
  exact mo_eq (by omega) (by omega) (by decide)
theorem undo3 (x y : Int) : undo ⟨x, y, 3⟩ = ⟨y, 0 - x, 1⟩ := by
  unfold undo
  dsimp only
  rw [rot1 (by decide)]
  exact mo_eq (by omega) (by omega) (by decide)
theorem laid_no {p r : Int × Int} {a b c : Int} (h1 : p.1 = a) (h2 : p.2 = b) (h3 : (p.1 = r.1 ∧ c = 1) ∨ (p.1 ≠ r.1 ∧ c = 0)) : laid p r = ⟨a, b, c⟩ := by
  unfold laid
  rcases h3 with ⟨h, e⟩ | ⟨h, e⟩
  · rw [if_pos h]; exact stk_eq h1 h2 e.symm
  · rw [if_neg h]; exact stk_eq h1 h2 e.symm
theorem carry0 (a b x y w : Int) (hw : w = 0 ∨ w = 1) : carry ⟨a, b, 0⟩ ⟨x, y, w⟩ = ⟨x + a, y + b, w⟩ := by
  unfold carry mv
  dsimp only
  rw [rot0 (by decide), rot0 (by decide)]
  dsimp only
  rw [if_neg (by unfold before; dsimp only; omega)]
  exact laid_no rfl rfl (by dsimp only; omega)
theorem carry1h (a b x y : Int) : carry ⟨a, b, 1⟩ ⟨x, y, 0⟩ = ⟨a - y, x + b, 1⟩ := by
  unfold carry mv
  dsimp only
  rw [rot1 (by decide), rot1 (by decide)]
  dsimp only
  rw [if_neg (by unfold before; dsimp only; omega)]
  exact laid_no (by dsimp only; omega) rfl (by dsimp only; omega)
theorem carry1v (a b x y : Int) : carry ⟨a, b, 1⟩ ⟨x, y, 1⟩ = ⟨a - y - 1, x + b, 0⟩ := by
  unfold carry mv
  dsimp only
  rw [rot1 (by decide), rot1 (by decide)]
  dsimp only
  rw [if_pos (by unfold before; dsimp only; omega)]
  exact laid_no (by dsimp only; omega) (by dsimp only; omega) (by dsimp only; omega)
theorem carry2h (a b x y : Int) : carry ⟨a, b, 2⟩ ⟨x, y, 0⟩ = ⟨a - x - 1, b - y, 0⟩ := by
  unfold carry mv
  dsimp only
  rw [rot2 (by decide), rot2 (by decide)]
  dsimp only
  rw [if_pos (by unfold before; dsimp only; omega)]
  exact laid_no (by dsimp only; omega) (by dsimp only; omega) (by dsimp only; omega)
theorem carry2v (a b x y : Int) : carry ⟨a, b, 2⟩ ⟨x, y, 1⟩ = ⟨a - x, b - y - 1, 1⟩ := by
  unfold carry mv
  dsimp only
  rw [rot2 (by decide), rot2 (by decide)]
  dsimp only
  rw [if_pos (by unfold before; dsimp only; omega)]
  exact laid_no (by dsimp only; omega) (by dsimp only; omega) (by dsimp only; omega)
theorem carry3h (a b x y : Int) : carry ⟨a, b, 3⟩ ⟨x, y, 0⟩ = ⟨y + a, b - x - 1, 1⟩ := by
  unfold carry mv
  dsimp only
  rw [rot3 (by decide), rot3 (by decide)]
  dsimp only
  rw [if_pos (by unfold before; dsimp only; omega)]
  exact laid_no (by dsimp only; omega) (by dsimp only; omega) (by dsimp only; omega)
theorem carry3v (a b x y : Int) : carry ⟨a, b, 3⟩ ⟨x, y, 1⟩ = ⟨y + a, b - x, 0⟩ := by
  unfold carry mv
  dsimp only
  rw [rot3 (by decide), rot3 (by decide)]
  dsimp only
  rw [if_neg (by unfold before; dsimp only; omega)]
  exact laid_no (by dsimp only; omega) (by dsimp only; omega) (by dsimp only; omega)
theorem carry_one (x y w : Int) (hw : w = 0 ∨ w = 1) : carry (undo one) ⟨x, y, w⟩ = ⟨x, y, w⟩ := by
  show carry (undo ⟨0, 0, 0⟩) _ = _
  rw [undo0, carry0 _ _ _ _ _ hw]
  exact stk_eq (by omega) (by omega) rfl

/-! ### motions of the law's words -/
theorem mo_go (n : Int) : wordMo one (goW n) = ⟨n, 0, 0⟩ := by
  unfold goW one
  rw [wordMo_cons, wordMo_nil, deedMo, comp0]
  exact mo_eq (Int.zero_add _) rfl rfl
theorem mo_row {wide : Int} (h : 1 ≤ wide) : deedMo (rowD wide) = ⟨wide, 0, 0⟩ := by
  unfold rowD
  rw [deedMo, mo_go, pow_shift]
  exact mo_eq (by omega) (by omega) rfl
theorem mo_step {wide step : Int} (h : 1 ≤ wide) : wordMo one (stepW wide step) = ⟨0, step, 0⟩ := by
  have e1 : comp ⟨0, 0, 0⟩ ⟨wide, 0, 0⟩ = ⟨wide, 0, 0⟩ := by
    rw [comp0]
    exact mo_eq (by dsimp only; omega) rfl rfl
  have e2 : comp ⟨wide, 0, 0⟩ ⟨0 - wide, 0, 0⟩ = ⟨0, 0, 0⟩ := by
    rw [comp0]
    exact mo_eq (by dsimp only; omega) rfl rfl
  have e3 : comp ⟨0, 0, 0⟩ ⟨0, 0, 1 % 4⟩ = ⟨0, 0, 1⟩ := by
    rw [comp0]
    exact mo_eq rfl rfl rfl
  have e4 : comp ⟨0, 0, 1⟩ ⟨step, 0, 0⟩ = ⟨0, step, 1⟩ := by
    rw [comp1]
    exact mo_eq (by dsimp only; omega) (by dsimp only; omega) rfl
  have e5 : comp ⟨0, step, 1⟩ ⟨0, 0, -1 % 4⟩ = ⟨0, step, 0⟩ := by
    rw [comp1]
    exact mo_eq (by dsimp only; omega) (by dsimp only; omega) rfl
  unfold stepW one
  rw [wordMo_cons, mo_row h, e1, wordMo_cons, deedMo, e2, wordMo_cons, deedMo, e3, wordMo_cons, deedMo, e4, wordMo_cons, deedMo, e5, wordMo_nil]
theorem mo_back {wide : Int} (h : 1 ≤ wide) : wordMo one (backW wide) = one := by
  have e1 : comp ⟨0, 0, 0⟩ ⟨wide, 0, 0⟩ = ⟨wide, 0, 0⟩ := by
    rw [comp0]
    exact mo_eq (by dsimp only; omega) rfl rfl
  have e2 : comp ⟨wide, 0, 0⟩ ⟨0 - wide, 0, 0⟩ = ⟨0, 0, 0⟩ := by
    rw [comp0]
    exact mo_eq (by dsimp only; omega) rfl rfl
  unfold backW one
  rw [wordMo_cons, mo_row h, e1, wordMo_cons, deedMo, e2, wordMo_nil]
theorem mo_edge (side : Int) : wordMo one (edgeW side) = ⟨side, 0, 1⟩ := by
  have e1 : comp ⟨0, 0, 0⟩ ⟨side, 0, 0⟩ = ⟨side, 0, 0⟩ := by
    rw [comp0]
    exact mo_eq (by dsimp only; omega) rfl rfl
  have e2 : comp ⟨side, 0, 0⟩ ⟨0, 0, 1 % 4⟩ = ⟨side, 0, 1⟩ := by
    rw [comp0]
    exact mo_eq (by dsimp only; omega) rfl rfl
  unfold edgeW one
  rw [wordMo_cons, deedMo, e1, wordMo_cons, deedMo, e2, wordMo_nil]
theorem pow_edge1 (side : Int) : pow ⟨side, 0, 1⟩ 1 = ⟨side, 0, 1⟩ := by
  show comp one _ = _
  exact one_comp ⟨(by decide : (0 : Int) ≤ 1), (by decide : (1 : Int) < 4)⟩
theorem pow_edge2 (side : Int) : pow ⟨side, 0, 1⟩ 2 = ⟨side, side, 2⟩ := by
  show comp (pow ⟨side, 0, 1⟩ 1) _ = _
  rw [pow_edge1, comp1]
  exact mo_eq (by dsimp only; omega) (by dsimp only; omega) rfl
theorem pow_edge3 (side : Int) : pow ⟨side, 0, 1⟩ 3 = ⟨0, side, 3⟩ := by
  show comp (pow ⟨side, 0, 1⟩ 2) _ = _
  rw [pow_edge2, comp2]
  exact mo_eq (by dsimp only; omega) (by dsimp only; omega) rfl
theorem pow_one (n : Nat) : pow one n = one := by
  have e := pow_shift 0 0 n
  show pow ⟨0, 0, 0⟩ n = ⟨0, 0, 0⟩
  rw [e]
  exact mo_eq (Int.mul_zero _) (Int.mul_zero _) rfl

/-! ### boxes of the law's words -/
theorem mv0 (a b x y : Int) : mv ⟨a, b, 0⟩ x y = (x + a, y + b) := by
  unfold mv
  dsimp only
  rw [rot0 (by decide)]
theorem moved0 (x y : Int) {a b c d : Int} (h1 : a ≤ c) (h2 : b ≤ d) : moved ⟨x, y, 0⟩ (some ⟨a, b, c, d⟩) = some ⟨a + x, b + y, c + x, d + y⟩ := by
  unfold moved mvBox
  dsimp only
  rw [mv0, mv0]
  dsimp only
  rw [mn_eq, mn_eq, mx_eq, mx_eq]
  exact congrArg some (box_eq (by omega) (by omega) (by omega) (by omega))
theorem moved_one {a b c d : Int} (h1 : a ≤ c) (h2 : b ≤ d) : moved one (some ⟨a, b, c, d⟩) = some ⟨a, b, c, d⟩ := by
  show moved ⟨0, 0, 0⟩ _ = _
  rw [moved0 0 0 h1 h2]
  exact congrArg some (box_eq (by omega) (by omega) (by omega) (by omega))
theorem box_go {n : Int} (h : 1 ≤ n) : wordBox none one (goW n) = some ⟨0, 0, n, 0⟩ := by
  unfold goW
  rw [wordBox_cons, wordBox_nil, deedBox, if_pos (show n > 0 by omega), moved_one (by omega) (by omega)]
  rfl
theorem box_row {wide : Int} (h : 1 ≤ wide) : deedBox (rowD wide) = some ⟨0, 0, wide, 0⟩ := by
  unfold rowD
  rw [deedBox, if_neg (show ¬ wide = 0 by omega), mo_go, if_pos rfl, box_go (by decide), pow_shift, moved0 _ _ (by decide) (by decide)]
  unfold joined
  dsimp only
  rw [mn_eq, mn_eq, mx_eq, mx_eq]
  exact congrArg some (box_eq (by omega) (by omega) (by omega) (by omega))
theorem joined_none (b : Box) : joined (some b) none = some b := rfl
theorem none_joined (b : Option Box) : joined none b = b := rfl
theorem moved_none (m : Mo) : moved m none = none := rfl
theorem box_step {wide step : Int} (h : 1 ≤ wide) : wordBox none one (stepW wide step) = some ⟨0, 0, wide, 0⟩ := by
  unfold stepW
  rw [wordBox_cons, box_row h, moved_one (by omega) (by omega), none_joined, wordBox_cons, deedBox, moved_none, joined_none, wordBox_cons, deedBox, moved_none, joined_none, wordBox_cons, deedBox, moved_none, joined_none, wordBox_cons, deedBox, moved_none, joined_none, wordBox_nil]
theorem box_back {wide : Int} (h : 1 ≤ wide) : wordBox none one (backW wide) = some ⟨0, 0, wide, 0⟩ := by
  unfold backW
  rw [wordBox_cons, box_row h, moved_one (by omega) (by omega), none_joined, wordBox_cons, deedBox, moved_none, joined_none, wordBox_nil]
theorem box_edge {side : Int} (h : 1 ≤ side) : wordBox none one (edgeW side) = some ⟨0, 0, side, 0⟩ := by
  unfold edgeW
  rw [wordBox_cons, deedBox, if_pos (show side > 0 by omega), moved_one (by omega) (by omega), none_joined, wordBox_cons, deedBox, moved_none, joined_none, wordBox_nil]
theorem box_deeds {wide high step : Int} (h : 1 ≤ wide) (h2 : 1 ≤ high) (h3 : 1 ≤ step) : wordBox none one (deedsW wide high step) = some ⟨0, 0, wide, (high - 1) * step⟩ := by
  have hp : 0 ≤ (high - 1) * step := Int.mul_nonneg (by omega) (by omega)
  unfold deedsW
  rw [wordBox_cons, deedBox, if_neg (show ¬ high = 0 by omega), mo_step h, if_pos rfl, box_step h, pow_shift, moved0 _ _ (by omega) (by omega), wordBox_nil, none_joined]
  have e : (((high - 1).toNat : Nat) : Int) = high - 1 := by omega
  rw [e]
  unfold joined
  dsimp only
  rw [mn_eq, mn_eq, mx_eq, mx_eq]
  rw [show min (0 : Int) (0 + (high - 1) * 0) = 0 by omega, show min (0 : Int) (0 + (high - 1) * step) = 0 by omega, show max wide (wide + (high - 1) * 0) = wide by omega, show max (0 : Int) (0 + (high - 1) * step) = (high - 1) * step by omega]
  exact moved_one (by omega) hp
theorem box_over {wide high : Int} (h : 1 ≤ wide) (h2 : 1 ≤ high) : wordBox none one (overW high wide) = some ⟨0, 0, wide, 0⟩ := by
  unfold overW
  rw [wordBox_cons, deedBox, if_neg (show ¬ high = 0 by omega), mo_back h, if_pos (show one.q = 0 from rfl), box_back h, pow_one, moved_one (by omega) (by omega), wordBox_nil, none_joined]
  unfold joined
  dsimp only
  rw [show mn (0 : Int) 0 = 0 from rfl, show mx wide wide = wide by rw [mx_eq]; omega, show mx (0 : Int) 0 = 0 from rfl]
  exact moved_one (by omega) (by omega)
end Pen

/-! how often the law's words draw the strokes that it asks -/
namespace Pen
theorem one_ne {x y : Int} (h : x ≠ 0 ∨ y ≠ 0) : (⟨x, y, 0⟩ : Mo) ≠ one := fun e => by
  injection e with e1 e2 _
  rcases h with h | h
  · exact h e1
  · exact h e2
/-! ### a row of strokes -/
theorem c_go {x : Int} (h : x = 0) : CDs (goW 1) one ⟨x, 0, 0⟩ 1 0 := by
  have q : CDs (goW 1) one ⟨x, 0, 0⟩ ((if hit 1 (carry (undo one) ⟨x, 0, 0⟩) then 1 else 0) + 0) 0 := .go .nil
  rw [carry_one _ _ _ (.inl rfl), if_pos ⟨⟨rfl, rfl⟩, by dsimp only; omega, by dsimp only; omega⟩] at q
  exact q
theorem turns_row {wide x : Int} (h0 : 0 ≤ x) (h1 : x < wide) : turns ⟨x, 0, 0⟩ ⟨0, 0, 1, 0⟩ ⟨1, 0, 0⟩ wide = (x, x) := by
  unfold turns
  dsimp only
  have r1 : reach 0 1 x 1 = some (0 - (1 - x) / 1, (x - 0) / 1) := by
    unfold reach
    rw [if_neg (by decide), if_pos (by decide)]
  have r2 : reach 0 0 0 0 = none := by
    unfold reach
    rw [if_pos rfl, if_pos ⟨Int.le_refl 0, Int.le_refl 0⟩]
  have r3 : reach 0 1 (x + 1 - 0) 1 = some (0 - (1 - (x + 1 - 0)) / 1, (x + 1 - 0 - 0) / 1) := by
    unfold reach
    rw [if_neg (by decide), if_pos (by decide)]
  rw [r1, r2, r3, show (0 : Int) + 0 = 0 from rfl, r2]
  simp only [narrow, mx_eq, mn_eq, Int.ediv_one]
  exact Prod.ext (by dsimp only; omega) (by dsimp only; omega)
theorem c_row {wide x : Int} (h0 : 0 ≤ x) (h1 : x < wide) (here : Mo) {u : Word} {s : Stk} {c : Int} {k : Nat} (hs : carry (undo here) s = ⟨x, 0, 0⟩) (r : CDs u (comp here (deedMo (rowD wide))) s c k) : CDs (.cons (rowD wide) u) here s (1 + c) (1 + k) := by
  refine .times ?_ r
  rw [hs]
  have t := turns_row h0 h1
  have hb := box_go (n := 1) (by decide)
  have hm := mo_go 1
  refine .shift1 hb (by omega) (by rw [hm]; exact one_ne (.inl (by decide))) (by rw [hm]) (by rw [hm]; exact ⟨by decide, by decide⟩) (by rw [hm]; exact ⟨by decide, by decide⟩) (by rw [hm, t]) (by rw [hm, t]; exact h0) ?_
  rw [hm, t]
  dsimp only
  rw [pow_shift]
  have e : carry (undo ⟨((x.toNat : Nat) : Int) * 1, ((x.toNat : Nat) : Int) * 0, 0⟩) ⟨x, 0, 0⟩ = ⟨0, 0, 0⟩ := by
    rw [undo0, carry0 _ _ _ _ _ (.inl rfl)]
    exact stk_eq (by omega) (by omega) rfl
  have q : C1 (goW 1) ⟨0, 0, 1, 0⟩ ⟨((x.toNat : Nat) : Int) * 1, ((x.toNat : Nat) : Int) * 0, 0⟩ ⟨x, 0, 0⟩ 1 (1 + 0) := by
    refine .inn ?_ ?_
    · rw [e]
      exact ⟨⟨⟨by decide, by decide⟩, by decide, by decide⟩, ⟨by decide, by decide⟩, by decide, by decide⟩
    · rw [e]
      exact c_go rfl
  exact q
theorem c_step {wide step x : Int} (h0 : 0 ≤ x) (h1 : x < wide) : CDs (stepW wide step) one ⟨x, 0, 0⟩ 1 1 := by
  have q := c_row (s := ⟨x, 0, 0⟩) (u := .cons (.jump (0 - wide)) (.cons (.turn 1) (.cons (.jump step) (.cons (.turn (-1)) .nil)))) (c := 0) (k := 0) h0 h1 one (carry_one _ _ _ (.inl rfl)) (.jump (.turn (.jump (.turn .nil))))
  exact q
theorem c_back {wide x : Int} (h0 : 0 ≤ x) (h1 : x < wide) : CDs (backW wide) one ⟨x, 0, 0⟩ 1 1 := by
  have q := c_row (s := ⟨x, 0, 0⟩) (u := .cons (.jump (0 - wide)) .nil) (c := 0) (k := 0) h0 h1 one (carry_one _ _ _ (.inl rfl)) (.jump .nil)
  exact q

/-! ### rows one above the other -/
theorem reach_zero (lo hi h : Int) : reach lo hi h 0 = if lo ≤ h ∧ h ≤ hi then none else some (1, 0) := by
  unfold reach
  rw [if_pos rfl]
theorem reach_pos {lo hi h st : Int} (p : 0 < st) : reach lo hi h st = some (0 - (hi - h) / st, (h - lo) / st) := by
  unfold reach
  rw [if_neg (by omega), if_pos (by omega)]
theorem narrow_some (f : Int × Int) (a b : Int) : narrow f (some (a, b)) = (max f.1 a, min f.2 b) := by
  unfold narrow
  dsimp only
  rw [mx_eq, mn_eq]
theorem narrow_none (f : Int × Int) : narrow f none = f := rfl
theorem rest_go (at' : Int) (wide : Int) (f : Int × Int) : ¬ (0 ≤ at' ∧ at' ≤ wide) → narrow f (if 0 ≤ at' ∧ at' ≤ wide then none else some (1, 0)) = (max f.1 1, min f.2 0) := fun h => by
  rw [if_neg h, narrow_some]
/-- the floor of level * step by step -/
theorem floors {level step : Int} (h1 : 1 ≤ step) : (0 - level * step) / step = 0 - level ∧ (level * step - 0) / step = level := by
  have hs : step ≠ 0 := by omega
  constructor
  · rw [show 0 - level * step = (0 - level) * step by rw [Int.sub_mul, Int.zero_mul], Int.mul_ediv_cancel _ hs]
  · rw [Int.sub_zero, Int.mul_ediv_cancel _ hs]
/-- the turns of the rows' word that are looked at, way 0 -/
theorem turns_step {wide high step a level : Int} (h1 : 1 ≤ step) (h : 0 ≤ a ∧ a < wide) : turns ⟨a, level * step, 0⟩ ⟨0, 0, wide, 0⟩ ⟨0, step, 0⟩ high = (max 0 level, min (high - 1) level) := by
  obtain ⟨f1, f2⟩ := floors (level := level) h1
  unfold turns
  dsimp only
  rw [reach_zero, reach_zero, if_pos ⟨h.1, by omega⟩, if_pos ⟨by omega, by omega⟩, reach_pos h1, reach_pos h1, Int.add_zero, f1, f2]
  simp only [narrow_none, narrow_some]
  exact Prod.ext (by dsimp only; omega) (by dsimp only; omega)
theorem turns_off {wide high step a level w : Int} (h : ¬ (0 ≤ a ∧ a < wide)) (hw : w = 0) (h1 : 1 ≤ step) : (turns ⟨a, level * step, w⟩ ⟨0, 0, wide, 0⟩ ⟨0, step, 0⟩ high).2 < (turns ⟨a, level * step, w⟩ ⟨0, 0, wide, 0⟩ ⟨0, step, 0⟩ high).1 := by
  subst hw
  unfold turns
  dsimp only
  rw [reach_zero, reach_zero, reach_pos h1, reach_pos h1]
  by_cases c : 0 ≤ a ∧ a ≤ wide
  · have c2 : ¬ (0 ≤ a + 1 - 0 ∧ a + 1 - 0 ≤ wide) := by omega
    rw [if_pos c, if_neg c2]
    simp only [narrow_none, narrow_some]
    omega
  · rw [if_neg c]
    by_cases c2 : 0 ≤ a + 1 - 0 ∧ a + 1 - 0 ≤ wide
    · rw [if_pos c2]
      simp only [narrow_none, narrow_some]
      omega
    · rw [if_neg c2]
      simp only [narrow_none, narrow_some]
      omega
theorem turns_up {wide high step a level : Int} (h1 : 1 ≤ step) : (turns ⟨a, level * step, 1⟩ ⟨0, 0, wide, 0⟩ ⟨0, step, 0⟩ high).2 < (turns ⟨a, level * step, 1⟩ ⟨0, 0, wide, 0⟩ ⟨0, step, 0⟩ high).1 := by
  obtain ⟨f1, f2⟩ := floors (level := level) h1
  have f3 : (0 - (level * step + 1)) / step ≤ 0 - level - 1 := by
    have q : (0 - (level * step + 1)) / step < 0 - level := by
      refine Int.ediv_lt_of_lt_mul (by omega) ?_
      rw [Int.sub_mul, Int.zero_mul]
      omega
    omega
  unfold turns
  dsimp only
  rw [reach_zero, reach_zero, reach_pos h1, reach_pos h1, f1, f2]
  by_cases c : 0 ≤ a ∧ a ≤ wide
  · have c2 : 0 ≤ a + 1 - 1 ∧ a + 1 - 1 ≤ wide := by omega
    rw [if_pos c, if_pos c2]
    simp only [narrow_none, narrow_some]
    omega
  · have c2 : ¬ (0 ≤ a + 1 - 1 ∧ a + 1 - 1 ≤ wide) := by omega
    rw [if_neg c, if_neg c2]
    simp only [narrow_none, narrow_some]
    omega
theorem shift_none {wide high step : Int} {s : Stk} (h : 1 ≤ wide) (h2 : 1 ≤ high) (h3 : 1 ≤ step) (h4 : step ≤ 4) (lt : (turns s ⟨0, 0, wide, 0⟩ ⟨0, step, 0⟩ high).2 < (turns s ⟨0, 0, wide, 0⟩ ⟨0, step, 0⟩ high).1) : CT high (stepW wide step) s 0 0 := by
  have hm := mo_step (wide := wide) (step := step) h
  refine .shift0 (box_step h) (by omega) (by rw [hm]; exact one_ne (.inr (by omega))) (by rw [hm]) (by rw [hm]; dsimp only; omega) (by rw [hm]; dsimp only; omega) (by rw [hm]; exact lt)
theorem draw_deeds {wide high step a level : Int} (h : 1 ≤ wide) (h2 : 1 ≤ high) (h3 : 1 ≤ step) (h4 : step ≤ 4) :
    ∃ k, k ≤ 10 ∧ CDs (deedsW wide high step) one ⟨a, level * step, 0⟩ (if (0 ≤ a ∧ a < wide) ∧ (0 ≤ level ∧ level < high) then 1 else 0) k := by
  have fin : ∀ {c : Int} {k : Nat}, CT high (stepW wide step) ⟨a, level * step, 0⟩ c k → CDs (deedsW wide high step) one ⟨a, level * step, 0⟩ c k := fun {c k} q => by
    have q2 : CDs (deedsW wide high step) one ⟨a, level * step, 0⟩ (c + 0) (k + 0) := by
      refine .times ?_ .nil
      rw [carry_one _ _ _ (.inl rfl)]
      exact q
    rw [Int.add_zero] at q2
    exact q2
  by_cases c : 0 ≤ a ∧ a < wide
  · have t := turns_step (high := high) (level := level) h3 c
    by_cases d : 0 ≤ level ∧ level < high
    · refine ⟨2, by decide, ?_⟩
      rw [if_pos ⟨c, d⟩]
      refine fin ?_
      have hm := mo_step (wide := wide) (step := step) h
      refine .shift1 (box_step h) (by omega) (by rw [hm]; exact one_ne (.inr (by omega))) (by rw [hm]) (by rw [hm]; dsimp only; omega) (by rw [hm]; dsimp only; omega) (by rw [hm, t]; dsimp only; omega) (by rw [hm, t]; dsimp only; omega) ?_
      rw [hm, t]
      dsimp only
      rw [show max (0 : Int) level = level by omega, pow_shift]
      have el : ((level.toNat : Nat) : Int) = level := by omega
      rw [el]
      have e : carry (undo ⟨level * 0, level * step, 0⟩) ⟨a, level * step, 0⟩ = ⟨a, 0, 0⟩ := by
        rw [undo0, carry0 _ _ _ _ _ (.inl rfl)]
        exact stk_eq (by omega) (by omega) rfl
      have q : C1 (stepW wide step) ⟨0, 0, wide, 0⟩ ⟨level * 0, level * step, 0⟩ ⟨a, level * step, 0⟩ 1 (1 + 1) := by
        refine .inn ?_ ?_
        · rw [e]
          unfold LiesIn ptIn
          dsimp only
          omega
        · rw [e]
          exact c_step c.1 c.2
      exact q
    · refine ⟨0, by decide, ?_⟩
      rw [if_neg (fun q => d q.2)]
      refine fin (shift_none h h2 h3 h4 ?_)
      rw [t]
      dsimp only
      omega
  · refine ⟨0, by decide, ?_⟩
    rw [if_neg (fun q => c q.1)]
    exact fin (shift_none h h2 h3 h4 (turns_off c rfl h3))
theorem draw_up {wide high step a level : Int} (h : 1 ≤ wide) (h2 : 1 ≤ high) (h3 : 1 ≤ step) (h4 : step ≤ 4) : CDs (deedsW wide high step) one ⟨a, level * step, 1⟩ 0 0 := by
  have q : CDs (deedsW wide high step) one ⟨a, level * step, 1⟩ (0 + 0) (0 + 0) := by
    refine .times ?_ .nil
    rw [carry_one _ _ _ (.inr rfl)]
    exact shift_none h h2 h3 h4 (turns_up h3)
  exact q

/-! ### rows over one another -/
theorem draw_over {wide high a : Int} (h : 1 ≤ wide) (h2 : 1 ≤ high) (h3 : high < 18446744073709551616) :
    ∃ k, k ≤ 10 ∧ CDs (overW high wide) one ⟨a, 0, 0⟩ (high * (if 0 ≤ a ∧ a < wide then 1 else 0)) k := by
  have fin : ∀ {c : Int} {k : Nat}, C1 (backW wide) ⟨0, 0, wide, 0⟩ one ⟨a, 0, 0⟩ c k → CDs (overW high wide) one ⟨a, 0, 0⟩ (high * c) k := fun {c k} q => by
    have q2 : CDs (overW high wide) one ⟨a, 0, 0⟩ (high * c + 0) (k + 0) := by
      refine .times ?_ .nil
      rw [carry_one _ _ _ (.inl rfl)]
      exact .still (box_back h) (by omega) h3 (mo_back h) q
    rw [Int.add_zero] at q2
    exact q2
  by_cases c : 0 ≤ a ∧ a < wide
  · refine ⟨2, by decide, ?_⟩
    rw [if_pos c]
    refine fin ?_
    have q : C1 (backW wide) ⟨0, 0, wide, 0⟩ one ⟨a, 0, 0⟩ 1 (1 + 1) := by
      refine .inn ?_ ?_
      · rw [carry_one _ _ _ (.inl rfl)]
        unfold LiesIn ptIn
        dsimp only
        omega
      · rw [carry_one _ _ _ (.inl rfl)]
        exact c_back c.1 c.2
    exact q
  · refine ⟨0, by decide, ?_⟩
    rw [if_neg c]
    refine fin (.out ?_)
    rw [carry_one _ _ _ (.inl rfl)]
    unfold LiesIn ptIn
    dsimp only
    omega

/-! ### the ring -/
theorem c_edge {side x : Int} (h0 : 0 ≤ x) (h1 : x < side) : CDs (edgeW side) one ⟨x, 0, 0⟩ 1 0 := by
  have q : CDs (edgeW side) one ⟨x, 0, 0⟩ ((if hit side (carry (undo one) ⟨x, 0, 0⟩) then 1 else 0) + 0) 0 := .go (.turn .nil)
  rw [carry_one _ _ _ (.inl rfl), if_pos ⟨⟨rfl, rfl⟩, h0, h1⟩] at q
  exact q
/-- the strokes that the law asks of the ring -/
def ringS (side : Int) : Nat → Stk
  | 0 => ⟨0, 0, 0⟩
  | 1 => ⟨side, 0, 1⟩
  | 2 => ⟨side - 1, side, 0⟩
  | _ => ⟨0, side - 1, 1⟩
theorem out_of {side : Int} {m : Mo} {s t : Stk} (e : carry (undo m) s = t) (h : ¬ LiesIn t ⟨0, 0, side, 0⟩) : C1 (edgeW side) ⟨0, 0, side, 0⟩ m s 0 0 := .out (by rw [e]; exact h)
theorem in_of {side x : Int} {m : Mo} {s : Stk} (e : carry (undo m) s = ⟨x, 0, 0⟩) (h0 : 0 ≤ x) (h1 : x < side) : C1 (edgeW side) ⟨0, 0, side, 0⟩ m s 1 1 := by
  have q : C1 (edgeW side) ⟨0, 0, side, 0⟩ m s 1 (1 + 0) := by
    refine .inn ?_ ?_
    · rw [e]
      unfold LiesIn ptIn
      dsimp only
      omega
    · rw [e]
      exact c_edge h0 h1
  exact q
theorem up_out {side x y : Int} : ¬ LiesIn ⟨x, y, 1⟩ ⟨0, 0, side, 0⟩ := by
  unfold LiesIn ptIn
  dsimp only
  omega
theorem c_ring {side : Int} (h : 1 ≤ side) (k i : Nat) (hk : k < 4) (hi : i < 4) : C1 (edgeW side) ⟨0, 0, side, 0⟩ (pow ⟨side, 0, 1⟩ i) (ringS side k) (if i = k then 1 else 0) (if i = k then 1 else 0) := by
  have u0 : undo (pow ⟨side, 0, 1⟩ 0) = ⟨0, 0, 0⟩ := undo0 0 0
  have u1 : undo (pow ⟨side, 0, 1⟩ 1) = ⟨0, side, 3⟩ := by rw [pow_edge1, undo1]; exact mo_eq rfl rfl rfl
  have u2 : undo (pow ⟨side, 0, 1⟩ 2) = ⟨side, side, 2⟩ := by rw [pow_edge2, undo2]
  have u3 : undo (pow ⟨side, 0, 1⟩ 3) = ⟨side, 0, 1⟩ := by rw [pow_edge3, undo3]; exact mo_eq rfl rfl rfl
  have flat : ∀ {x y : Int}, y ≠ 0 → ¬ LiesIn ⟨x, y, 0⟩ ⟨0, 0, side, 0⟩ := fun {x y} hy => by
    unfold LiesIn ptIn
    dsimp only
    omega
  match k, hk with
  | 0, _ =>
    match i, hi with
    | 0, _ => exact in_of (x := 0) (by rw [u0]; show carry _ ⟨0, 0, 0⟩ = _; rw [carry0 _ _ _ _ _ (.inl rfl)]; exact stk_eq (by omega) (by omega) rfl) (by omega) (by omega)
    | 1, _ => exact out_of (by rw [u1]; show carry _ ⟨0, 0, 0⟩ = _; exact carry3h _ _ _ _) up_out
    | 2, _ => exact out_of (by rw [u2]; show carry _ ⟨0, 0, 0⟩ = _; exact carry2h _ _ _ _) (flat (by omega))
    | 3, _ => exact out_of (by rw [u3]; show carry _ ⟨0, 0, 0⟩ = _; exact carry1h _ _ _ _) up_out
  | 1, _ =>
    match i, hi with
    | 0, _ => exact out_of (by rw [u0]; show carry _ ⟨side, 0, 1⟩ = _; exact carry0 _ _ _ _ _ (.inr rfl)) up_out
    | 1, _ => exact in_of (x := 0) (by rw [u1]; show carry _ ⟨side, 0, 1⟩ = _; rw [carry3v]; exact stk_eq (by omega) (by omega) rfl) (by omega) (by omega)
    | 2, _ => exact out_of (by rw [u2]; show carry _ ⟨side, 0, 1⟩ = _; exact carry2v _ _ _ _) up_out
    | 3, _ => exact out_of (by rw [u3]; show carry _ ⟨side, 0, 1⟩ = _; exact carry1v _ _ _ _) (flat (by omega))
  | 2, _ =>
    match i, hi with
    | 0, _ => exact out_of (by rw [u0]; show carry _ ⟨side - 1, side, 0⟩ = _; exact carry0 _ _ _ _ _ (.inl rfl)) (flat (by omega))
    | 1, _ => exact out_of (by rw [u1]; show carry _ ⟨side - 1, side, 0⟩ = _; exact carry3h _ _ _ _) up_out
    | 2, _ => exact in_of (x := 0) (by rw [u2]; show carry _ ⟨side - 1, side, 0⟩ = _; rw [carry2h]; exact stk_eq (by omega) (by omega) rfl) (by omega) (by omega)
    | 3, _ => exact out_of (by rw [u3]; show carry _ ⟨side - 1, side, 0⟩ = _; exact carry1h _ _ _ _) up_out
  | 3, _ =>
    match i, hi with
    | 0, _ => exact out_of (by rw [u0]; show carry _ ⟨0, side - 1, 1⟩ = _; exact carry0 _ _ _ _ _ (.inr rfl)) up_out
    | 1, _ => exact out_of (by rw [u1]; show carry _ ⟨0, side - 1, 1⟩ = _; exact carry3v _ _ _ _) (flat (by omega))
    | 2, _ => exact out_of (by rw [u2]; show carry _ ⟨0, side - 1, 1⟩ = _; exact carry2v _ _ _ _) up_out
    | 3, _ => exact in_of (x := 0) (by rw [u3]; show carry _ ⟨0, side - 1, 1⟩ = _; rw [carry1v]; exact stk_eq (by omega) (by omega) rfl) (by omega) (by omega)
theorem c_turns {side n : Int} (h : 1 ≤ side) (k : Nat) (hk : k < 4) : ∀ r i : Nat, i + r ≤ 4 →
    CR n (edgeW side) ⟨0, 0, side, 0⟩ ⟨side, 0, 1⟩ r i (ringS side k) (if i ≤ k ∧ k < i + r then (n - (k : Int) + 3) / 4 else 0) (if i ≤ k ∧ k < i + r then 1 else 0)
  | 0, i, _ => by
    rw [if_neg (by omega), if_neg (by omega)]
    exact .done
  | r + 1, i, hr => by
    have ih := c_turns (n := n) h k hk r (i + 1) (by omega)
    have q := CR.more (n := n) (c_ring h k i hk (by omega)) ih
    by_cases e : i = k
    · subst e
      rw [if_pos rfl, if_pos rfl, if_neg (by omega), if_neg (by omega), Int.mul_one, Int.add_zero] at q
      rw [if_pos (by omega), if_pos (by omega)]
      exact q
    · rw [if_neg e, if_neg e, Int.mul_zero, Int.zero_add, Nat.zero_add] at q
      by_cases c : i + 1 ≤ k ∧ k < i + 1 + r
      · rw [if_pos c, if_pos c] at q
        rw [if_pos (by omega), if_pos (by omega)]
        exact q
      · rw [if_neg c, if_neg c] at q
        rw [if_neg (by omega), if_neg (by omega)]
        exact q
theorem draw_ring {side high : Int} (h : 1 ≤ side) (h2 : 1 ≤ high) (h3 : high < 18446744073709551616) (k : Nat) (hk : k < 4) :
    ∃ j, j ≤ 10 ∧ CDs (ringW high side) one (ringS side k) ((high - (k : Int) + 3) / 4) j := by
  have hm := mo_edge side
  have q := c_turns (n := high) h k hk (mn high 4).toNat 0 (by unfold mn; split <;> omega)
  have ev : (if 0 ≤ k ∧ k < 0 + (mn high 4).toNat then (high - (k : Int) + 3) / 4 else 0) = (high - (k : Int) + 3) / 4 := by
    rw [mn_eq]
    split
    · rfl
    · omega
  rw [ev] at q
  refine ⟨(if 0 ≤ k ∧ k < 0 + (mn high 4).toNat then 1 else 0), by split <;> omega, ?_⟩
  have q2 : CDs (ringW high side) one (ringS side k) ((high - (k : Int) + 3) / 4 + 0) ((if 0 ≤ k ∧ k < 0 + (mn high 4).toNat then 1 else 0) + 0) := by
    refine .times ?_ .nil
    have ec : carry (undo one) (ringS side k) = ringS side k := by
      match k, hk with
      | 0, _ => exact carry_one _ _ _ (.inl rfl)
      | 1, _ => exact carry_one _ _ _ (.inr rfl)
      | 2, _ => exact carry_one _ _ _ (.inl rfl)
      | 3, _ => exact carry_one _ _ _ (.inr rfl)
    rw [ec]
    refine .turned (box_edge h) (by omega) h3 (by rw [hm]; exact (by decide : (1 : Int) ≠ 0)) ?_
    rw [hm]
    exact q
  rw [Int.add_zero] at q2
  exact q2
end Pen

/-! the text by places, what is known of it, short words -/
namespace Pen
open PySem L2
/-! ### the text -/
def top (i : Nat) : Stmt := PySem.Challenge.pw_penwright_k42_whole_times_within_times.main.body.getD i (.Pass ⟨0, 0, 0, 0⟩)
abbrev sNumber : Stmt := top 10
abbrev sIsDeed : Stmt := top 11
abbrev sCounted : Stmt := top 12
abbrev sDeedsIn : Stmt := top 13
abbrev sQuarter : Stmt := top 14
abbrev sBoth : Stmt := top 15
abbrev sMany : Stmt := top 16
abbrev sDeedMo : Stmt := top 17
abbrev sMotion : Stmt := top 18
abbrev sUndone : Stmt := top 22
abbrev sEnds : Stmt := top 23
abbrev sPoint : Stmt := top 24
abbrev sCarried : Stmt := top 25
abbrev sJoined : Stmt := top 26
abbrev sMoved : Stmt := top 27
abbrev sDeedBox : Stmt := top 28
abbrev sWordBox : Stmt := top 29
abbrev sBoxOf : Stmt := top 30
abbrev sLies : Stmt := top 31
abbrev sReach : Stmt := top 32
abbrev sTurns : Stmt := top 33
abbrev sInit : Stmt := inClass (top 34) 0
abbrev sNote : Stmt := inClass (top 34) 1
abbrev sDoing : Stmt := inClass (top 34) 2
abbrev sInTimes : Stmt := inClass (top 34) 3
abbrev sInWord : Stmt := inClass (top 34) 4
abbrev sDrawn : Stmt := top 35
abbrev sState : Stmt := top 37
abbrev sTake : Stmt := top 38
abbrev sWhole : Stmt := top 39
abbrev sIsRow : Stmt := top 41
abbrev sLaw : Stmt := top 42

/-! ### a def of the text: where it stands, how it is called -/
structure Df (K : PySem.W.Frag) (mg : Str → Option Value) (x : Str) (st : Stmt) (ps : List Str) where
  f : Addr
  fd : FuncData
  F : Fun K x x st f fd
  m : mg x = some (.ref f)
  b : Binds K fd ps []
/-- a method -/
structure Me (K : PySem.W.Frag) (C : Addr) (x qual : Str) (st : Stmt) (ps : List Str) where
  f : Addr
  fd : FuncData
  F : Fun K x qual st f fd
  m : Meth K C x f
  b : Binds K fd ps []
structure Tx (K : PySem.W.Frag) (mg : Str → Option Value) where
  number : Df K mg "is_number" sNumber ["thing", "least"]
  isDeed : Df K mg "is_deed" sIsDeed ["deed"]
  counted : Df K mg "counted" sCounted ["deeds", "deep"]
  deedsIn : Df K mg "deeds_in" sDeedsIn ["word"]
  quarter : Df K mg "quarter_turned" sQuarter ["x", "y", "quarters"]
  both : Df K mg "both_motions" sBoth ["one", "other"]
  many : Df K mg "many_motions" sMany ["motion", "times"]
  deedMo : Df K mg "deed_motion" sDeedMo ["deed"]
  motion : Df K mg "motion_of" sMotion ["deeds"]
  undone : Df K mg "undone_motion" sUndone ["motion"]
  ends : Df K mg "both_ends" sEnds ["stroke"]
  point : Df K mg "moved_point" sPoint ["motion", "place"]
  carried : Df K mg "carried_stroke" sCarried ["motion", "stroke"]
  joined : Df K mg "joined_boxes" sJoined ["one", "other"]
  moved : Df K mg "moved_box" sMoved ["motion", "box"]
  deedBox : Df K mg "deed_box" sDeedBox ["deed"]
  wordBox : Df K mg "word_box" sWordBox ["word"]
  boxOf : Df K mg "box_of" sBoxOf ["word"]
  lies : Df K mg "lies_in" sLies ["stroke", "box"]
  reach : Df K mg "reach" sReach ["low", "high", "here", "step"]
  turns : Df K mg "turns_looked" sTurns ["stroke", "box", "motion", "times"]
  drawn : Df K mg "drawn_often" sDrawn ["word", "stroke"]
  state : Df K mg "_law_state" sState ["script", "k"]
  take : Df K mg "_law_take" sTake ["state", "many"]
  whole : Df K mg "_law_whole" sWhole ["found"]
  isRow : Df K mg "_law_is_row" sIsRow ["found", "due"]
  law : Df K mg "law" sLaw ["script"]
  C : Addr
  cl : Cls K C
  nL : NoAttr K C "looked"
  mgC : mg "Looking" = some (.ref C)
  init : Me K C "__init__" "Looking.__init__" sInit ["self"]
  maker : Mk K C init.f
  note : Me K C "note" "Looking.note" sNote ["self", "many"]
  doing : Me K C "one_doing" "Looking.one_doing" sDoing ["self", "word", "box", "motion", "stroke"]
  inTimes : Me K C "in_times" "Looking.in_times" sInTimes ["self", "deed", "stroke"]
  inWord : Me K C "in_word" "Looking.in_word" sInWord ["self", "word", "stroke"]
  zLen : mg "len" = none
  zRange : mg "range" = none
  zInt : mg "int" = none
  zBool : mg "bool" = none
  zTuple : mg "tuple" = none
  zIsi : mg "isinstance" = none
  zSorted : mg "sorted" = none
  zMin : mg "min" = none
  zMax : mg "max" = none
  zAll : mg "all" = none
  gDeep : ∃ t, mg "MOST_DEEP" = some (.int 4 t)
  gDeeds : ∃ t, mg "MOST_DEEDS" = some (.int 30 t)
  gLooked : ∃ t, mg "MOST_LOOKED" = some (.int 1000 t)
  gGreat : ∃ t, mg "GREAT" = some (.int 100000000000000000000 t)
  simple : Addr
  gSimple : mg "SIMPLE" = some (.ref simple)
  kSimple : ∀ H : Hp, SqT K H simple [.str "go", .str "jump", .str "turn"]
  unmoved : Addr
  gUnmoved : mg "UNMOVED" = some (.ref unmoved)
  kUnmoved : ∀ H : Hp, SqT K H unmoved [.int 0, .int 0, .int 0]

/-- X's own parts are these -/
def Of (X : Cx) (P : Program) (w : World) (K : PySem.W.Frag) (mg : Str → Option Value) (base : Heap) : Prop := X.prog = P ∧ X.w = w ∧ X.K = K ∧ X.mg = mg ∧ X.base = base
section
variable {P : Program} {w : World} {K : PySem.W.Frag} {mg : Str → Option Value} {base : Heap} {x qual : Str} {st : Stmt} {ps : List Str} {k n : Nat} {sp : Sp} {p pos apos : Pos} {e o : Expr} {es : List Expr} {t : TA} {ta : TE} {C : Addr}
theorem Df.cl (D : Df K mg x st ps) (G : FnOk P w K mg base CX0 k D.f D.fd ps sp) {X : Cx} (hr : Room n X.A) (ha : PA X (e :: es) t) (hk : k ≤ n := by omega) (hX : Of X P w K mg base := by exact ⟨rfl, rfl, rfl, rfl, rfl⟩) (hg : Gl X x := by rfl)
    (hdb : (x == ("__debug__" : Str)) = false := by decide) (he : starEach (e :: es) X.env = (false, eval e X.env) :: starEach es X.env := by rfl)
    (hpl : (backTo pos (starEach es X.env)).any (·.1) = false := by rfl) : PE X (.Call (.Name x p) (e :: es) [] pos) (tCall sp [] E0 t) := by
  obtain ⟨rfl, rfl, rfl, rfl, rfl⟩ := hX
  exact pe_call G (hr.mono hk) hg D.m D.F.kp D.b .nil pass0 ha hdb he hpl
theorem Me.cl (D : Me K C x qual st ps) (c : Cls K C) (G : FnOk P w K mg base CX0 k D.f D.fd ps sp) {X : Cx} (hr : Room n X.A) (ho : PE X o ta) (ha : PA X (e :: es) t) (hk : k ≤ n := by omega) (hX : Of X P w K mg base := by exact ⟨rfl, rfl, rfl, rfl, rfl⟩)
    {pl : Sem Bool} (hst : starEach (e :: es) X.env = (false, eval e X.env) :: starEach es X.env := by rfl) (hpl : (backTo pos (starEach es X.env)).any (·.1) = false := by rfl)
    (ht : eval (.Call (.Attribute o x apos) (e :: es) [] pos) X.env = (do
      let ov ← eval o X.env
      standAt apos.atName
      let (f, first) ← holding [ov] (getMethod ov x pl)
      callWith pos f first (backTo pos (starEach (e :: es) X.env)) (backToKw pos (keywordEach [] X.env))) := by rfl) :
    PE X (.Call (.Attribute o x apos) (e :: es) [] pos) (tMeth C x sp [] E0 ta t) := by
  obtain ⟨rfl, rfl, rfl, rfl, rfl⟩ := hX
  exact pe_meth ho c D.m G (hr.mono hk) D.b .nil pass0 ha hst hpl ht
end

/-! ### heaps -/
theorem same_new {H : Hp} {p : Addr} (h : H p = none) (o : HO) : Same H (upd H p o) := fun b u q => by
  rw [upd_ne (ne_of_none q h)]
  exact q
theorem Same.tup {K : PySem.W.Frag} {H H' : Hp} {a : Addr} {xs : List V} (e : Same H H') (h : SqT K H a xs) : SqT K H' a xs := by
  rcases h with (h | ⟨o, h⟩) | h
  · exact .inl (.inl (e _ _ h))
  · exact .inl (.inr ⟨o, e _ _ h⟩)
  · exact .inr h
theorem tupAt {K : PySem.W.Frag} {H : Hp} {a : Addr} {xs : List V} (h : H a = some (.tup xs)) : SqT K H a xs := .inl (.inl h)
theorem lstAt {K : PySem.W.Frag} {H : Hp} {a : Addr} {xs : List V} (h : H a = some (.lst xs)) : SqL K H a xs := .inl (.inl h)
/-- what is wanted of a new tuple of xs -/
def Gives (H : Hp) (Q : VK) (xs : List V) : Prop := ∀ H' p, Same H H' → H' p = some (.tup xs) → Q (.ref p) H'
theorem Gives.mono {H H1 : Hp} {Q : VK} {xs : List V} (g : Gives H Q xs) (s : Same H H1) : Gives H1 Q xs := fun H' p s' e => g H' p (s.trans s') e
theorem Gives.new {H : Hp} {Q : VK} {xs : List V} (g : Gives H Q xs) {H1 : Hp} (s : Same H H1) : ∀ p, H1 p = none → Q (.ref p) (upd H1 p (.tup xs)) :=
  fun p hp => g _ p (s.trans (same_new hp _)) upd_same
theorem small {n : Nat} (h : n ≤ 1000) : n ≤ sizeLine := Nat.le_of_lt (small1000 h)
theorem sz {n : Nat} (h : Nat.ble n 1000 = true := by exact rfl) : n ≤ sizeLine := small (Nat.le_of_ble_eq_true h)
theorem szl {n : Nat} (h : Nat.ble n 1000 = true := by exact rfl) : n < sizeLine := small1000 (Nat.le_of_ble_eq_true h)
/-- a tuple's item, its name in slot i, its place j -/
def tVI (K : PySem.W.Frag) (i j : Nat) : TE := fun σ H Q => ∃ a xs v, σ[i]? = some (some (.ref a)) ∧ SqT K H a xs ∧ xs[j]? = some v ∧ Q v H
section
variable {X : Cx}
theorem vi (i j : Nat) {x : Str} {p p2 pos : Pos} {k} (hN : X.N[i]? = some x := by rfl) (hv : Vis X.env.scope x := by first | exact Or.inl rfl | exact Or.inr (Or.inl rfl) | exact Or.inr (Or.inr rfl))
    (hd : (x == ("__debug__" : Str)) = false := by decide) (hcd : (x == ("__classdict__" : Str)) = false := by decide) :
    PE X (.Subscript (.Name x p) (.Constant (.int (j : Int)) k p2) pos) (tVI X.K i j) := by
  refine ⟨fun pins s σ H Q I h => ?_⟩
  obtain ⟨a, xs, v, h1, h2, h3, q⟩ := h
  exact (pe_ix ix_tup (pv i hN hv hd hcd) pe_int (fun _ _ => rfl)).run pins s σ H Q I ⟨_, h1, a, xs, _, v, rfl, rfl, h2, atI_nat h3, q⟩
end

theorem ok_none {P : Program} {w : World} {K : PySem.W.Frag} {mg : Str → Option Value} {base : Heap} {k : Nat} {f : Addr} {fd : FuncData} {ps : List Str} {sp : Sp} (no : ∀ vs H Q E, ¬ sp vs H Q E) : FnOk P w K mg base CX0 k f fd ps sp :=
  ⟨fun vs H Q E h => absurd h (no vs H Q E), fun A outer s H args us vs Q E _ _ _ _ h => absurd h (no vs H Q E)⟩
theorem iteYes {p A B : Prop} [Decidable p] (h : p) (a : A) : if decide p = true then A else B := by
  rw [decide_eq_true h]
  exact iteT a
theorem iteNo {p A B : Prop} [Decidable p] (h : ¬ p) (b : B) : if decide p = true then A else B := by
  rw [decide_eq_false h]
  exact iteF b

/-! ### words in the heap -/
/-- all tuples stay -/
def TT (K : PySem.W.Frag) (H H' : Hp) : Prop := ∀ a xs, SqT K H a xs → SqT K H' a xs
theorem Same.tt {K : PySem.W.Frag} {H H' : Hp} (s : Same H H') : TT K H H' := fun _ _ h => Same.tup s h
theorem TT.trans {K : PySem.W.Frag} {H H1 H2 : Hp} (s : TT K H H1) (t : TT K H1 H2) : TT K H H2 := fun _ _ h => t _ _ (s _ _ h)
mutual
def IsDeed (K : PySem.W.Frag) (H : Hp) : Deed → Addr → Prop
  | .go n, p => SqT K H p [.str "go", .int n]
  | .jump n, p => SqT K H p [.str "jump", .int n]
  | .turn n, p => SqT K H p [.str "turn", .int n]
  | .times n w, p => ∃ b, SqT K H p [.str "times", .int n, .ref b] ∧ ∃ ps : List Addr, SqT K H b (ps.map V.ref) ∧ AreDeeds K H w ps
def AreDeeds (K : PySem.W.Frag) (H : Hp) : Word → List Addr → Prop
  | .nil, ps => ps = []
  | .cons d w, ps => ∃ p r, ps = p :: r ∧ IsDeed K H d p ∧ AreDeeds K H w r
end
def IsWord (K : PySem.W.Frag) (H : Hp) (w : Word) (b : Addr) : Prop := ∃ ps : List Addr, SqT K H b (ps.map V.ref) ∧ AreDeeds K H w ps
mutual
theorem IsDeed.tt {K : PySem.W.Frag} {H H' : Hp} (t : TT K H H') : ∀ (d : Deed) {p : Addr}, IsDeed K H d p → IsDeed K H' d p
  | .go n, p, h => by
    unfold IsDeed at h ⊢
    exact t _ _ h
  | .jump n, p, h => by
    unfold IsDeed at h ⊢
    exact t _ _ h
  | .turn n, p, h => by
    unfold IsDeed at h ⊢
    exact t _ _ h
  | .times n w, p, h => by
    unfold IsDeed at h ⊢
    obtain ⟨b, h1, ps, h2, h3⟩ := h
    exact ⟨b, t _ _ h1, ps, t _ _ h2, AreDeeds.tt t w h3⟩
theorem AreDeeds.tt {K : PySem.W.Frag} {H H' : Hp} (t : TT K H H') : ∀ (w : Word) {ps : List Addr}, AreDeeds K H w ps → AreDeeds K H' w ps
  | .nil, ps, h => by
    unfold AreDeeds at h ⊢
    exact h
  | .cons d w, ps, h => by
    unfold AreDeeds at h ⊢
    obtain ⟨p, r, e, h1, h2⟩ := h
    exact ⟨p, r, e, IsDeed.tt t d h1, AreDeeds.tt t w h2⟩
end
theorem IsWord.tt {K : PySem.W.Frag} {H H' : Hp} (t : TT K H H') {w : Word} {b : Addr} (h : IsWord K H w b) : IsWord K H' w b := by
  obtain ⟨ps, h1, h2⟩ := h
  exact ⟨ps, t _ _ h1, AreDeeds.tt t w h2⟩
theorem at_map {ps : List Addr} {i : Nat} {x : V} (h : (ps.map V.ref)[i]? = some x) : ∃ p, x = .ref p ∧ ps.drop i = p :: ps.drop (i + 1) := by
  rw [List.getElem?_map] at h
  cases e : ps[i]? with
  | none =>
    rw [e] at h
    cases h
  | some p =>
    rw [e] at h
    obtain ⟨hi, hp⟩ := List.getElem?_eq_some_iff.mp e
    refine ⟨p, (Option.some.inj h).symm, ?_⟩
    rw [List.drop_eq_getElem_cons hi, hp]
/-- the next deed of a word -/
theorem next_deed {K : PySem.W.Frag} {H : Hp} {w : Word} {ps : List Addr} {i : Nat} {x : V} (h : AreDeeds K H w (ps.drop i)) (e : (ps.map V.ref)[i]? = some x) :
    ∃ d u p, w = .cons d u ∧ x = .ref p ∧ IsDeed K H d p ∧ AreDeeds K H u (ps.drop (i + 1)) := by
  obtain ⟨p, rfl, ed⟩ := at_map e
  rw [ed] at h
  cases w with
  | nil =>
    unfold AreDeeds at h
    cases h
  | cons d u =>
    unfold AreDeeds at h
    obtain ⟨q, r, e2, h1, h2⟩ := h
    cases e2
    exact ⟨d, u, p, rfl, rfl, h1, h2⟩
theorem last_deed {K : PySem.W.Frag} {H : Hp} {w : Word} {ps : List Addr} (h : AreDeeds K H w (ps.drop (ps.map V.ref).length)) : w = .nil := by
  rw [List.length_map, List.drop_length] at h
  cases w with
  | nil => rfl
  | cons d u =>
    unfold AreDeeds at h
    obtain ⟨q, r, e2, h1, h2⟩ := h
    cases e2

theorem go_turn : ¬ V.str "go" = V.str "turn" := by decide +kernel
theorem go_times : ¬ V.str "go" = V.str "times" := by decide +kernel
theorem jump_turn : ¬ V.str "jump" = V.str "turn" := by decide +kernel
theorem jump_times : ¬ V.str "jump" = V.str "times" := by decide +kernel
theorem jump_go : ¬ V.str "jump" = V.str "go" := by decide +kernel
theorem turn_times : ¬ V.str "turn" = V.str "times" := by decide +kernel
theorem turn_go : ¬ V.str "turn" = V.str "go" := by decide +kernel
theorem times_turn : ¬ V.str "times" = V.str "turn" := by decide +kernel
theorem times_go : ¬ V.str "times" = V.str "go" := by decide +kernel

def moV (m : Mo) : List V := [.int m.x, .int m.y, .int m.q]
def boxV (b : Box) : List V := [.int b.a, .int b.b, .int b.c, .int b.d]
def stkV (s : Stk) : List V := [.int s.x, .int s.y, .int s.w]
end Pen

/-! a rule of the layer that was lacking: for x in range(a, b), a and b ints of any size -/
namespace Pen
open PySem PySem.Spec PyProof.Rows L2
/-- the turns of the iterator that CPython takes where a number does not fit in 64 bits -/
theorem turn_long {P : Program} {w : World} {K : PySem.W.Frag} {tg : Expr} (it : Addr) (lo : Int) (n : Nat) :
    Turn P w K tg (Itr lo n) [it] it (fun i h => IsLongIter h it (lo + (i : Nat) * 1) ((n : Int) - (i : Nat)) 1) := by
  refine ⟨List.mem_singleton.mpr rfl, fun i h st b hb => ?_, fun i h h' st k => k it (List.mem_singleton.mpr rfl) _ st, ?_, ?_, fun _ _ _ _ _ st h => wpAny_pyIter_longiter st h⟩
  · cases List.mem_singleton.mp hb
    exact ⟨_, st, fun v z => Data.noConfusion z⟩
  · intro X hP hw hK hc i pins s σ H E I hf st hg
    cases hP
    cases hw
    obtain ⟨f0, f1, f2, f3, f4, f5⟩ := hf it (List.mem_singleton.mpr rfl)
    refine (Walks.longrange (prog := X.prog) (w := X.w) (I.ok.hd hc) it lo 1 n).item i s _ _ hg st ?_
    rintro v h' tk ⟨t, rfl⟩ st' kk
    have I1 := I.turned (h' := h') (t' := tk) (fun b o hb e => kk b o (fun z => hb (List.mem_singleton.mp z)) e) f0 f1 f3 f4 f5
    refine ⟨_, rfl, go_of (s := { s with heap := h', toks := tk }) (n := "longrange_iterator") st' rfl rfl (by decide) ?_⟩
    exact ⟨.int (lo + i), H, I1, ⟨t, by rw [Int.mul_one]⟩, ⟨rfl, rfl⟩, st', fun b hb => (hf b hb).1⟩
  · intro X hP hw hK hc i pins s σ H E I hf st hg
    cases hP
    cases hw
    have hg' : n ≤ i := hg
    obtain ⟨f0, f1, f2, f3, f4, f5⟩ := hf it (List.mem_singleton.mpr rfl)
    exact wpAny_pyNext_long_end (I.ok.hd hc) st (by omega) fun h' eb => ⟨rfl, I.turned (t' := s.toks) (fun b o hb e => eb b o hb e) f0 f1 f3 f4 f5⟩
section
variable {X : Cx} {tg : Expr}
/-- a range object just made, walked, its ends of any size -/
theorem range_any {pins : List (Addr × Obj)} {σ : L2.St} {H : Hp} {s : Shared} {R : It → Hp → Prop} {E : Value → Shared → Prop} {lo hi : Int} {t u v : Tok} {tk : Nat}
    (I : Inv X pins σ H s) (q : R (Itr lo (hi - lo).toNat) H) :
    wpAny (model X.prog X.w) X.A (pyIter (.ref s.heap.objs.size)) (PIE X pins σ tg R) E
      { s with heap := s.heap.push { cls := .type "range", data := .fields #[.int lo t, .int hi u, .int 1 v] }, toks := tk } := by
  have I1 := I.kept (h' := s.heap.push { cls := .type "range", data := .fields #[.int lo t, .int hi u, .int 1 v] }) (t' := tk) fun b o e => Heap.get?_push_of_some _ e
  have e1 : lo + ((0 : Nat) : Int) * 1 = lo := by omega
  have e2 : (((hi - lo).toNat : Nat) : Int) - ((0 : Nat) : Int) = Builtin.Range.rangeSize lo hi 1 := by
    rw [rangeSize_one]
    split <;> omega
  by_cases hs : Builtin.Range.small lo hi 1 = true
  · refine wpAny_pyIter_range (IsRange.new ..) hs ?_
    refine ⟨_, [_], _, _, H, rfl, I1.kept (t' := tk) fun b o e => Heap.get?_push_of_some _ e, turn_range _ lo (hi - lo).toNat, ?_, fun b hb => ?_, q⟩
    · show IsRangeIter _ _ (lo + ((0 : Nat) : Int) * 1) ((((hi - lo).toNat : Nat) : Int) - ((0 : Nat) : Int)) 1
      rw [e1, e2]
      exact Heap.get?_push_size _ rfl
    · cases List.mem_singleton.mp hb
      exact I1.fpOk (Nat.le_refl _) (I1.hok.fresh (Nat.le_refl _))
  · refine wpAny_pyIter_longrange (IsRange.new ..) (Bool.eq_false_iff.mpr hs) ?_
    refine ⟨_, [_], _, _, H, rfl, I1.kept (t' := tk) fun b o e => Heap.get?_push_of_some _ e, turn_long _ lo (hi - lo).toNat, ?_, fun b hb => ?_, q⟩
    · show IsLongIter _ _ (lo + ((0 : Nat) : Int) * 1) ((((hi - lo).toNat : Nat) : Int) - ((0 : Nat) : Int)) 1
      rw [e1, e2]
      exact Heap.get?_push_size _ rfl
    · cases List.mem_singleton.mp hb
      exact I1.fpOk (Nat.le_refl _) (I1.hok.fresh (Nat.le_refl _))
def iRngA (ta : TA) : TI := fun σ H R => ta σ H fun vs H1 => ∃ i j : Int, vs = [.int i, .int j] ∧ R (Itr i (j - i).toNat) H1
theorem pi_rangeA {a b : Expr} {ta : TA} {p pos : Pos} (hg : Gl X "range") (hm : X.mg "range" = none) (ha : PA X [a, b] ta)
    (hs : starEach [a, b] X.env = [(false, eval a X.env), (false, eval b X.env)] := by rfl) (hs2 : starEach [b] X.env = [(false, eval b X.env)] := by rfl) :
    PI X tg (.Call (.Name "range" p) [a, b] [] pos) (iRngA ta) := by
  refine ⟨fun pins s σ H R I h => Call_ (ld_blt I hg hm boot_range (PyProof.Rows.callWith_type1 (thn (ha.run pos pins s σ H _ I h) ?_) (by rw [hs, hs2]) (by rw [hs2]; rfl)))⟩
  rintro us s1 ⟨vs, H1, I1, r1, i, j, rfl, q⟩
  obtain ⟨u1, u2, rfl, ⟨t, rfl⟩, ⟨t', rfl⟩⟩ := vals2 r1
  exact call_range_2 (range_any I1 q)
end
end Pen

/-! the walk of words.py: motions -/
namespace Pen
open PySem L2
section
variable {P : Program} {w : World} {K : PySem.W.Frag} {mg : Str → Option Value} {base : Heap}

/-! ### quarter_turned -/
theorem scQuarter : FnScope ["x", "y", "quarters", "quarter"] ["x", "y", "quarters"] (defScope sQuarter) := ⟨rfl, rfl, rfl, by decide +kernel, rfl, by decide +kernel, by decide +kernel⟩
def spQuarter : Sp := fun vs H Q _ => ∃ x y q : Int, vs = [.int x, .int y, .int q] ∧ Gives H Q [.int (rot q x y).1, .int (rot q x y).2]
theorem ok_quarter (T : Tx K mg) : FnOk P w K mg base CX0 1 T.quarter.f T.quarter.fd ["x", "y", "quarters"] spQuarter := by
  refine T.quarter.F.ok scQuarter (fun vs H Q E h => ?_) (fun cdv A outer s H vs Q E hr h => ?_)
  · obtain ⟨x, y, q, rfl, _⟩ := h
    rfl
  obtain ⟨x, y, q, rfl, g⟩ := h
  refine ⟨_, pss_cons (ps_for PassesOwn.never rfl (pi_range1 (by rfl) T.zRange (pa_cons (pe_op op_mod (pv 2) pe_int) pa_nil)) (pg_name (i := 3) scQuarter.nd rfl (.inl rfl))
      (pss_one (ps_par (i := 0) (j := 1) (by rfl) scQuarter.nd rfl rfl (by decide) rfl rfl (pa_cons (pe_op op_sub pe_int (pv 1)) (pa_cons (pv 0) pa_nil)) (by rfl))))
    (pss_one (ps_ret (pe_tup (pa_cons (pv 0) (pa_cons (pv 1) pa_nil))))), ?_⟩
  refine ⟨_, rfl, _, _, rfl, rfl, (by show (0 : Int) < 4; decide), _, rfl, by omega, by omega,
    for_range (lo := 0) (n := (q % 4).toNat) (fun i σ H' => ∃ a b z, σ = [some (.int a), some (.int b), some (.int q), z] ∧ rotN ((q % 4).toNat - i) a b = rot q x y ∧ H' = H) ?_ ?_ ?_⟩
  · exact ⟨x, y, none, rfl, rfl, rfl⟩
  · rintro i σ H' hi ⟨a, b, z, rfl, e, rfl⟩
    refine ⟨_, rfl, _, _, rfl, rfl, _, rfl, _, _, rfl, 0 - b, a, _, rfl, ?_, rfl⟩
    rw [← e]
    obtain ⟨j, hj⟩ : ∃ j, (q % 4).toNat - i = j + 1 := ⟨(q % 4).toNat - i - 1, by omega⟩
    rw [hj, show (q % 4).toNat - (i + 1) = j by omega]
    rfl
  · rintro σ H' ⟨a, b, z, rfl, e, rfl⟩
    rw [Nat.sub_self] at e
    have e1 : (a, b) = rot q x y := e
    refine ⟨_, rfl, _, rfl, sz, ?_⟩
    rw [← e1] at g
    exact g.new (Same.refl _)

/-! ### both_motions -/
theorem scBoth : FnScope ["one", "other", "x", "y"] ["one", "other"] (defScope sBoth) := ⟨rfl, rfl, rfl, by decide +kernel, rfl, by decide +kernel, by decide +kernel⟩
def spBoth (K : PySem.W.Frag) : Sp := fun vs H Q _ => ∃ (a b : Addr) (m n : Mo), vs = [.ref a, .ref b] ∧ SqT K H a (moV m) ∧ SqT K H b (moV n) ∧ Gives H Q (moV (comp m n))
theorem ok_both (T : Tx K mg) : FnOk P w K mg base CX0 2 T.both.f T.both.fd ["one", "other"] (spBoth K) := by
  refine T.both.F.ok scBoth (fun vs H Q E h => ?_) (fun cdv A outer s H vs Q E hr h => ?_)
  · obtain ⟨a, b, m, n, rfl, _⟩ := h
    rfl
  obtain ⟨a, b, m, n, rfl, ha, hb, g⟩ := h
  refine ⟨_, pss_cons (ps_asg (T.quarter.cl (ok_quarter T) hr (pa_cons (vi 1 0) (pa_cons (vi 1 1) (pa_cons (vi 0 2) pa_nil))))
      (pg_tup (by rfl) (pgs_cons (pg_name (i := 2) scBoth.nd rfl (.inl rfl)) (pgs_cons (pg_name (i := 3) scBoth.nd rfl (.inl rfl)) pgs_nil))))
    (pss_one (ps_ret (pe_tup (pa_cons (pe_op op_add (vi 0 0) (pv 2)) (pa_cons (pe_op op_add (vi 0 1) (pv 3))
      (pa_cons (pe_op op_mod (pe_op op_add (vi 0 2) (vi 1 2)) pe_int) pa_nil)))))), ?_⟩
  refine ⟨b, _, _, rfl, hb, rfl, b, _, _, rfl, hb, rfl, a, _, _, rfl, ha, rfl, n.x, n.y, m.q, rfl, fun H1 p s1 e1 => ?_⟩
  refine ⟨p, _, rfl, tupAt e1, rfl, _, _, rfl, _, _, rfl, rfl, ?_⟩
  have ha1 := Same.tup s1 ha
  have hb1 := Same.tup s1 hb
  refine ⟨a, _, _, rfl, ha1, rfl, _, rfl, _, _, rfl, rfl, a, _, _, rfl, ha1, rfl, _, rfl, _, _, rfl, rfl,
    a, _, _, rfl, ha1, rfl, b, _, _, rfl, hb1, rfl, _, _, rfl, rfl, _, _, rfl, rfl, (by show (0 : Int) < 4; decide), sz, ?_⟩
  exact Gives.new g s1

/-! ### many_motions -/
theorem scMany : FnScope ["motion", "times", "found"] ["motion", "times"] (defScope sMany) := ⟨rfl, rfl, rfl, by decide +kernel, rfl, by decide +kernel, by decide +kernel⟩
def spMany (K : PySem.W.Frag) : Sp := fun vs H Q _ => ∃ (a : Addr) (m : Mo) (n : Int), vs = [.ref a, .int n] ∧ SqT K H a (moV m) ∧ Norm m ∧ 0 ≤ n ∧ Gives H Q (moV (pow m n.toNat))
theorem ok_many (T : Tx K mg) : FnOk P w K mg base CX0 3 T.many.f T.many.fd ["motion", "times"] (spMany K) := by
  refine T.many.F.ok scMany (fun vs H Q E h => ?_) (fun cdv A outer s H vs Q E hr h => ?_)
  · obtain ⟨a, m, n, rfl, _⟩ := h
    rfl
  obtain ⟨a, m, n, rfl, ha, hm, hn, g⟩ := h
  refine ⟨_, pss_cons (ps_set (i := 2) scMany.nd rfl (.inl rfl) (pe_tup (pa_cons pe_int (pa_cons pe_int (pa_cons pe_int pa_nil)))))
    (pss_cons (ps_while PassesOwn.never (pt_cmpR op_gt (pv 1) pe_int (nomark _))
      (C8.pss_cut (ps_if (pt_cmpR op_eq (pe_op op_mod (pv 1) pe_int) pe_int (nomark _)) (pss_one (ps_set (i := 2) scMany.nd rfl (.inl rfl) (T.both.cl (ok_both T) hr (pa_cons (pv 2) (pa_cons (pv 0) pa_nil))))) pss_nil)
      (pss_cons (ps_set (i := 0) scMany.nd rfl (.inl rfl) (T.both.cl (ok_both T) hr (pa_cons (pv 0) (pa_cons (pv 0) pa_nil))))
      (pss_one (ps_set (i := 1) scMany.nd rfl (.inl rfl) (pe_op op_fdiv (pv 1) pe_int))))))
    (pss_one (ps_ret (pv 2)))), ?_⟩
  refine ⟨sz, fun f hf => ?_⟩
  let Wi : Nat → L2.St → Hp → Prop := fun k σ H' => ∃ (a f : Addr) (M F : Mo), σ = [some (.ref a), some (.int (k : Int)), some (.ref f)] ∧ SqT K H' a (moV M) ∧ H' f = some (.tup (moV F)) ∧ Norm M ∧ Norm F ∧ comp F (pow M k) = pow m n.toNat ∧ Same H H'
  refine ⟨Wi, ⟨n.toNat, a, f, m, one, ?_, Same.tup (same_new hf _) ha, upd_same, hm, norm_one, one_comp (norm_pow _ _), same_new hf _⟩, ?_⟩
  · show [some (V.ref a), some (V.int n), some (V.ref f)] = _
    rw [Int.toNat_of_nonneg hn]
  rintro k σ H' ⟨a, f, M, F, rfl, hA, hF, nM, nF, e, sm⟩
  refine ⟨_, rfl, _, _, rfl, rfl, _, rfl, ite2 (fun c => ?_) (fun c => ?_)⟩
  · have hk : 0 < (k : Int) := of_decide_eq_true c
    obtain ⟨j, hj⟩ : ∃ j, (k = 2 * j ∨ k = 2 * j + 1) := ⟨k / 2, by omega⟩
    refine ⟨Wi j, fun σ' H'' h => ⟨j, by omega, h⟩, ?_⟩
    refine ⟨fun σ' H'' => ∃ (f : Addr) (F : Mo), σ' = [some (.ref a), some (.int (k : Int)), some (.ref f)] ∧ SqT K H'' a (moV M) ∧ H'' f = some (.tup (moV F)) ∧ Norm F ∧ comp F (pow (comp M M) j) = pow m n.toNat ∧ Same H H'', ?_, ?_⟩
    · refine ⟨_, rfl, _, _, rfl, rfl, (by show (0 : Int) < 2; decide), rfl, _, rfl, ite2 (fun c2 => ?_) (fun c2 => ?_)⟩
      · have h2 : (k : Int) % 2 = 1 := V.int.inj (of_decide_eq_true c2)
        have hj2 : k = 2 * j + 1 := by omega
        refine ⟨_, rfl, _, rfl, f, a, F, M, rfl, tupAt hF, hA, fun H2 p s2 e2 => ?_⟩
        exact ⟨p, comp F M, rfl, Same.tup s2 hA, e2, norm_comp _ _, by rw [pow_odd nM, ← hj2]; exact e, sm.trans s2⟩
      · have h2 : ¬ (k : Int) % 2 = 1 := fun q => c2 (decide_eq_true (congrArg V.int q))
        have hj2 : k = 2 * j := by omega
        exact ⟨f, F, rfl, hA, hF, nF, by rw [pow_even, ← hj2]; exact e, sm⟩
    · rintro σ' H2 ⟨f, F, rfl, hA, hF, nF, e, sm⟩
      refine ⟨_, rfl, _, rfl, a, a, M, M, rfl, hA, hA, fun H3 p s3 e3 => ?_⟩
      refine ⟨_, rfl, _, _, rfl, rfl, ⟨by decide, by decide⟩, p, f, comp M M, F, ?_, tupAt e3, s3 _ _ hF, norm_comp _ _, nF, e, sm.trans s3⟩
      have ek : (k : Int) / 2 = (j : Int) := by omega
      show [some (V.ref p), some (V.int ((k : Int) / 2)), some (V.ref f)] = _
      rw [ek]
  · have hk : k = 0 := by
      have q : ¬ 0 < (k : Int) := fun q => c (decide_eq_true q)
      omega
    subst hk
    have e' : F = pow m n.toNat := (comp_one nF).symm.trans e
    subst e'
    exact ⟨_, rfl, g H' f sm hF⟩
end
end Pen

/-! the walk of words.py: motion_of, deed_motion -/
namespace Pen
open PySem L2
section
variable {P : Program} {w : World} {K : PySem.W.Frag} {mg : Str → Option Value} {base : Heap}

/-! ### deed_motion, motion_of -/
def spDeedMo (K : PySem.W.Frag) (n : Nat) : Sp := fun vs H Q _ => ∃ (p : Addr) (D : Deed), vs = [.ref p] ∧ IsDeed K H D p ∧ DeedOk D ∧ deedDeep D ≤ n ∧ Gives H Q (moV (deedMo D))
def spMotion (K : PySem.W.Frag) (n : Nat) : Sp := fun vs H Q _ => ∃ (b : Addr) (W : Word), vs = [.ref b] ∧ IsWord K H W b ∧ WordOk W ∧ wordDeep W < n ∧ Gives H Q (moV (wordMo one W))
theorem scDeedMo : FnScope ["deed"] ["deed"] (defScope sDeedMo) := ⟨rfl, rfl, rfl, by decide +kernel, rfl, by decide +kernel, by decide +kernel⟩
theorem ok_deedMo (T : Tx K mg) (n : Nat) (G : FnOk P w K mg base CX0 (2 * n + 3) T.motion.f T.motion.fd ["deeds"] (spMotion K n)) :
    FnOk P w K mg base CX0 (2 * n + 4) T.deedMo.f T.deedMo.fd ["deed"] (spDeedMo K n) := by
  refine T.deedMo.F.ok scDeedMo (fun vs H Q E h => ?_) (fun cdv A outer s H vs Q E hr h => ?_)
  · obtain ⟨p, D, rfl, _⟩ := h
    rfl
  obtain ⟨p, D, rfl, hD, hok, hdeep, g⟩ := h
  refine ⟨_, pss_cons (ps_if (pt_cmpR op_eq (vi 0 0) pe_str (nomark _)) (pss_one (ps_ret (pe_tup (pa_cons pe_int (pa_cons pe_int (pa_cons (pe_op op_mod (vi 0 1) pe_int) pa_nil)))))) pss_nil)
    (pss_cons (ps_if (pt_cmpR op_eq (vi 0 0) pe_str (nomark _)) (pss_one (ps_ret (T.many.cl (ok_many T) hr (pa_cons (T.motion.cl G hr (pa_cons (vi 0 2) pa_nil)) (pa_cons (vi 0 1) pa_nil))))) pss_nil)
    (pss_one (ps_ret (pe_tup (pa_cons (vi 0 1) (pa_cons pe_int (pa_cons pe_int pa_nil))))))), ?_⟩
  cases D with
  | go m =>
    unfold IsDeed at hD
    unfold deedMo at g
    refine ⟨p, _, _, rfl, hD, rfl, rfl, _, rfl, iteNo go_turn ⟨p, _, _, rfl, hD, rfl, rfl, _, rfl, iteNo go_times ⟨p, _, _, rfl, hD, rfl, sz, ?_⟩⟩⟩
    exact g.new (Same.refl _)
  | jump m =>
    unfold IsDeed at hD
    unfold deedMo at g
    refine ⟨p, _, _, rfl, hD, rfl, rfl, _, rfl, iteNo jump_turn ⟨p, _, _, rfl, hD, rfl, rfl, _, rfl, iteNo jump_times ⟨p, _, _, rfl, hD, rfl, sz, ?_⟩⟩⟩
    exact g.new (Same.refl _)
  | turn m =>
    unfold IsDeed at hD
    unfold deedMo at g
    refine ⟨p, _, _, rfl, hD, rfl, rfl, _, rfl, iteYes rfl ⟨p, _, _, rfl, hD, rfl, _, _, rfl, rfl, (by show (0 : Int) < 4; decide), sz, ?_⟩⟩
    exact g.new (Same.refl _)
  | times m u =>
    unfold IsDeed at hD
    unfold deedMo at g
    unfold DeedOk at hok
    unfold deedDeep at hdeep
    obtain ⟨b, hp, hb⟩ := hD
    refine ⟨p, _, _, rfl, hp, rfl, rfl, _, rfl, iteNo times_turn ⟨p, _, _, rfl, hp, rfl, rfl, _, rfl, iteYes rfl ⟨p, _, _, rfl, hp, rfl, b, u, rfl, hb, hok.2, hdeep, fun H1 q s1 e1 => ?_⟩⟩⟩
    exact ⟨p, _, _, rfl, Same.tup s1 hp, rfl, q, _, m, rfl, tupAt e1, norm_word u norm_one, hok.1.1, g.mono s1⟩
theorem scMotion : FnScope ["deeds", "found", "deed"] ["deeds"] (defScope sMotion) := ⟨rfl, rfl, rfl, by decide +kernel, rfl, by decide +kernel, by decide +kernel⟩
theorem ok_motion1 (T : Tx K mg) (n : Nat) (G : FnOk P w K mg base CX0 (2 * n + 4) T.deedMo.f T.deedMo.fd ["deed"] (spDeedMo K n)) :
    FnOk P w K mg base CX0 (2 * n + 5) T.motion.f T.motion.fd ["deeds"] (spMotion K (n + 1)) := by
  refine T.motion.F.ok scMotion (fun vs H Q E h => ?_) (fun cdv A outer s H vs Q E hr h => ?_)
  · obtain ⟨b, W, rfl, _⟩ := h
    rfl
  obtain ⟨b, W, rfl, ⟨ps, hb, hw⟩, hok, hdeep, g⟩ := h
  refine ⟨_, pss_cons (ps_set (i := 1) scMotion.nd rfl (.inl rfl) (pe_tup (pa_cons pe_int (pa_cons pe_int (pa_cons pe_int pa_nil)))))
    (pss_cons (ps_for PassesOwn.never rfl (pi_tup (pv 0)) (pg_name (i := 2) scMotion.nd rfl (.inl rfl))
      (pss_one (ps_set (i := 1) scMotion.nd rfl (.inl rfl) (T.both.cl (ok_both T) hr (pa_cons (pv 1) (pa_cons (T.deedMo.cl G hr (pa_cons (pv 2) pa_nil)) pa_nil))))))
    (pss_one (ps_ret (pv 1)))), ?_⟩
  refine ⟨sz, fun f hf => ?_⟩
  refine ⟨_, rfl, b, rfl, ⟨_, Same.tup (same_new hf _) hb⟩, for_tup (K := K) (a := b) (xs := ps.map V.ref)
    (fun i σ H' => ∃ (f : Addr) (F : Mo) (z : Option V) (U : Word), σ = [some (.ref b), some (.ref f), z] ∧ H' f = some (.tup (moV F)) ∧ Norm F ∧ AreDeeds K H' U (ps.drop i) ∧ WordOk U ∧ wordDeep U < n + 1 ∧ wordMo F U = wordMo one W ∧ Same H H')
    ⟨f, one, none, W, rfl, upd_same, norm_one, AreDeeds.tt (Same.tt (same_new hf _)) W hw, hok, hdeep, rfl, same_new hf _⟩ (fun i σ H' _ ⟨_, _, _, _, _, _, _, _, _, _, _, sm⟩ => Same.tup sm hb) ?_ ?_⟩
  · rintro i x σ H' hi ⟨f, F, z, U, rfl, hf, nF, hU, okU, dU, e, sm⟩
    obtain ⟨d, u, p, rfl, rfl, hd, hu⟩ := next_deed hU hi
    unfold WordOk at okU
    unfold wordDeep at dU
    rw [wordMo_cons] at e
    refine ⟨_, rfl, _, rfl, p, d, rfl, hd, okU.1, by omega, fun H1 q s1 e1 => ?_⟩
    refine ⟨f, q, F, deedMo d, rfl, tupAt (s1 _ _ hf), tupAt e1, fun H2 r s2 e2 => ?_⟩
    exact ⟨r, _, _, u, rfl, e2, norm_comp _ _, AreDeeds.tt (Same.tt (s1.trans s2)) u hu, okU.2, by omega, e, sm.trans (s1.trans s2)⟩
  · rintro σ H' ⟨f, F, z, U, rfl, hf, nF, hU, okU, dU, e, sm⟩
    have eU := last_deed hU
    subst eU
    rw [wordMo_nil] at e
    rw [← e] at g
    exact ⟨_, rfl, g H' f sm hf⟩
theorem ok_motion (T : Tx K mg) : ∀ n : Nat, FnOk P w K mg base CX0 (2 * n + 3) T.motion.f T.motion.fd ["deeds"] (spMotion K n)
  | 0 => ok_none fun vs H Q E h => by
    obtain ⟨_, _, _, _, _, h, _⟩ := h
    exact absurd h (Nat.not_lt_zero _)
  | n + 1 => ok_motion1 T n (ok_deedMo T n (ok_motion T n))
end
end Pen

/-! the walk of words.py: what a word must be -/
namespace Pen
open PySem L2
section
variable {P : Program} {w : World} {K : PySem.W.Frag} {mg : Str → Option Value} {base : Heap}
theorem tyT {H : Hp} {b : Addr} {xs : List V} (h : SqT K H b xs) : TyX K H (.ref b) (.type "tuple") := by
  rcases h with (h | ⟨o, h⟩) | ⟨o, its, n, h1, h2, _⟩
  · exact .base (.tup h)
  · exact .fTuple h
  · exact .kTuple h1 h2
theorem kInt : PySem.W.kitOne K (.type "int") (.type "int") = some true := kit_ty (by decide +kernel)
theorem kIntBool : PySem.W.kitOne K (.type "int") (.type "bool") = some false := kit_ty (by decide +kernel)
theorem kTup : PySem.W.kitOne K (.type "tuple") (.type "tuple") = some true := kit_ty (by decide +kernel)
theorem b_int : bootBuiltins "int" = some (.type "int") := by decide +kernel
theorem b_bool : bootBuiltins "bool" = some (.type "bool") := by decide +kernel
theorem b_tuple : bootBuiltins "tuple" = some (.type "tuple") := by decide +kernel
theorem b_isi : bootBuiltins "isinstance" = some (.builtin "isinstance") := by decide +kernel

theorem notZero (n : Nat) (h : n ≠ 0) : ¬ V.int ((n : Nat) : Int) = V.int 0 := fun z => by
  have := V.int.inj z
  omega

/-! ### is_number -/
def spNumber : Sp := fun vs H Q _ => ∃ n m : Int, vs = [.int n, .int m] ∧ m ≤ n ∧ n < great ∧ Q (.bl true) H
theorem scNumber : FnScope ["thing", "least"] ["thing", "least"] (defScope sNumber) := ⟨rfl, rfl, rfl, by decide +kernel, rfl, by decide +kernel, by decide +kernel⟩
theorem ok_number (T : Tx K mg) : FnOk P w K mg base CX0 1 T.number.f T.number.fd ["thing", "least"] spNumber := by
  refine T.number.F.ok scNumber (fun vs H Q E h => ?_) (fun cdv A outer s H vs Q E hr h => ?_)
  · obtain ⟨n, m, rfl, _⟩ := h
    rfl
  obtain ⟨n, m, rfl, h1, h2, q⟩ := h
  obtain ⟨tg, hG⟩ := T.gGreat
  refine ⟨_, pss_one (ps_ret (pe_and (pe_callB call_isi (by rfl) T.zIsi b_isi (pa_cons (pv 0) (pa_cons (pe_bltn (v := .ty "int") (by rfl) T.zInt b_int rfl) pa_nil)))
    (pe_one (pe_chain op_le op_lt (pv 1) (pv 0) (pe_glob (v := .int 100000000000000000000) (by rfl) hG ⟨_, rfl⟩))))), ?_⟩
  refine ⟨_, rfl, _, _, _, _, _, rfl, .ty "int", .base (.int n), kInt, true, rfl, iteT ⟨_, rfl, _, rfl, _, _, rfl, rfl, _, rfl, iteYes h1 ⟨_, _, rfl, rfl, ?_⟩⟩⟩
  show Q (.bl (decide (n < great))) H
  rw [decide_eq_true h2]
  exact q

/-! ### is_deed -/
def spIsDeed (K : PySem.W.Frag) : Sp := fun vs H Q _ => ∃ (p : Addr) (D : Deed), vs = [.ref p] ∧ IsDeed K H D p ∧ DeedOk D ∧ Q (.bl true) H
theorem scIsDeed : FnScope ["deed"] ["deed"] (defScope sIsDeed) := ⟨rfl, rfl, rfl, by decide +kernel, rfl, by decide +kernel, by decide +kernel⟩
theorem ok_isDeed (T : Tx K mg) : FnOk P w K mg base CX0 2 T.isDeed.f T.isDeed.fd ["deed"] (spIsDeed K) := by
  refine T.isDeed.F.ok scIsDeed (fun vs H Q E h => ?_) (fun cdv A outer s H vs Q E hr h => ?_)
  · obtain ⟨p, D, rfl, _⟩ := h
    rfl
  obtain ⟨p, D, rfl, hD, hok, q⟩ := h
  obtain ⟨tg, hG⟩ := T.gGreat
  refine ⟨_, pss_cons (ps_if (pt_cmpR op_eq (pe_callB call_len_seq (by rfl) T.zLen PySem.boot_len (pa_cons (pv 0) pa_nil)) pe_int (nomark _)) (pss_one (ps_ret pe_bl)) pss_nil)
    (pss_cons (ps_if (pt_cmpR op_eq (vi 0 0) pe_str (nomark _)) (pss_one (ps_ret (pe_and (pe_cmpR op_eq (pe_callB call_len_seq (by rfl) T.zLen PySem.boot_len (pa_cons (pv 0) pa_nil)) pe_int (nomark _))
        (pe_and (T.number.cl (ok_number T) hr (pa_cons (vi 0 1) (pa_cons pe_int pa_nil)))
          (pe_one (pe_callB call_isi (by rfl) T.zIsi b_isi (pa_cons (vi 0 2) (pa_cons (pe_bltn (v := .ty "tuple") (by rfl) T.zTuple b_tuple rfl) pa_nil)))))))) pss_nil)
    (pss_cons (ps_if (pt_cmpR op_eq (vi 0 0) pe_str (nomark _)) (pss_one (ps_ret (pe_and (pe_cmpR op_eq (pe_callB call_len_seq (by rfl) T.zLen PySem.boot_len (pa_cons (pv 0) pa_nil)) pe_int (nomark _))
        (pe_one (T.number.cl (ok_number T) hr (pa_cons (vi 0 1) (pa_cons pe_int pa_nil))))))) pss_nil)
    (pss_one (ps_ret (pe_and (pe_cmpR op_in_seq (vi 0 0) (pe_glob (v := .ref T.simple) (by rfl) T.gSimple rfl) (by rfl))
      (pe_and (pe_cmpR op_eq (pe_callB call_len_seq (by rfl) T.zLen PySem.boot_len (pa_cons (pv 0) pa_nil)) pe_int (nomark _))
        (pe_one (T.number.cl (ok_number T) hr (pa_cons (vi 0 1) (pa_cons (pe_op op_sub pe_int (pe_glob (v := .int 100000000000000000000) (by rfl) hG ⟨_, rfl⟩)) pa_nil)))))))))), ?_⟩
  cases D with
  | go m =>
    unfold IsDeed at hD
    unfold DeedOk at hok
    refine ⟨_, rfl, p, _, rfl, .inr hD, rfl, _, rfl, iteNo (notZero _ (Nat.succ_ne_zero _)) ?_⟩
    refine ⟨p, _, _, rfl, hD, rfl, rfl, _, rfl, iteNo go_times ⟨p, _, _, rfl, hD, rfl, rfl, _, rfl, iteYes rfl ?_⟩⟩
    refine ⟨_, rfl, p, _, rfl, .inr hD, rfl, _, rfl, iteYes rfl ⟨p, _, _, rfl, hD, rfl, m, 0, rfl, hok.1, hok.2, q⟩⟩
  | jump m =>
    unfold IsDeed at hD
    unfold DeedOk at hok
    refine ⟨_, rfl, p, _, rfl, .inr hD, rfl, _, rfl, iteNo (notZero _ (Nat.succ_ne_zero _)) ?_⟩
    refine ⟨p, _, _, rfl, hD, rfl, rfl, _, rfl, iteNo jump_times ⟨p, _, _, rfl, hD, rfl, rfl, _, rfl, iteNo jump_go ?_⟩⟩
    refine ⟨p, _, _, rfl, hD, rfl, T.simple, _, rfl, .inr (T.kSimple H), rfl, by decide +kernel, true, by decide +kernel, iteT ?_⟩
    refine ⟨_, rfl, p, _, rfl, .inr hD, rfl, _, rfl, iteYes rfl ⟨p, _, _, rfl, hD, rfl, _, _, rfl, rfl, m, _, rfl, hok.1, hok.2, q⟩⟩
  | turn m =>
    unfold IsDeed at hD
    unfold DeedOk at hok
    refine ⟨_, rfl, p, _, rfl, .inr hD, rfl, _, rfl, iteNo (notZero _ (Nat.succ_ne_zero _)) ?_⟩
    refine ⟨p, _, _, rfl, hD, rfl, rfl, _, rfl, iteNo turn_times ⟨p, _, _, rfl, hD, rfl, rfl, _, rfl, iteNo turn_go ?_⟩⟩
    refine ⟨p, _, _, rfl, hD, rfl, T.simple, _, rfl, .inr (T.kSimple H), rfl, by decide +kernel, true, by decide +kernel, iteT ?_⟩
    refine ⟨_, rfl, p, _, rfl, .inr hD, rfl, _, rfl, iteYes rfl ⟨p, _, _, rfl, hD, rfl, _, _, rfl, rfl, m, _, rfl, hok.1, hok.2, q⟩⟩
  | times m u =>
    unfold IsDeed at hD
    unfold DeedOk at hok
    obtain ⟨b, hp, ps, hb, _⟩ := hD
    refine ⟨_, rfl, p, _, rfl, .inr hp, rfl, _, rfl, iteNo (notZero _ (Nat.succ_ne_zero _)) ?_⟩
    refine ⟨p, _, _, rfl, hp, rfl, rfl, _, rfl, iteYes rfl ?_⟩
    refine ⟨_, rfl, p, _, rfl, .inr hp, rfl, _, rfl, iteYes rfl ⟨p, _, _, rfl, hp, rfl, m, 0, rfl, hok.1.1, hok.1.2, true, rfl, iteT ?_⟩⟩
    exact ⟨p, _, _, rfl, hp, rfl, _, _, _, _, _, rfl, .ty "tuple", tyT hb, kTup, q⟩

/-! ### counted, deeds_in -/
def spCounted (K : PySem.W.Frag) (n : Nat) : Sp := fun vs H Q _ => ∃ (b : Addr) (W : Word) (e : Nat), vs = [.ref b, .int (e : Int)] ∧ IsWord K H W b ∧ WordOk W ∧ wordDeep W < n ∧ e + wordDeep W ≤ 4 ∧ Q (.int (wordSize W : Int)) H
theorem scCounted : FnScope ["deeds", "deep", "found", "deed"] ["deeds", "deep"] (defScope sCounted) := ⟨rfl, rfl, rfl, by decide +kernel, rfl, by decide +kernel, by decide +kernel⟩
theorem ok_counted1 (T : Tx K mg) (n : Nat) (G : FnOk P w K mg base CX0 (n + 3) T.counted.f T.counted.fd ["deeds", "deep"] (spCounted K n)) :
    FnOk P w K mg base CX0 (n + 4) T.counted.f T.counted.fd ["deeds", "deep"] (spCounted K (n + 1)) := by
  refine T.counted.F.ok scCounted (fun vs H Q E h => ?_) (fun cdv A outer s H vs Q E hr h => ?_)
  · obtain ⟨b, W, e, rfl, _⟩ := h
    rfl
  obtain ⟨b, W, e, rfl, ⟨ps, hb, hw⟩, hok, hdeep, h4, q⟩ := h
  obtain ⟨tg, hG⟩ := T.gDeep
  refine ⟨_, pss_cons (ps_if (pt_cmpR op_gt (pv 1) (pe_glob (v := .int 4) (by rfl) hG ⟨_, rfl⟩) (nomark _)) pss_never pss_nil)
    (pss_cons (ps_set (i := 2) scCounted.nd rfl (.inl rfl) (pe_callB call_len_seq (by rfl) T.zLen PySem.boot_len (pa_cons (pv 0) pa_nil)))
    (pss_cons (ps_for PassesOwn.never rfl (pi_tup (pv 0)) (pg_name (i := 3) scCounted.nd rfl (.inl rfl))
      (pss_cons (ps_if (PW.pt (pw_or (pt_not (pt_val (pe_callB call_isi (by rfl) T.zIsi b_isi (pa_cons (pv 3) (pa_cons (pe_bltn (v := .ty "tuple") (by rfl) T.zTuple b_tuple rfl) pa_nil)))))
          (pw_or1 (pt_not (pt_val (T.isDeed.cl (ok_isDeed T) hr (pa_cons (pv 3) pa_nil))))))) pss_never pss_nil)
        (pss_one (ps_if (pt_cmpR op_eq (vi 3 0) pe_str (nomark _))
          (pss_one (ps_set (i := 2) scCounted.nd rfl (.inl rfl) (pe_op op_add (pv 2) (T.counted.cl G hr (pa_cons (vi 3 2) (pa_cons (pe_op op_add (pv 1) pe_int) pa_nil)))))) pss_nil))))
    (pss_one (ps_ret (pv 2))))), ?_⟩
  refine ⟨_, rfl, _, _, rfl, rfl, _, rfl, iteNo (by omega) ?_⟩
  refine ⟨_, rfl, b, _, rfl, .inr hb, ?_⟩
  refine ⟨_, rfl, b, rfl, ⟨_, hb⟩, for_tup (K := K) (a := b) (xs := ps.map V.ref)
    (fun i σ H' => ∃ (f : Nat) (z : Option V) (U : Word), σ = [some (.ref b), some (.int (e : Int)), some (.int (f : Int)), z] ∧ AreDeeds K H U (ps.drop i) ∧ WordOk U ∧ wordDeep U < n + 1 ∧ wordDeep U ≤ wordDeep W ∧ f + wordSize U = wordSize W + (ps.length - i) ∧ H' = H)
    ⟨ps.length, none, W, ?_, hw, hok, hdeep, Nat.le_refl _, by omega, rfl⟩ (fun i σ H' _ ⟨_, _, _, _, _, _, _, _, _, e⟩ => by rw [e]; exact hb) ?_ ?_⟩
  · show [some (V.ref b), some (V.int (e : Int)), some (V.int ((ps.map V.ref).length : Int)), none] = _
    rw [List.length_map]
  · rintro i x σ H' hi ⟨f, z, U, rfl, hU, okU, dU, dW, es, rfl⟩
    have hil : i < ps.length := by
      have q := (List.getElem?_eq_some_iff.mp hi).1
      rw [List.length_map] at q
      exact q
    obtain ⟨d, u, p, rfl, rfl, hd, hu⟩ := next_deed hU hi
    unfold WordOk at okU
    unfold wordDeep at dU
    rw [wordDeep] at dW
    rw [wordSize] at es
    have ty : TyX K H' (.ref p) (.type "tuple") := by
      cases d with
      | go m => unfold IsDeed at hd; exact tyT hd
      | jump m => unfold IsDeed at hd; exact tyT hd
      | turn m => unfold IsDeed at hd; exact tyT hd
      | times m v =>
        unfold IsDeed at hd
        obtain ⟨_, hd, _⟩ := hd
        exact tyT hd
    refine ⟨_, rfl, _, _, _, _, _, rfl, .ty "tuple", ty, kTup, true, rfl, iteF ⟨_, rfl, p, d, rfl, hd, okU.1, true, rfl, iteF ?_⟩⟩
    cases d with
    | go m =>
      unfold IsDeed at hd
      refine ⟨p, _, _, rfl, hd, rfl, rfl, _, rfl, iteNo go_times ⟨f, _, u, rfl, hu, okU.2, by omega, by omega, ?_, rfl⟩⟩
      rw [deedSize] at es
      omega
    | jump m =>
      unfold IsDeed at hd
      refine ⟨p, _, _, rfl, hd, rfl, rfl, _, rfl, iteNo jump_times ⟨f, _, u, rfl, hu, okU.2, by omega, by omega, ?_, rfl⟩⟩
      rw [deedSize] at es
      omega
    | turn m =>
      unfold IsDeed at hd
      refine ⟨p, _, _, rfl, hd, rfl, rfl, _, rfl, iteNo turn_times ⟨f, _, u, rfl, hu, okU.2, by omega, by omega, ?_, rfl⟩⟩
      rw [deedSize] at es
      omega
    | times m v =>
      unfold IsDeed at hd
      obtain ⟨c, hp, hc⟩ := hd
      have o1 := okU.1
      unfold DeedOk at o1
      rw [deedDeep] at dU dW
      rw [deedSize] at es
      refine ⟨p, _, _, rfl, hp, rfl, rfl, _, rfl, iteYes rfl ⟨_, rfl, p, _, _, rfl, hp, rfl, _, rfl, _, _, rfl, rfl, c, v, e + 1, ?_, hc, o1.2, by omega, by omega, _, _, rfl, rfl, ?_⟩⟩
      · rw [Int.natCast_succ] <;> rfl
      · refine ⟨f + wordSize v, some (.ref p), u, ?_, hu, okU.2, by omega, by omega, by omega, rfl⟩
        rw [Int.natCast_add]
        rfl
  · rintro σ H' ⟨f, z, U, rfl, hU, okU, dU, dW, es, rfl⟩
    have eU := last_deed hU
    subst eU
    rw [List.length_map, Nat.sub_self, wordSize] at es
    have ef : f = wordSize W := by omega
    subst ef
    exact ⟨_, rfl, q⟩
theorem ok_counted (T : Tx K mg) : ∀ n : Nat, FnOk P w K mg base CX0 (n + 3) T.counted.f T.counted.fd ["deeds", "deep"] (spCounted K n)
  | 0 => ok_none fun vs H Q E h => by
    obtain ⟨_, _, _, _, _, _, h, _⟩ := h
    exact absurd h (Nat.not_lt_zero _)
  | n + 1 => ok_counted1 T n (ok_counted T n)
def spDeedsIn (K : PySem.W.Frag) : Sp := fun vs H Q _ => ∃ (b : Addr) (W : Word), vs = [.ref b] ∧ IsWord K H W b ∧ WordOk W ∧ wordDeep W ≤ 4 ∧ wordSize W ≤ 30 ∧ Q (.int (wordSize W : Int)) H
theorem scDeedsIn : FnScope ["word", "found"] ["word"] (defScope sDeedsIn) := ⟨rfl, rfl, rfl, by decide +kernel, rfl, by decide +kernel, by decide +kernel⟩
theorem ok_deedsIn (T : Tx K mg) : FnOk P w K mg base CX0 9 T.deedsIn.f T.deedsIn.fd ["word"] (spDeedsIn K) := by
  refine T.deedsIn.F.ok scDeedsIn (fun vs H Q E h => ?_) (fun cdv A outer s H vs Q E hr h => ?_)
  · obtain ⟨b, W, rfl, _⟩ := h
    rfl
  obtain ⟨b, W, rfl, hw, hok, hdeep, hsz, q⟩ := h
  obtain ⟨tg, hG⟩ := T.gDeeds
  refine ⟨_, pss_cons (ps_set (i := 1) scDeedsIn.nd rfl (.inl rfl) (T.counted.cl (ok_counted T 5) hr (pa_cons (pv 0) (pa_cons pe_int pa_nil))))
    (pss_cons (ps_if (pt_cmpR op_gt (pv 1) (pe_glob (v := .int 30) (by rfl) hG ⟨_, rfl⟩) (nomark _)) pss_never pss_nil)
    (pss_one (ps_ret (pv 1)))), ?_⟩
  refine ⟨_, rfl, b, W, 0, rfl, hw, hok, by omega, by omega, ?_⟩
  exact ⟨_, rfl, _, _, rfl, rfl, _, rfl, iteNo (by omega) ⟨_, rfl, q⟩⟩
end
end Pen

/-! the walk of great.py: motions of points, strokes, boxes -/
namespace Pen
open PySem L2
section
variable {P : Program} {w : World} {K : PySem.W.Frag} {mg : Str → Option Value} {base : Heap}

/-! ### undone_motion -/
def spUndone (K : PySem.W.Frag) : Sp := fun vs H Q _ => ∃ (a : Addr) (m : Mo), vs = [.ref a] ∧ SqT K H a (moV m) ∧ Gives H Q (moV (undo m))
theorem scUndone : FnScope ["motion", "x", "y"] ["motion"] (defScope sUndone) := ⟨rfl, rfl, rfl, by decide +kernel, rfl, by decide +kernel, by decide +kernel⟩
theorem ok_undone (T : Tx K mg) : FnOk P w K mg base CX0 2 T.undone.f T.undone.fd ["motion"] (spUndone K) := by
  refine T.undone.F.ok scUndone (fun vs H Q E h => ?_) (fun cdv A outer s H vs Q E hr h => ?_)
  · obtain ⟨a, m, rfl, _⟩ := h
    rfl
  obtain ⟨a, m, rfl, ha, g⟩ := h
  refine ⟨_, pss_cons (ps_asg (T.quarter.cl (ok_quarter T) hr (pa_cons (pe_op op_sub pe_int (vi 0 0)) (pa_cons (pe_op op_sub pe_int (vi 0 1)) (pa_cons (pe_op op_sub pe_int (vi 0 2)) pa_nil))))
      (pg_tup (by rfl) (pgs_cons (pg_name (i := 1) scUndone.nd rfl (.inl rfl)) (pgs_cons (pg_name (i := 2) scUndone.nd rfl (.inl rfl)) pgs_nil))))
    (pss_one (ps_ret (pe_tup (pa_cons (pv 1) (pa_cons (pv 2) (pa_cons (pe_op op_mod (pe_op op_sub pe_int (vi 0 2)) pe_int) pa_nil)))))), ?_⟩
  refine ⟨a, _, _, rfl, ha, rfl, _, _, rfl, rfl, a, _, _, rfl, ha, rfl, _, _, rfl, rfl, a, _, _, rfl, ha, rfl, _, _, rfl, rfl, _, _, _, rfl, fun H1 p s1 e1 => ?_⟩
  refine ⟨p, _, rfl, tupAt e1, rfl, _, _, rfl, _, _, rfl, rfl, ?_⟩
  have ha1 := Same.tup s1 ha
  refine ⟨_, rfl, _, rfl, a, _, _, rfl, ha1, rfl, _, _, rfl, rfl, _, _, rfl, rfl, (by show (0 : Int) < 4; decide), sz, ?_⟩
  exact Gives.new g s1

/-! ### both_ends -/
/-- a new list of both ends -/
def GivesEnds (H : Hp) (Q : VK) (s : Stk) : Prop := ∀ H' l p r, Same H H' → H' l = some (.lst [.ref p, .ref r]) → H' p = some (.tup [.int s.x, .int s.y]) → H' r = some (.tup [.int (s.x + 1 - s.w), .int (s.y + s.w)]) → Q (.ref l) H'
def spEnds (K : PySem.W.Frag) : Sp := fun vs H Q _ => ∃ (a : Addr) (s : Stk), vs = [.ref a] ∧ SqT K H a (stkV s) ∧ GivesEnds H Q s
theorem scEnds : FnScope ["stroke", "x", "y", "way"] ["stroke"] (defScope sEnds) := ⟨rfl, rfl, rfl, by decide +kernel, rfl, by decide +kernel, by decide +kernel⟩
theorem ok_ends (T : Tx K mg) : FnOk P w K mg base CX0 1 T.ends.f T.ends.fd ["stroke"] (spEnds K) := by
  refine T.ends.F.ok scEnds (fun vs H Q E h => ?_) (fun cdv A outer s H vs Q E hr h => ?_)
  · obtain ⟨a, s, rfl, _⟩ := h
    rfl
  obtain ⟨a, z, rfl, ha, g⟩ := h
  refine ⟨_, pss_cons (ps_asg (pv 0) (pg_tup (by rfl) (pgs_cons (pg_name (i := 1) scEnds.nd rfl (.inl rfl)) (pgs_cons (pg_name (i := 2) scEnds.nd rfl (.inl rfl)) (pgs_cons (pg_name (i := 3) scEnds.nd rfl (.inl rfl)) pgs_nil)))))
    (pss_one (ps_ret (pe_lst (pa_cons (pe_tup (pa_cons (pv 1) (pa_cons (pv 2) pa_nil))) (pa_cons (pe_tup (pa_cons (pe_op op_sub (pe_op op_add (pv 1) pe_int) (pv 3)) (pa_cons (pe_op op_add (pv 2) (pv 3)) pa_nil))) pa_nil))))), ?_⟩
  refine ⟨_, rfl, a, _, rfl, ha, rfl, _, _, rfl, _, _, rfl, _, _, rfl, rfl, ?_⟩
  refine ⟨_, rfl, _, rfl, sz, fun p hp => ?_⟩
  refine ⟨_, rfl, _, _, rfl, rfl, _, rfl, _, _, rfl, rfl, _, rfl, _, rfl, _, _, rfl, rfl, sz, fun r hr => ?_⟩
  refine ⟨sz, fun l hl => ?_⟩
  have s1 := same_new hp (.tup [V.int z.x, V.int z.y])
  have s2 := same_new hr (.tup [V.int (z.x + 1 - z.w), V.int (z.y + z.w)])
  have s3 := same_new hl (.lst [V.ref p, V.ref r])
  exact g _ l p r (s1.trans (s2.trans s3)) upd_same (s3 _ _ (s2 _ _ upd_same)) (s3 _ _ upd_same)

/-! ### moved_point -/
def spPoint (K : PySem.W.Frag) : Sp := fun vs H Q _ => ∃ (a b : Addr) (m : Mo) (x y : Int), vs = [.ref a, .ref b] ∧ SqT K H a (moV m) ∧ SqT K H b [.int x, .int y] ∧ Gives H Q [.int (mv m x y).1, .int (mv m x y).2]
theorem scPoint : FnScope ["motion", "place", "x", "y"] ["motion", "place"] (defScope sPoint) := ⟨rfl, rfl, rfl, by decide +kernel, rfl, by decide +kernel, by decide +kernel⟩
theorem ok_point (T : Tx K mg) : FnOk P w K mg base CX0 2 T.point.f T.point.fd ["motion", "place"] (spPoint K) := by
  refine T.point.F.ok scPoint (fun vs H Q E h => ?_) (fun cdv A outer s H vs Q E hr h => ?_)
  · obtain ⟨a, b, m, x, y, rfl, _⟩ := h
    rfl
  obtain ⟨a, b, m, x, y, rfl, ha, hb, g⟩ := h
  refine ⟨_, pss_cons (ps_asg (T.quarter.cl (ok_quarter T) hr (pa_cons (vi 1 0) (pa_cons (vi 1 1) (pa_cons (vi 0 2) pa_nil))))
      (pg_tup (by rfl) (pgs_cons (pg_name (i := 2) scPoint.nd rfl (.inl rfl)) (pgs_cons (pg_name (i := 3) scPoint.nd rfl (.inl rfl)) pgs_nil))))
    (pss_one (ps_ret (pe_tup (pa_cons (pe_op op_add (pv 2) (vi 0 0)) (pa_cons (pe_op op_add (pv 3) (vi 0 1)) pa_nil))))), ?_⟩
  refine ⟨b, _, _, rfl, hb, rfl, b, _, _, rfl, hb, rfl, a, _, _, rfl, ha, rfl, _, _, _, rfl, fun H1 p s1 e1 => ?_⟩
  refine ⟨p, _, rfl, tupAt e1, rfl, _, _, rfl, _, _, rfl, rfl, ?_⟩
  have ha1 := Same.tup s1 ha
  refine ⟨_, rfl, a, _, _, rfl, ha1, rfl, _, _, rfl, rfl, _, rfl, a, _, _, rfl, ha1, rfl, _, _, rfl, rfl, sz, ?_⟩
  exact Gives.new g s1

/-! ### carried_stroke -/
def spCarried (K : PySem.W.Frag) : Sp := fun vs H Q _ => ∃ (a b : Addr) (m : Mo) (s : Stk), vs = [.ref a, .ref b] ∧ SqT K H a (moV m) ∧ SqT K H b (stkV s) ∧ Gives H Q (stkV (carry m s))
theorem perm_two {α : Type} {ys : List α} {a b : α} (h : ys.Perm [a, b]) : ys = [a, b] ∨ ys = [b, a] := by
  match ys, h with
  | [], h => exact absurd h.length_eq (by simp)
  | [x], h => exact absurd h.length_eq (by simp)
  | [x, y], h =>
    have hx : x ∈ [a, b] := h.mem_iff.mp (by simp)
    rcases List.mem_cons.mp hx with e | hx
    · subst e
      have h2 : [y].Perm [b] := h.cons_inv
      have e2 := List.perm_singleton.mp h2
      rw [e2]
      exact .inl rfl
    · have e : x = b := List.mem_singleton.mp hx
      subst e
      have h2 : [y].Perm [a] := (h.trans (List.Perm.swap _ _ _)).cons_inv
      have e2 := List.perm_singleton.mp h2
      rw [e2]
      exact .inr rfl
  | x :: y :: z :: r, h => exact absurd h.length_eq (by simp)
theorem scCarried : FnScope ["motion", "stroke", "one", "other", "place"] ["motion", "stroke"] (defScope sCarried) := ⟨rfl, rfl, rfl, by decide +kernel, rfl, by decide +kernel, by decide +kernel⟩
theorem b_sorted : bootBuiltins "sorted" = some (.builtin "sorted") := by decide +kernel
theorem ok_carried (T : Tx K mg) : FnOk P w K mg base CX0 3 T.carried.f T.carried.fd ["motion", "stroke"] (spCarried K) := by
  refine T.carried.F.ok scCarried (fun vs H Q E h => ?_) (fun cdv A outer s H vs Q E hr h => ?_)
  · obtain ⟨a, b, m, s, rfl, _⟩ := h
    rfl
  obtain ⟨a, b, m, z, rfl, ha, hb, g⟩ := h
  refine ⟨_, pss_cons (ps_asg (pe_callB cr_sortedPO (by rfl) T.zSorted b_sorted (pa_cons
      (pe_lc (own := [("place", 4)]) (g := gName 4) (tt := tYes) rfl scCarried.nd (pi_list (T.ends.cl (ok_ends T) hr (pa_cons (pv 1) pa_nil))) (blkOk_by (N := ["motion", "stroke", "one", "other", "place"]) (sc := defScope sCarried) (by decide +kernel))
        (fun _ _ _ _ _ => pg_name (i := 4) scCarried.nd rfl (.inl rfl)) (fun _ _ _ _ _ => pts_nil) (fun _ _ _ _ _ => T.point.cl (ok_point T) hr (pa_cons (pv 0) (pa_cons (pv 4) pa_nil)))) pa_nil))
      (pg_unl rfl (pgs_cons (pg_name (i := 2) scCarried.nd rfl (.inl rfl)) (pgs_cons (pg_name (i := 3) scCarried.nd rfl (.inl rfl)) pgs_nil))))
    (pss_one (ps_ret (pe_tup (pa_cons (vi 2 0) (pa_cons (vi 2 1) (pa_cons (pe_callTy call_int1 (by rfl) T.zInt b_int (pa_cons (pe_cmpR op_eq (vi 2 0) (vi 3 0) (nomark _)) pa_nil)) pa_nil)))))), ?_⟩
  refine ⟨_, rfl, b, z, rfl, hb, fun H1 l p r s1 el ep er => ?_⟩
  refine ⟨l, rfl, ⟨_, lstAt el⟩, fun D hD => ?_⟩
  have nlD : l ≠ D := ne_of_none el hD
  have s2 := same_new hD (.lst [])
  let P1 := mv m z.x z.y
  let P2 := mv m (z.x + 1 - z.w) (z.y + z.w)
  refine lc_list (K := K) (a := l) (xs := [.ref p, .ref r])
    (fun i H' => Same H1 H' ∧ ((i = 0 ∧ H' D = some (.lst [])) ∨ (i = 1 ∧ ∃ t, H' D = some (.lst [.ref t]) ∧ H' t = some (.tup [.int P1.1, .int P1.2])) ∨
      (i = 2 ∧ ∃ t u, H' D = some (.lst [.ref t, .ref u]) ∧ H' t = some (.tup [.int P1.1, .int P1.2]) ∧ H' u = some (.tup [.int P2.1, .int P2.2]))))
    ⟨s2, .inl ⟨rfl, upd_same⟩⟩ (fun i H' _ ⟨sm, _⟩ => lstAt (sm _ _ el)) ?_ ?_
  · rintro i x H' hi ⟨sm, hc⟩
    have app : ∀ (H2 : Hp) (acc : List V) (v : V), Same H1 H2 → Same H1 (upd H2 D (.lst (acc ++ [v]))) := fun H2 acc v s3 c o e => by
      rw [upd_ne (ne_of_none e hD)]
      exact s3 _ _ e
    have keep : ∀ (H2 : Hp) (acc : List V) (v : V) (t : Addr) (xs : List V), H2 D = some (.lst acc) → H2 t = some (.tup xs) → upd H2 D (.lst (acc ++ [v])) t = some (.tup xs) := fun H2 acc v t xs h1 h2 => by
      rw [upd_ne (ne_of h2 h1 (by intro q; cases q))]
      exact h2
    rcases hc with ⟨rfl, h0⟩ | ⟨rfl, t, h0, h1⟩ | ⟨rfl, _⟩
    · cases (Option.some.inj hi : V.ref p = x)
      refine ⟨rfl, _, rfl, _, rfl, a, p, m, z.x, z.y, rfl, Same.tup (s1.trans sm) ha, tupAt (sm _ _ ep), fun H2 t s3 et => ?_⟩
      exact ⟨[], s3 _ _ h0, szl, app _ _ _ (sm.trans s3), .inr (.inl ⟨rfl, t, upd_same, keep _ _ _ _ _ (s3 _ _ h0) et⟩)⟩
    · cases (Option.some.inj hi : V.ref r = x)
      refine ⟨rfl, _, rfl, _, rfl, a, r, m, _, _, rfl, Same.tup (s1.trans sm) ha, tupAt (sm _ _ er), fun H2 u s3 eu => ?_⟩
      exact ⟨[.ref t], s3 _ _ h0, szl, app _ _ _ (sm.trans s3), .inr (.inr ⟨rfl, t, u, upd_same, keep _ _ _ _ _ (s3 _ _ h0) (s3 _ _ h1), keep _ _ _ _ _ (s3 _ _ h0) eu⟩)⟩
    · exact absurd hi (by simp)
  · rintro H' ⟨sm, hc⟩
    rcases hc with ⟨h, _⟩ | ⟨h, _⟩ | ⟨_, t, u, h0, h1, h2⟩
    · exact absurd h (by decide : ¬ (2 : Nat) = 0)
    · exact absurd h (by decide : ¬ (2 : Nat) = 1)
    let k : V → Int × Int := fun v => if v = .ref t then P1 else P2
    have kt : k (.ref t) = P1 := if_pos rfl
    have hk : ∀ x ∈ [V.ref t, V.ref u], ∃ c, x = V.ref c ∧ H' c = some (.tup [.int (k x).1, .int (k x).2]) := by
      intro x hx
      rcases List.mem_cons.mp hx with rfl | hx
      · exact ⟨t, rfl, by rw [kt]; exact h1⟩
      · have e := List.mem_singleton.mp hx
        subst e
        refine ⟨u, rfl, ?_⟩
        by_cases e : u = t
        · subst e
          rw [kt]
          exact h1
        · rw [show k (.ref u) = P2 from if_neg fun q => e (V.ref.inj q)]
          exact h2
    have ku : H' u = some (.tup [.int (k (.ref u)).1, .int (k (.ref u)).2]) := by
      obtain ⟨c, e, h⟩ := hk (.ref u) (by simp)
      cases e
      exact h
    have ek2 : (k (.ref u)).1 = P2.1 ∧ (k (.ref u)).2 = P2.2 := by
      rw [h2] at ku
      injection ku with ku
      injection ku with ku
      injection ku with k1 k2
      injection k2 with k2 _
      exact ⟨(V.int.inj k1).symm, (V.int.inj k2).symm⟩
    refine ⟨D, _, k, rfl, lstAt h0, hk, fun ys q hs hp hq => ?_⟩
    have s4 := same_new hq (.lst ys)
    have c1 := s4 _ _ h1
    have c2 := s4 _ _ h2
    have sz4 := (s1.trans sm).trans s4
    have dec : ∀ i j : Int, (if decide (V.int i = V.int j) = true then (1 : Int) else 0) = if i = j then 1 else 0 := fun i j => by
      by_cases e : i = j
      · rw [if_pos e, decide_eq_true (congrArg V.int e), if_pos rfl]
      · rw [if_neg e, decide_eq_false (fun q => e (V.int.inj q)), if_neg Bool.false_ne_true]
    rcases perm_two hp.perm with rfl | rfl
    · refine ⟨q, _, rfl, lstAt upd_same, rfl, _, _, rfl, _, _, rfl, rfl, ?_⟩
      refine ⟨t, _, _, rfl, tupAt c1, rfl, t, _, _, rfl, tupAt c1, rfl, t, _, _, rfl, tupAt c1, rfl, u, _, _, rfl, tupAt c2, rfl, rfl, .inr ⟨_, rfl, sz, ?_⟩⟩
      have no : ¬ before P2 P1 := by
        have q1 := SrtO.srtd_head hs (.ref u) (by simp)
        have q2 := SrtO.lexB_no.mp q1
        rw [kt, ek2.1, ek2.2] at q2
        exact q2
      have e : [V.int P1.1, V.int P1.2, V.int (if decide (V.int P1.1 = V.int P2.1) = true then 1 else 0)] = stkV (carry m z) := by
        rw [dec]
        show _ = stkV (if before P2 P1 then laid P2 P1 else laid P1 P2)
        rw [if_neg no]
        rfl
      intro p' hp'
      have g' := Gives.new g sz4 p' hp'
      rw [← e] at g'
      exact g'
    · refine ⟨q, _, rfl, lstAt upd_same, rfl, _, _, rfl, _, _, rfl, rfl, ?_⟩
      refine ⟨u, _, _, rfl, tupAt c2, rfl, u, _, _, rfl, tupAt c2, rfl, u, _, _, rfl, tupAt c2, rfl, t, _, _, rfl, tupAt c1, rfl, rfl, .inr ⟨_, rfl, sz, ?_⟩⟩
      have no : ¬ before P1 P2 := by
        have q1 := SrtO.srtd_head hs (.ref t) (by simp)
        have q2 := SrtO.lexB_no.mp q1
        rw [kt, ek2.1, ek2.2] at q2
        exact q2
      have e : [V.int P2.1, V.int P2.2, V.int (if decide (V.int P2.1 = V.int P1.1) = true then 1 else 0)] = stkV (carry m z) := by
        rw [dec]
        show _ = stkV (if before P2 P1 then laid P2 P1 else laid P1 P2)
        by_cases yes : before P2 P1
        · rw [if_pos yes]
          rfl
        · rw [if_neg yes]
          unfold before at no yes
          have e1 : P1.1 = P2.1 := by omega
          have e2 : P1.2 = P2.2 := by omega
          unfold laid stkV
          rw [e1, e2]
      intro p' hp'
      have g' := Gives.new g sz4 p' hp'
      rw [← e] at g'
      exact g'

/-! ### boxes -/
def IsBox (K : PySem.W.Frag) (H : Hp) (v : V) : Option Box → Prop
  | none => v = .non
  | some b => ∃ p, v = .ref p ∧ SqT K H p (boxV b)
theorem IsBox.tt {H H' : Hp} {v : V} {b : Option Box} (t : TT K H H') (h : IsBox K H v b) : IsBox K H' v b := by
  cases b with
  | none => exact h
  | some b =>
    obtain ⟨p, e, q⟩ := h
    exact ⟨p, e, t _ _ q⟩
def GivesBox (K : PySem.W.Frag) (H : Hp) (Q : VK) (b : Option Box) : Prop := ∀ H' v, Same H H' → IsBox K H' v b → Q v H'
theorem GivesBox.mono {H H1 : Hp} {Q : VK} {b : Option Box} (g : GivesBox K H Q b) (s : Same H H1) : GivesBox K H1 Q b := fun H' v s' e => g H' v (s.trans s') e
theorem b_min : bootBuiltins "min" = some (.builtin "min") := by decide +kernel
theorem b_max : bootBuiltins "max" = some (.builtin "max") := by decide +kernel
def spJoined (K : PySem.W.Frag) : Sp := fun vs H Q _ => ∃ (v u : V) (b c : Option Box), vs = [v, u] ∧ IsBox K H v b ∧ IsBox K H u c ∧ GivesBox K H Q (joined b c)
theorem scJoined : FnScope ["one", "other"] ["one", "other"] (defScope sJoined) := ⟨rfl, rfl, rfl, by decide +kernel, rfl, by decide +kernel, by decide +kernel⟩
theorem ok_joined (T : Tx K mg) : FnOk P w K mg base CX0 1 T.joined.f T.joined.fd ["one", "other"] (spJoined K) := by
  refine T.joined.F.ok scJoined (fun vs H Q E h => ?_) (fun cdv A outer s H vs Q E hr h => ?_)
  · obtain ⟨v, u, b, c, rfl, _⟩ := h
    rfl
  obtain ⟨v, u, b, c, rfl, hv, hu, g⟩ := h
  refine ⟨_, pss_cons (ps_if (pt_cmpR op_isN (pv 0) pe_non (nomark _)) (pss_one (ps_ret (pv 1))) pss_nil)
    (pss_cons (ps_if (pt_cmpR op_isN (pv 1) pe_non (nomark _)) (pss_one (ps_ret (pv 0))) pss_nil)
    (pss_one (ps_ret (pe_tup (pa_cons (pe_callB (call_min2 rfl) (by rfl) T.zMin b_min (pa_cons (vi 0 0) (pa_cons (vi 1 0) pa_nil)))
      (pa_cons (pe_callB (call_min2 rfl) (by rfl) T.zMin b_min (pa_cons (vi 0 1) (pa_cons (vi 1 1) pa_nil)))
      (pa_cons (pe_callB (call_max2 rfl) (by rfl) T.zMax b_max (pa_cons (vi 0 2) (pa_cons (vi 1 2) pa_nil)))
      (pa_cons (pe_callB (call_max2 rfl) (by rfl) T.zMax b_max (pa_cons (vi 0 3) (pa_cons (vi 1 3) pa_nil))) pa_nil)))))))), ?_⟩
  cases b with
  | none =>
    cases (show v = .non from hv)
    exact ⟨_, rfl, rfl, _, rfl, iteYes rfl ⟨_, rfl, g H u (Same.refl _) hu⟩⟩
  | some b =>
    obtain ⟨p, rfl, hp⟩ := hv
    refine ⟨_, rfl, rfl, _, rfl, iteNo (fun z => by cases z) ?_⟩
    cases c with
    | none =>
      cases (show u = .non from hu)
      exact ⟨_, rfl, rfl, _, rfl, iteYes rfl ⟨_, rfl, g H (.ref p) (Same.refl _) ⟨p, rfl, hp⟩⟩⟩
    | some c =>
      obtain ⟨r, rfl, hr'⟩ := hu
      refine ⟨_, rfl, rfl, _, rfl, iteNo (fun z => by cases z) ?_⟩
      refine ⟨p, _, _, rfl, hp, rfl, r, _, _, rfl, hr', rfl, _, _, rfl, p, _, _, rfl, hp, rfl, r, _, _, rfl, hr', rfl, _, _, rfl, p, _, _, rfl, hp, rfl, r, _, _, rfl, hr', rfl, _, _, rfl, p, _, _, rfl, hp, rfl, r, _, _, rfl, hr', rfl, _, _, rfl, sz, fun l hl => ?_⟩
      exact g _ _ (same_new hl _) ⟨l, rfl, tupAt upd_same⟩
def spMoved (K : PySem.W.Frag) : Sp := fun vs H Q _ => ∃ (a : Addr) (m : Mo) (v : V) (b : Option Box), vs = [.ref a, v] ∧ SqT K H a (moV m) ∧ IsBox K H v b ∧ GivesBox K H Q (moved m b)
theorem scMoved : FnScope ["motion", "box", "a", "b", "c", "d"] ["motion", "box"] (defScope sMoved) := ⟨rfl, rfl, rfl, by decide +kernel, rfl, by decide +kernel, by decide +kernel⟩
theorem ok_moved (T : Tx K mg) : FnOk P w K mg base CX0 3 T.moved.f T.moved.fd ["motion", "box"] (spMoved K) := by
  refine T.moved.F.ok scMoved (fun vs H Q E h => ?_) (fun cdv A outer s H vs Q E hr h => ?_)
  · obtain ⟨a, m, v, b, rfl, _⟩ := h
    rfl
  obtain ⟨a, m, v, b, rfl, ha, hv, g⟩ := h
  refine ⟨_, pss_cons (ps_if (pt_cmpR op_isN (pv 1) pe_non (nomark _)) (pss_one (ps_ret pe_non)) pss_nil)
    (pss_cons (ps_asg (T.point.cl (ok_point T) hr (pa_cons (pv 0) (pa_cons (pe_tup (pa_cons (vi 1 0) (pa_cons (vi 1 1) pa_nil))) pa_nil)))
      (pg_tup (by rfl) (pgs_cons (pg_name (i := 2) scMoved.nd rfl (.inl rfl)) (pgs_cons (pg_name (i := 3) scMoved.nd rfl (.inl rfl)) pgs_nil))))
    (pss_cons (ps_asg (T.point.cl (ok_point T) hr (pa_cons (pv 0) (pa_cons (pe_tup (pa_cons (vi 1 2) (pa_cons (vi 1 3) pa_nil))) pa_nil)))
      (pg_tup (by rfl) (pgs_cons (pg_name (i := 4) scMoved.nd rfl (.inl rfl)) (pgs_cons (pg_name (i := 5) scMoved.nd rfl (.inl rfl)) pgs_nil))))
    (pss_one (ps_ret (pe_tup (pa_cons (pe_callB (call_min2 rfl) (by rfl) T.zMin b_min (pa_cons (pv 2) (pa_cons (pv 4) pa_nil)))
      (pa_cons (pe_callB (call_min2 rfl) (by rfl) T.zMin b_min (pa_cons (pv 3) (pa_cons (pv 5) pa_nil)))
      (pa_cons (pe_callB (call_max2 rfl) (by rfl) T.zMax b_max (pa_cons (pv 2) (pa_cons (pv 4) pa_nil)))
      (pa_cons (pe_callB (call_max2 rfl) (by rfl) T.zMax b_max (pa_cons (pv 3) (pa_cons (pv 5) pa_nil))) pa_nil))))))))), ?_⟩
  cases b with
  | none =>
    cases (show v = .non from hv)
    exact ⟨_, rfl, rfl, _, rfl, iteYes rfl (g H .non (Same.refl _) rfl)⟩
  | some b =>
    obtain ⟨p, rfl, hp⟩ := hv
    refine ⟨_, rfl, rfl, _, rfl, iteNo (fun z => by cases z) ?_⟩
    refine ⟨_, rfl, p, _, _, rfl, hp, rfl, p, _, _, rfl, hp, rfl, sz, fun c hc => ?_⟩
    have s1 := same_new hc (.tup [V.int b.a, V.int b.b])
    refine ⟨a, c, m, _, _, rfl, Same.tup s1 ha, tupAt upd_same, fun H2 d s2 e2 => ?_⟩
    have s12 := s1.trans s2
    refine ⟨d, _, rfl, tupAt e2, rfl, _, _, rfl, _, _, rfl, rfl, ?_⟩
    refine ⟨_, rfl, p, _, _, rfl, Same.tup s12 hp, rfl, p, _, _, rfl, Same.tup s12 hp, rfl, sz, fun c' hc' => ?_⟩
    have s3 := same_new hc' (.tup [V.int b.c, V.int b.d])
    refine ⟨a, c', m, _, _, rfl, Same.tup (s12.trans s3) ha, tupAt upd_same, fun H4 d' s4 e4 => ?_⟩
    refine ⟨d', _, rfl, tupAt e4, rfl, _, _, rfl, _, _, rfl, rfl, ?_⟩
    refine ⟨_, rfl, _, rfl, _, _, rfl, _, rfl, _, rfl, _, _, rfl, _, rfl, _, rfl, _, _, rfl, _, rfl, _, rfl, _, _, rfl, sz, fun l hl => ?_⟩
    exact g _ _ ((s12.trans s3).trans (s4.trans (same_new hl _))) ⟨l, rfl, tupAt upd_same⟩
end
end Pen

/-! the walk of great.py: the box of a word -/
namespace Pen
open PySem L2
section
variable {P : Program} {w : World} {K : PySem.W.Frag} {mg : Str → Option Value} {base : Heap}
def spDeedBox (K : PySem.W.Frag) (n : Nat) : Sp := fun vs H Q _ => ∃ (p : Addr) (D : Deed), vs = [.ref p] ∧ IsDeed K H D p ∧ DeedOk D ∧ deedDeep D ≤ n ∧ GivesBox K H Q (deedBox D)
def spWordBox (K : PySem.W.Frag) (n : Nat) : Sp := fun vs H Q _ => ∃ (b : Addr) (W : Word), vs = [.ref b] ∧ IsWord K H W b ∧ WordOk W ∧ wordDeep W < n ∧ GivesBox K H Q (wordBox none one W)
theorem scDeedBox : FnScope ["deed", "box", "motion", "found", "turn"] ["deed"] (defScope sDeedBox) := ⟨rfl, rfl, rfl, by decide +kernel, rfl, by decide +kernel, by decide +kernel⟩
theorem ok_deedBox (T : Tx K mg) (n : Nat) (G : FnOk P w K mg base CX0 (2 * n + 4) T.wordBox.f T.wordBox.fd ["word"] (spWordBox K n)) :
    FnOk P w K mg base CX0 (2 * n + 5) T.deedBox.f T.deedBox.fd ["deed"] (spDeedBox K n) := by
  refine T.deedBox.F.ok scDeedBox (fun vs H Q E h => ?_) (fun cdv A outer s H vs Q E hr h => ?_)
  · obtain ⟨p, D, rfl, _⟩ := h
    rfl
  obtain ⟨p, D, rfl, hD, hok, hdeep, g⟩ := h
  refine ⟨_, pss_cons (ps_if (PW.pt (pw_and (pt_cmpR op_eq (vi 0 0) pe_str (nomark _)) (pw_and1 (pt_cmpR op_gt (vi 0 1) pe_int (nomark _))))) (pss_one (ps_ret (pe_tup (pa_cons pe_int (pa_cons pe_int (pa_cons (vi 0 1) (pa_cons pe_int pa_nil))))))) pss_nil)
    (pss_cons (ps_if (PW.pt (pw_or (pt_cmpR op_ne (vi 0 0) pe_str (nomark _)) (pw_or1 (pt_cmpR op_eq (vi 0 1) pe_int (nomark _))))) (pss_one (ps_ret pe_non)) pss_nil)
    (pss_cons (ps_set (i := 1) scDeedBox.nd rfl (.inl rfl) (T.wordBox.cl G hr (pa_cons (vi 0 2) pa_nil)))
    (pss_cons (ps_set (i := 2) scDeedBox.nd rfl (.inl rfl) (T.motion.cl (ok_motion T n) hr (pa_cons (vi 0 2) pa_nil)))
    (pss_cons (ps_if (pt_cmpR op_eq (vi 2 2) pe_int (nomark _))
      (pss_one (ps_ret (T.joined.cl (ok_joined T) hr (pa_cons (pv 1) (pa_cons (T.moved.cl (ok_moved T) hr (pa_cons (T.many.cl (ok_many T) hr (pa_cons (pv 2) (pa_cons (pe_op op_sub (vi 0 1) pe_int) pa_nil))) (pa_cons (pv 1) pa_nil))) pa_nil))))) pss_nil)
    (pss_cons (ps_set (i := 3) scDeedBox.nd rfl (.inl rfl) pe_non)
    (pss_cons (ps_for PassesOwn.never rfl (pi_range1 (by rfl) T.zRange (pa_cons (pe_callB (call_min2 rfl) (by rfl) T.zMin b_min (pa_cons (vi 0 1) (pa_cons pe_int pa_nil))) pa_nil)) (pg_name (i := 4) scDeedBox.nd rfl (.inl rfl))
      (pss_one (ps_set (i := 3) scDeedBox.nd rfl (.inl rfl) (T.joined.cl (ok_joined T) hr (pa_cons (pv 3) (pa_cons (T.moved.cl (ok_moved T) hr (pa_cons (T.many.cl (ok_many T) hr (pa_cons (pv 2) (pa_cons (pv 4) pa_nil))) (pa_cons (pv 1) pa_nil))) pa_nil))))))
    (pss_one (ps_ret (pv 3))))))))), ?_⟩
  cases D with
  | go m =>
    unfold IsDeed at hD
    rw [deedBox] at g
    refine ⟨p, _, _, rfl, hD, rfl, rfl, _, rfl, iteYes rfl ⟨p, _, _, rfl, hD, rfl, _, _, rfl, rfl, _, rfl, ite2 (fun c => ?_) (fun c => ?_)⟩⟩
    · have hm : m > 0 := of_decide_eq_true c
      rw [if_pos hm] at g
      refine ⟨p, _, _, rfl, hD, rfl, sz, fun l hl => g _ _ (same_new hl _) ⟨l, rfl, tupAt upd_same⟩⟩
    · have hm : ¬ m > 0 := fun q => c (decide_eq_true q)
      rw [if_neg hm] at g
      refine ⟨p, _, _, rfl, hD, rfl, rfl, _, rfl, ?_⟩
      rw [decide_eq_false go_times]
      exact iteT (g H .non (Same.refl _) rfl)
  | jump m =>
    unfold IsDeed at hD
    rw [deedBox] at g
    refine ⟨p, _, _, rfl, hD, rfl, rfl, _, rfl, iteNo jump_go ?_⟩
    refine iteF ⟨p, _, _, rfl, hD, rfl, rfl, _, rfl, ?_⟩
    rw [decide_eq_false jump_times]
    exact iteT (g H .non (Same.refl _) rfl)
  | turn m =>
    unfold IsDeed at hD
    rw [deedBox] at g
    refine ⟨p, _, _, rfl, hD, rfl, rfl, _, rfl, iteNo turn_go ?_⟩
    refine iteF ⟨p, _, _, rfl, hD, rfl, rfl, _, rfl, ?_⟩
    rw [decide_eq_false turn_times]
    exact iteT (g H .non (Same.refl _) rfl)
  | times m u =>
    unfold IsDeed at hD
    unfold DeedOk at hok
    rw [deedDeep] at hdeep
    rw [deedBox] at g
    obtain ⟨c, hp, hc⟩ := hD
    refine ⟨p, _, _, rfl, hp, rfl, rfl, _, rfl, iteNo times_go ?_⟩
    refine iteF ⟨p, _, _, rfl, hp, rfl, rfl, _, rfl, ?_⟩
    rw [decide_eq_true (rfl : V.str "times" = V.str "times")]
    refine iteF ⟨p, _, _, rfl, hp, rfl, rfl, _, rfl, ite2 (fun c0 => ?_) (fun c0 => ?_)⟩
    · have hm : m = 0 := V.int.inj (of_decide_eq_true c0)
      rw [if_pos hm] at g
      exact g H .non (Same.refl _) rfl
    · have hm : ¬ m = 0 := fun q => c0 (decide_eq_true (congrArg V.int q))
      rw [if_neg hm] at g
      have h0 := hok.1.1
      refine ⟨p, _, _, rfl, hp, rfl, c, u, rfl, hc, hok.2, hdeep, fun H1 v s1 hv => ?_⟩
      refine ⟨p, _, _, rfl, Same.tup s1 hp, rfl, c, u, rfl, IsWord.tt (Same.tt s1) hc, hok.2, hdeep, fun H2 q s2 e2 => ?_⟩
      have s12 := s1.trans s2
      have nm : Norm (wordMo one u) := norm_word u norm_one
      refine ⟨q, _, _, rfl, tupAt e2, rfl, rfl, _, rfl, ite2 (fun cq => ?_) (fun cq => ?_)⟩
      · have hq : (wordMo one u).q = 0 := V.int.inj (of_decide_eq_true cq)
        rw [if_pos hq] at g
        refine ⟨_, rfl, _, rfl, p, _, _, rfl, Same.tup s12 hp, rfl, _, _, rfl, rfl, q, _, _, rfl, tupAt e2, nm, by omega, fun H3 r s3 e3 => ?_⟩
        refine ⟨_, rfl, r, _, _, _, rfl, tupAt e3, IsBox.tt (Same.tt (s2.trans s3)) hv, fun H4 v4 s4 hv4 => ?_⟩
        refine ⟨_, _, _, _, rfl, IsBox.tt (Same.tt (s2.trans (s3.trans s4))) hv, hv4, ?_⟩
        exact GivesBox.mono g (s12.trans (s3.trans s4))
      · have hq : ¬ (wordMo one u).q = 0 := fun q => cq (decide_eq_true (congrArg V.int q))
        rw [if_neg hq] at g
        have hmn : 0 ≤ mn m 4 ∧ mn m 4 ≤ 4 := by
          unfold mn
          split <;> omega
        refine ⟨p, _, _, rfl, Same.tup s12 hp, rfl, _, _, rfl, _, rfl, (show -(2 ^ 62) ≤ mn m 4 by omega), (show mn m 4 < 2 ^ 62 by omega), for_range (lo := 0) (n := (mn m 4).toNat)
          (fun i σ H' => ∃ (v' : V) (z : Option V), σ = [some (.ref p), some v, some (.ref q), some v', z] ∧ IsBox K H' v' (turnsBox (wordMo one u) (wordBox none one u) i) ∧ Same H2 H') ⟨.non, none, rfl, rfl, Same.refl _⟩ ?_ ?_⟩
        · rintro i σ H' hi ⟨v', z, rfl, hv', sm⟩
          refine ⟨_, rfl, _, rfl, _, rfl, q, _, _, rfl, Same.tup sm (tupAt e2), nm, by omega, fun H3 r s3 e3 => ?_⟩
          rw [show (0 + (i : Int)).toNat = i by omega] at e3
          refine ⟨_, rfl, r, _, _, _, rfl, tupAt e3, IsBox.tt (Same.tt (s2.trans (sm.trans s3))) hv, fun H4 v4 s4 hv4 => ?_⟩
          refine ⟨_, _, _, _, rfl, IsBox.tt (Same.tt (s3.trans s4)) hv', hv4, fun H5 v5 s5 hv5 => ?_⟩
          exact ⟨v5, _, rfl, hv5, sm.trans (s3.trans (s4.trans s5))⟩
        · rintro σ H' ⟨v', z, rfl, hv', sm⟩
          exact ⟨_, rfl, g H' v' (s12.trans sm) hv'⟩
theorem scWordBox : FnScope ["word", "found", "here", "deed"] ["word"] (defScope sWordBox) := ⟨rfl, rfl, rfl, by decide +kernel, rfl, by decide +kernel, by decide +kernel⟩
/-- a deed alone as a word -/
theorem alone {H : Hp} {d : Deed} {p c : Addr} (h : IsDeed K H d p) (hc : SqT K H c [.ref p]) : IsWord K H (.cons d .nil) c := by
  refine ⟨[p], hc, ?_⟩
  unfold AreDeeds
  refine ⟨p, [], rfl, h, ?_⟩
  unfold AreDeeds
  rfl
theorem alone_ok {d : Deed} (h : DeedOk d) : WordOk (.cons d .nil) := by
  unfold WordOk
  refine ⟨h, ?_⟩
  unfold WordOk
  trivial
theorem alone_deep {d : Deed} {n : Nat} (h : deedDeep d ≤ n) : wordDeep (.cons d .nil) < n + 1 := by
  rw [wordDeep, wordDeep]
  omega
theorem alone_mo (d : Deed) : wordMo one (.cons d .nil) = deedMo d := by
  rw [wordMo_cons, wordMo_nil, one_comp (norm_deed d)]
theorem ok_wordBox1 (T : Tx K mg) (n : Nat) (G : FnOk P w K mg base CX0 (2 * n + 5) T.deedBox.f T.deedBox.fd ["deed"] (spDeedBox K n)) :
    FnOk P w K mg base CX0 (2 * n + 6) T.wordBox.f T.wordBox.fd ["word"] (spWordBox K (n + 1)) := by
  refine T.wordBox.F.ok scWordBox (fun vs H Q E h => ?_) (fun cdv A outer s H vs Q E hr h => ?_)
  · obtain ⟨b, W, rfl, _⟩ := h
    rfl
  obtain ⟨b, W, rfl, ⟨ps, hb, hw⟩, hok, hdeep, g⟩ := h
  refine ⟨_, pss_cons (ps_set (i := 1) scWordBox.nd rfl (.inl rfl) pe_non)
    (pss_cons (ps_set (i := 2) scWordBox.nd rfl (.inl rfl) (pe_glob (v := .ref T.unmoved) (by rfl) T.gUnmoved rfl))
    (pss_cons (ps_for PassesOwn.never rfl (pi_tup (pv 0)) (pg_name (i := 3) scWordBox.nd rfl (.inl rfl))
      (pss_cons (ps_set (i := 1) scWordBox.nd rfl (.inl rfl) (T.joined.cl (ok_joined T) hr (pa_cons (pv 1) (pa_cons (T.moved.cl (ok_moved T) hr (pa_cons (pv 2) (pa_cons (T.deedBox.cl G hr (pa_cons (pv 3) pa_nil)) pa_nil))) pa_nil))))
      (pss_one (ps_set (i := 2) scWordBox.nd rfl (.inl rfl) (T.both.cl (ok_both T) hr (pa_cons (pv 2) (pa_cons (T.motion.cl (ok_motion T (n + 1)) hr (pa_cons (pe_tup (pa_cons (pv 3) pa_nil)) pa_nil)) pa_nil)))))))
    (pss_one (ps_ret (pv 1))))), ?_⟩
  refine ⟨_, rfl, b, rfl, ⟨_, hb⟩, for_tup (K := K) (a := b) (xs := ps.map V.ref)
    (fun i σ H' => ∃ (v : V) (f : Option Box) (h : Addr) (m : Mo) (z : Option V) (U : Word), σ = [some (.ref b), some v, some (.ref h), z] ∧ IsBox K H' v f ∧ SqT K H' h (moV m) ∧ AreDeeds K H' U (ps.drop i) ∧ WordOk U ∧ wordDeep U < n + 1 ∧ wordBox f m U = wordBox none one W ∧ Same H H')
    ⟨.non, none, T.unmoved, one, none, W, rfl, rfl, T.kUnmoved H, hw, hok, hdeep, rfl, Same.refl _⟩ (fun i σ H' _ ⟨_, _, _, _, _, _, _, _, _, _, _, _, _, sm⟩ => Same.tup sm hb) ?_ ?_⟩
  · rintro i x σ H' hi ⟨v, f, h, m, z, U, rfl, hv, hh, hU, okU, dU, e, sm⟩
    obtain ⟨d, u, p, rfl, rfl, hd, hu⟩ := next_deed hU hi
    unfold WordOk at okU
    rw [wordDeep] at dU
    rw [wordBox_cons] at e
    refine ⟨_, rfl, _, rfl, _, rfl, p, d, rfl, hd, okU.1, by omega, fun H1 v1 s1 hv1 => ?_⟩
    refine ⟨h, m, v1, _, rfl, Same.tup s1 hh, hv1, fun H2 v2 s2 hv2 => ?_⟩
    refine ⟨v, v2, _, _, rfl, IsBox.tt (Same.tt (s1.trans s2)) hv, hv2, fun H3 v3 s3 hv3 => ?_⟩
    have s13 := s1.trans (s2.trans s3)
    refine ⟨_, rfl, _, rfl, sz, fun c hc => ?_⟩
    have s4 := same_new hc (.tup [V.ref p])
    refine ⟨c, .cons d .nil, rfl, alone (IsDeed.tt (Same.tt (s13.trans s4)) d hd) (tupAt upd_same), alone_ok okU.1, alone_deep (by omega), fun H5 q s5 e5 => ?_⟩
    rw [alone_mo] at e5
    refine ⟨h, q, m, deedMo d, rfl, Same.tup (s13.trans (s4.trans s5)) hh, tupAt e5, fun H6 r s6 e6 => ?_⟩
    have s46 := s4.trans (s5.trans s6)
    exact ⟨v3, _, r, _, _, u, rfl, IsBox.tt (Same.tt s46) hv3, tupAt e6, AreDeeds.tt (Same.tt (s13.trans s46)) u hu, okU.2, by omega, e, sm.trans (s13.trans s46)⟩
  · rintro σ H' ⟨v, f, h, m, z, U, rfl, hv, hh, hU, okU, dU, e, sm⟩
    have eU := last_deed hU
    subst eU
    rw [wordBox_nil] at e
    rw [← e] at g
    exact ⟨_, rfl, g H' v sm hv⟩
theorem ok_wordBox (T : Tx K mg) : ∀ n : Nat, FnOk P w K mg base CX0 (2 * n + 4) T.wordBox.f T.wordBox.fd ["word"] (spWordBox K n)
  | 0 => ok_none fun vs H Q E h => by
    obtain ⟨_, _, _, _, _, h, _⟩ := h
    exact absurd h (Nat.not_lt_zero _)
  | n + 1 => ok_wordBox1 T n (ok_deedBox T n (ok_wordBox T n))
def spBoxOf (K : PySem.W.Frag) : Sp := fun vs H Q _ => ∃ (b : Addr) (W : Word), vs = [.ref b] ∧ IsWord K H W b ∧ WordOk W ∧ wordDeep W ≤ 4 ∧ wordSize W ≤ 30 ∧ GivesBox K H Q (wordBox none one W)
theorem scBoxOf : FnScope ["word"] ["word"] (defScope sBoxOf) := ⟨rfl, rfl, rfl, by decide +kernel, rfl, by decide +kernel, by decide +kernel⟩
theorem ok_boxOf (T : Tx K mg) : FnOk P w K mg base CX0 15 T.boxOf.f T.boxOf.fd ["word"] (spBoxOf K) := by
  refine T.boxOf.F.ok scBoxOf (fun vs H Q E h => ?_) (fun cdv A outer s H vs Q E hr h => ?_)
  · obtain ⟨b, W, rfl, _⟩ := h
    rfl
  obtain ⟨b, W, rfl, hw, hok, hdeep, hsz, g⟩ := h
  refine ⟨_, pss_cons (ps_expr (T.deedsIn.cl (ok_deedsIn T) hr (pa_cons (pv 0) pa_nil))) (pss_one (ps_ret (T.wordBox.cl (ok_wordBox T 5) hr (pa_cons (pv 0) pa_nil)))), ?_⟩
  exact ⟨_, rfl, b, W, rfl, hw, hok, hdeep, hsz, _, rfl, b, W, rfl, hw, hok, by omega, g⟩
end
end Pen

/-! the walk of great.py: which turns are looked at -/
namespace Pen
open PySem L2
section
variable {P : Program} {w : World} {K : PySem.W.Frag} {mg : Str → Option Value} {base : Heap}

/-! ### lies_in -/
instance (b : Box) (x y : Int) : Decidable (ptIn b x y) := by unfold ptIn; exact inferInstance
instance (s : Stk) (b : Box) : Decidable (LiesIn s b) := by unfold LiesIn; exact inferInstance
abbrev rLe : R2 := rI0 fun i j => .bl (decide (i ≤ j))
abbrev tIn (K : PySem.W.Frag) : L2.TT := tOr (tNot (tTest (tChain rLe rLe (tVI K 1 0) (tVar 2) (tVI K 1 2)))) (tNot (tTest (tChain rLe rLe (tVI K 1 1) (tVar 3) (tVI K 1 3))))
theorem chain_le {i j : Nat} {σ : L2.St} {H : Hp} {Q : Bool → Hp → Prop} {p : Addr} {b : Box} {v : Nat} {x lo hi : Int} (h1 : σ[1]? = some (some (.ref p))) (hb : SqT K H p (boxV b)) (hi' : (boxV b)[i]? = some (.int lo)) (hj : (boxV b)[j]? = some (.int hi)) (hv : σ[v]? = some (some (.int x)))
    (yes : lo ≤ x ∧ x ≤ hi → Q true H) (no : ¬ (lo ≤ x ∧ x ≤ hi) → Q false H) : tTest (tChain rLe rLe (tVI K 1 i) (tVar v) (tVI K 1 j)) σ H Q := by
  refine ⟨p, _, _, h1, hb, hi', _, hv, _, _, rfl, rfl, _, rfl, ite2 (fun c => ?_) (fun c => ?_)⟩
  · have c1 : lo ≤ x := of_decide_eq_true c
    refine ⟨p, _, _, h1, hb, hj, _, _, rfl, rfl, _, rfl, ?_⟩
    by_cases c2 : x ≤ hi
    · rw [decide_eq_true c2]
      exact yes ⟨c1, c2⟩
    · rw [decide_eq_false c2]
      exact no fun q => c2 q.2
  · have c1 : ¬ lo ≤ x := fun q => c (decide_eq_true q)
    exact ⟨_, rfl, no fun q => c1 q.1⟩
theorem tIn_ok {σ : L2.St} {H : Hp} {Q : Bool → Hp → Prop} {p : Addr} {b : Box} {x y : Int} (h1 : σ[1]? = some (some (.ref p))) (hb : SqT K H p (boxV b)) (h2 : σ[2]? = some (some (.int x))) (h3 : σ[3]? = some (some (.int y)))
    (yes : ptIn b x y → Q false H) (no : ¬ ptIn b x y → Q true H) : tIn K σ H Q := by
  refine chain_le h1 hb rfl rfl h2 (fun c => ?_) (fun c => ?_)
  · refine iteF (chain_le h1 hb rfl rfl h3 (fun d => ?_) (fun d => ?_))
    · exact yes ⟨c, d⟩
    · exact no fun q => d q.2
  · exact iteT (no fun q => c q.1)
def spLies (K : PySem.W.Frag) : Sp := fun vs H Q _ => ∃ (a p : Addr) (s : Stk) (b : Box), vs = [.ref a, .ref p] ∧ SqT K H a (stkV s) ∧ SqT K H p (boxV b) ∧ ∀ H', Same H H' → Q (.bl (decide (LiesIn s b))) H'
theorem scLies : FnScope ["stroke", "box", "x", "y"] ["stroke", "box"] (defScope sLies) := ⟨rfl, rfl, rfl, by decide +kernel, rfl, by decide +kernel, by decide +kernel⟩
theorem ok_lies (T : Tx K mg) : FnOk P w K mg base CX0 2 T.lies.f T.lies.fd ["stroke", "box"] (spLies K) := by
  refine T.lies.F.ok scLies (fun vs H Q E h => ?_) (fun cdv A outer s H vs Q E hr h => ?_)
  · obtain ⟨a, p, s, b, rfl, _⟩ := h
    rfl
  obtain ⟨a, p, z, b, rfl, ha, hb, g⟩ := h
  refine ⟨_, pss_cons (ps_if (pt_cmpR op_isN (pv 1) pe_non (nomark _)) (pss_one (ps_ret pe_bl)) pss_nil)
    (pss_cons (ps_for PassesOwn.never rfl (pi_list (T.ends.cl (ok_ends T) hr (pa_cons (pv 0) pa_nil))) (pg_tup (by rfl) (pgs_cons (pg_name (i := 2) scLies.nd rfl (.inl rfl)) (pgs_cons (pg_name (i := 3) scLies.nd rfl (.inl rfl)) pgs_nil)))
      (pss_one (ps_if (PW.pt (pw_or (pt_not (pt_chain op_le op_le (vi 1 0) (pv 2) (vi 1 2))) (pw_or1 (pt_not (pt_chain op_le op_le (vi 1 1) (pv 3) (vi 1 3)))))) (pss_one (ps_ret pe_bl)) pss_nil)))
    (pss_one (ps_ret pe_bl))), ?_⟩
  refine ⟨_, rfl, rfl, _, rfl, iteNo (fun z => by cases z) ?_⟩
  refine ⟨_, rfl, a, z, rfl, ha, fun H1 l c d s1 el ec ed => ?_⟩
  refine ⟨l, rfl, ⟨_, lstAt el⟩, for_list (K := K) (a := l) (xs := [.ref c, .ref d])
    (fun i σ H' => ∃ u v : Option V, σ = [some (.ref a), some (.ref p), u, v] ∧ (1 ≤ i → ptIn b z.x z.y) ∧ (2 ≤ i → ptIn b (z.x + 1 - z.w) (z.y + z.w)) ∧ Same H1 H') ⟨none, none, rfl, fun h => by omega, fun h => by omega, Same.refl _⟩ (fun i σ H' _ ⟨_, _, _, _, _, sm⟩ => lstAt (sm _ _ el)) ?_ ?_⟩
  · rintro i x σ H' hi ⟨u, v, rfl, k1, k2, sm⟩
    have hb' := Same.tup (s1.trans sm) hb
    match i, hi with
    | 0, hi =>
      cases (Option.some.inj hi : V.ref c = x)
      refine ⟨c, _, rfl, tupAt (sm _ _ ec), rfl, _, _, rfl, _, _, rfl, rfl, ?_⟩
      refine tIn_ok rfl hb' rfl rfl (fun q => iteF ?_) (fun q => iteT ?_)
      · exact ⟨_, _, rfl, fun _ => q, fun h => by omega, sm⟩
      · have e := g H' (s1.trans sm)
        rw [decide_eq_false (fun z : LiesIn _ _ => q z.1)] at e
        exact e
    | 1, hi =>
      cases (Option.some.inj hi : V.ref d = x)
      refine ⟨d, _, rfl, tupAt (sm _ _ ed), rfl, _, _, rfl, _, _, rfl, rfl, ?_⟩
      refine tIn_ok rfl hb' rfl rfl (fun q => iteF ?_) (fun q => iteT ?_)
      · exact ⟨_, _, rfl, fun _ => k1 (Nat.le_refl 1), fun _ => q, sm⟩
      · have e := g H' (s1.trans sm)
        rw [decide_eq_false (fun z : LiesIn _ _ => q z.2)] at e
        exact e
    | i + 2, hi => exact absurd hi (by simp)
  · rintro σ H' ⟨u, v, rfl, k1, k2, sm⟩
    have e := g H' (s1.trans sm)
    rw [decide_eq_true (show LiesIn z b from ⟨k1 (show 1 ≤ 2 by decide), k2 (show 2 ≤ 2 by decide)⟩)] at e
    exact e

/-! ### reach -/
def IsPr (K : PySem.W.Frag) (H : Hp) (v : V) : Option (Int × Int) → Prop
  | none => v = .non
  | some r => ∃ p, v = .ref p ∧ SqT K H p [.int r.1, .int r.2]
theorem IsPr.tt {H H' : Hp} {v : V} {b : Option (Int × Int)} (t : TT K H H') (h : IsPr K H v b) : IsPr K H' v b := by
  cases b with
  | none => exact h
  | some b =>
    obtain ⟨p, e, q⟩ := h
    exact ⟨p, e, t _ _ q⟩
def spReach (K : PySem.W.Frag) : Sp := fun vs H Q _ => ∃ lo hi h st : Int, vs = [.int lo, .int hi, .int h, .int st] ∧ -1000 < st ∧ st < 1000 ∧ ∀ H' v, Same H H' → IsPr K H' v (reach lo hi h st) → Q v H'
theorem scReach : FnScope ["low", "high", "here", "step"] ["low", "high", "here", "step"] (defScope sReach) := ⟨rfl, rfl, rfl, by decide +kernel, rfl, by decide +kernel, by decide +kernel⟩
theorem ok_reach (T : Tx K mg) : FnOk P w K mg base CX0 1 T.reach.f T.reach.fd ["low", "high", "here", "step"] (spReach K) := by
  refine T.reach.F.ok scReach (fun vs H Q E h => ?_) (fun cdv A outer s H vs Q E hr h => ?_)
  · obtain ⟨lo, hi, h, st, rfl, _⟩ := h
    rfl
  obtain ⟨lo, hi, h, st, rfl, b1, b2, g⟩ := h
  refine ⟨_, pss_cons (ps_if (pt_cmpR op_eq (pv 3) pe_int (nomark _)) (pss_cons (ps_if (pt_chain op_le op_le (pv 0) (pv 2) (pv 1)) (pss_one (ps_ret pe_non)) pss_nil) (pss_one (ps_ret (pe_tup (pa_cons pe_int (pa_cons pe_int pa_nil)))))) pss_nil)
    (pss_cons (ps_if (pt_cmpR op_gt (pv 3) pe_int (nomark _)) (pss_one (ps_ret (pe_tup (pa_cons (pe_op op_sub pe_int (pe_op op_fdiv (pe_op op_sub (pv 1) (pv 2)) (pv 3))) (pa_cons (pe_op op_fdiv (pe_op op_sub (pv 2) (pv 0)) (pv 3)) pa_nil))))) pss_nil)
    (pss_one (ps_ret (pe_tup (pa_cons (pe_op op_sub pe_int (pe_op op_fdiv (pe_op op_sub (pv 2) (pv 0)) (pe_op op_sub pe_int (pv 3)))) (pa_cons (pe_op op_fdiv (pe_op op_sub (pv 1) (pv 2)) (pe_op op_sub pe_int (pv 3))) pa_nil)))))), ?_⟩
  unfold reach at g
  refine ⟨_, rfl, rfl, _, rfl, ite2 (fun c => ?_) (fun c => ?_)⟩
  · have e : st = 0 := V.int.inj (of_decide_eq_true c)
    rw [if_pos e] at g
    refine ⟨_, rfl, _, rfl, _, _, rfl, rfl, _, rfl, ite2 (fun c1 => ?_) (fun c1 => ?_)⟩
    · have h1 : lo ≤ h := of_decide_eq_true c1
      refine ⟨_, rfl, _, _, rfl, rfl, _, rfl, ite2 (fun c2 => ?_) (fun c2 => ?_)⟩
      · have h2 : h ≤ hi := of_decide_eq_true c2
        rw [if_pos ⟨h1, h2⟩] at g
        exact g H .non (Same.refl _) rfl
      · have h2 : ¬ h ≤ hi := fun q => c2 (decide_eq_true q)
        rw [if_neg (fun q => h2 q.2)] at g
        exact ⟨sz, fun p hp => g _ _ (same_new hp _) ⟨p, rfl, tupAt upd_same⟩⟩
    · have h1 : ¬ lo ≤ h := fun q => c1 (decide_eq_true q)
      rw [if_neg (fun q => h1 q.1)] at g
      exact ⟨_, rfl, iteF ⟨sz, fun p hp => g _ _ (same_new hp _) ⟨p, rfl, tupAt upd_same⟩⟩⟩
  · have e : ¬ st = 0 := fun q => c (decide_eq_true (congrArg V.int q))
    rw [if_neg e] at g
    refine ⟨_, rfl, _, _, rfl, rfl, _, rfl, ite2 (fun c1 => ?_) (fun c1 => ?_)⟩
    · have h1 : st > 0 := of_decide_eq_true c1
      rw [if_pos h1] at g
      refine ⟨_, rfl, _, rfl, _, _, rfl, rfl, _, rfl, _, _, rfl, rfl, ⟨by omega, by omega⟩, _, _, rfl, rfl, _, rfl, _, rfl, _, _, rfl, rfl, _, rfl, _, _, rfl, rfl, ⟨by omega, by omega⟩, sz, fun p hp => ?_⟩
      exact g _ _ (same_new hp _) ⟨p, rfl, tupAt upd_same⟩
    · have h1 : ¬ st > 0 := fun q => c1 (decide_eq_true q)
      rw [if_neg h1] at g
      refine ⟨_, rfl, _, rfl, _, _, rfl, rfl, _, rfl, _, _, rfl, rfl, _, _, rfl, rfl, ⟨by omega, by omega⟩, _, _, rfl, rfl, _, rfl, _, rfl, _, _, rfl, rfl, _, rfl, _, _, rfl, rfl, _, _, rfl, rfl, ⟨by omega, by omega⟩, sz, fun p hp => ?_⟩
      exact g _ _ (same_new hp _) ⟨p, rfl, tupAt upd_same⟩

/-! ### turns_looked -/
def spTurns (K : PySem.W.Frag) : Sp := fun vs H Q _ => ∃ (a p q : Addr) (s : Stk) (b : Box) (m : Mo) (n : Int), vs = [.ref a, .ref p, .ref q, .int n] ∧ SqT K H a (stkV s) ∧ SqT K H p (boxV b) ∧ SqT K H q (moV m) ∧
  (-1000 < m.x ∧ m.x < 1000) ∧ (-1000 < m.y ∧ m.y < 1000) ∧ Gives H Q [.int (turns s b m n).1, .int (turns s b m n).2]
theorem scTurns : FnScope ["stroke", "box", "motion", "times", "first", "last", "x", "y", "found"] ["stroke", "box", "motion", "times"] (defScope sTurns) := ⟨rfl, rfl, rfl, by decide +kernel, rfl, by decide +kernel, by decide +kernel⟩
/-- what is known behind i ends, behind j answers at one end -/
def endAt (s : Stk) (b : Box) (m : Mo) (n : Int) : Nat → Int × Int
  | 0 => (0, n - 1)
  | 1 => narrow (narrow (0, n - 1) (reach b.a b.c s.x m.x)) (reach b.b b.d s.y m.y)
  | _ => turns s b m n
def ansAt (fl : Int × Int) (r1 r2 : Option (Int × Int)) : Nat → Int × Int
  | 0 => fl
  | 1 => narrow fl r1
  | _ => narrow (narrow fl r1) r2
theorem ok_turns (T : Tx K mg) : FnOk P w K mg base CX0 2 T.turns.f T.turns.fd ["stroke", "box", "motion", "times"] (spTurns K) := by
  refine T.turns.F.ok scTurns (fun vs H Q E h => ?_) (fun cdv A outer s H vs Q E hr h => ?_)
  · obtain ⟨a, p, q, s, b, m, n, rfl, _⟩ := h
    rfl
  obtain ⟨a, p, q, z, b, m, n, rfl, ha, hp, hq, bx, by', g⟩ := h
  refine ⟨_, pss_cons (ps_set (i := 4) scTurns.nd rfl (.inl rfl) pe_int)
    (pss_cons (ps_set (i := 5) scTurns.nd rfl (.inl rfl) (pe_op op_sub (pv 3) pe_int))
    (pss_cons (ps_for PassesOwn.never rfl (pi_list (T.ends.cl (ok_ends T) hr (pa_cons (pv 0) pa_nil))) (pg_tup (by rfl) (pgs_cons (pg_name (i := 6) scTurns.nd rfl (.inl rfl)) (pgs_cons (pg_name (i := 7) scTurns.nd rfl (.inl rfl)) pgs_nil)))
      (pss_one (ps_for PassesOwn.never rfl (pi_list (pe_lst (pa_cons (T.reach.cl (ok_reach T) hr (pa_cons (vi 1 0) (pa_cons (vi 1 2) (pa_cons (pv 6) (pa_cons (vi 2 0) pa_nil))))) (pa_cons (T.reach.cl (ok_reach T) hr (pa_cons (vi 1 1) (pa_cons (vi 1 3) (pa_cons (pv 7) (pa_cons (vi 2 1) pa_nil))))) pa_nil)))) (pg_name (i := 8) scTurns.nd rfl (.inl rfl))
        (pss_one (ps_if (pt_cmpR op_notN (pv 8) pe_non (nomark _)) (pss_cons (ps_set (i := 4) scTurns.nd rfl (.inl rfl) (pe_callB (call_max2 rfl) (by rfl) T.zMax b_max (pa_cons (pv 4) (pa_cons (vi 8 0) pa_nil)))) (pss_one (ps_set (i := 5) scTurns.nd rfl (.inl rfl) (pe_callB (call_min2 rfl) (by rfl) T.zMin b_min (pa_cons (pv 5) (pa_cons (vi 8 1) pa_nil)))))) pss_nil)))))
    (pss_one (ps_ret (pe_tup (pa_cons (pv 4) (pa_cons (pv 5) pa_nil))))))), ?_⟩
  refine ⟨_, rfl, _, _, rfl, rfl, ?_⟩
  refine ⟨_, rfl, a, z, rfl, ha, fun H1 l c d s1 el ec ed => ?_⟩
  refine ⟨l, rfl, ⟨_, lstAt el⟩, for_list (K := K) (a := l) (xs := [.ref c, .ref d])
    (fun i σ H' => ∃ u v t : Option V, σ = [some (.ref a), some (.ref p), some (.ref q), some (.int n), some (.int (endAt z b m n i).1), some (.int (endAt z b m n i).2), u, v, t] ∧ Same H1 H') ⟨none, none, none, rfl, Same.refl _⟩ (fun i σ H' _ ⟨_, _, _, _, sm⟩ => lstAt (sm _ _ el)) ?_ ?_⟩
  · rintro i x σ H' hi ⟨u, v, t, rfl, sm⟩
    obtain ⟨e, X, Y, rfl, he, hXY⟩ : ∃ (e : Addr) (X Y : Int), x = .ref e ∧ H' e = some (.tup [.int X, .int Y]) ∧ narrow (narrow (endAt z b m n i) (reach b.a b.c X m.x)) (reach b.b b.d Y m.y) = endAt z b m n (i + 1) := by
      match i, hi with
      | 0, hi =>
        cases (Option.some.inj hi : V.ref c = x)
        exact ⟨c, _, _, rfl, sm _ _ ec, rfl⟩
      | 1, hi =>
        cases (Option.some.inj hi : V.ref d = x)
        exact ⟨d, _, _, rfl, sm _ _ ed, rfl⟩
      | i + 2, hi => exact absurd hi (by simp)
    refine ⟨e, _, rfl, tupAt he, rfl, _, _, rfl, _, _, rfl, rfl, ?_⟩
    have s2 := s1.trans sm
    refine ⟨p, _, _, rfl, Same.tup s2 hp, rfl, p, _, _, rfl, Same.tup s2 hp, rfl, _, rfl, q, _, _, rfl, Same.tup s2 hq, rfl, _, _, _, _, rfl, bx.1, bx.2, fun H2 v1 t2 hv1 => ?_⟩
    have s3 := s2.trans t2
    refine ⟨p, _, _, rfl, Same.tup s3 hp, rfl, p, _, _, rfl, Same.tup s3 hp, rfl, _, rfl, q, _, _, rfl, Same.tup s3 hq, rfl, _, _, _, _, rfl, by'.1, by'.2, fun H3 v2 t3 hv2 => ?_⟩
    refine ⟨sz, fun k hk => ?_⟩
    have t4 := same_new hk (.lst [v1, v2])
    have tAll := t2.trans (t3.trans t4)
    have pv1 := IsPr.tt (Same.tt (t3.trans t4)) hv1
    have pv2 := IsPr.tt (Same.tt t4) hv2
    refine ⟨k, rfl, ⟨_, lstAt upd_same⟩, for_list (K := K) (a := k) (xs := [v1, v2])
      (fun j σ H'' => ∃ t : Option V, σ = [some (.ref a), some (.ref p), some (.ref q), some (.int n), some (.int (ansAt (endAt z b m n i) (reach b.a b.c X m.x) (reach b.b b.d Y m.y) j).1),
        some (.int (ansAt (endAt z b m n i) (reach b.a b.c X m.x) (reach b.b b.d Y m.y) j).2), some (.int X), some (.int Y), t] ∧ Same (upd H3 k (.lst [v1, v2])) H'')
      ⟨t, rfl, Same.refl _⟩ (fun i σ H' _ ⟨_, _, sm⟩ => lstAt (sm _ _ upd_same)) ?_ ?_⟩
    · rintro j y σ H'' hj ⟨t, rfl, sm'⟩
      obtain ⟨r, hy, er⟩ : ∃ r, IsPr K H'' y r ∧ narrow (ansAt (endAt z b m n i) (reach b.a b.c X m.x) (reach b.b b.d Y m.y) j) r = ansAt (endAt z b m n i) (reach b.a b.c X m.x) (reach b.b b.d Y m.y) (j + 1) := by
        match j, hj with
        | 0, hj =>
          cases (Option.some.inj hj : v1 = y)
          exact ⟨_, IsPr.tt (Same.tt sm') pv1, rfl⟩
        | 1, hj =>
          cases (Option.some.inj hj : v2 = y)
          exact ⟨_, IsPr.tt (Same.tt sm') pv2, rfl⟩
        | j + 2, hj => exact absurd hj (by simp)
      refine ⟨_, rfl, rfl, _, rfl, ?_⟩
      cases r with
      | none =>
        cases (show y = .non from hy)
        exact iteF ⟨_, by rw [← er]; rfl, sm'⟩
      | some r =>
        obtain ⟨o, rfl, ho⟩ := hy
        rw [decide_eq_false (show ¬ V.ref o = V.non from fun z => nomatch z)]
        refine iteT ⟨_, rfl, o, _, _, rfl, ho, rfl, _, _, rfl, _, rfl, o, _, _, rfl, ho, rfl, _, _, rfl, some (.ref o), ?_, sm'⟩
        rw [← er]
        rfl
    · rintro σ H'' ⟨t, rfl, sm'⟩
      refine ⟨some (.int X), some (.int Y), t, ?_, sm.trans (tAll.trans sm')⟩
      rw [← hXY]
      rfl
  · rintro σ H' ⟨u, v, t, rfl, sm⟩
    refine ⟨_, rfl, _, rfl, sz, ?_⟩
    exact Gives.new g (s1.trans sm)
end
end Pen

/-! the walk of great.py: class Looking -/
namespace Pen
open PySem L2
/-! ### tuples and lists of ints compared -/
theorem dpAll {K : PySem.W.Frag} {H : Hp} : ∀ ns : List Int, DpAll K H (ns.map V.int) (ns.map PyData.int)
  | [] => .nil
  | _ :: r => .cons (.int _) (dpAll r)
theorem dpT {K : PySem.W.Frag} {H : Hp} {a : Addr} (ns : List Int) (h : SqT K H a (ns.map V.int)) : Dp K H (.ref a) (.tuple (ns.map PyData.int)) := .tup h (dpAll ns)
theorem dpL {K : PySem.W.Frag} {H : Hp} {a : Addr} (ns : List Int) (h : SqL K H a (ns.map V.int)) : Dp K H (.ref a) (.list (ns.map PyData.int)) := .lst h (dpAll ns)
theorem layInts : ∀ ns : List Int, PyData.canLayAll0 (ns.map PyData.int) = true
  | [] => rfl
  | n :: r => by
    show (PyData.canLay0 (.int n) && PyData.canLayAll0 (r.map PyData.int)) = true
    rw [layInts r]
    rfl
theorem deepInts : ∀ ns : List Int, PyData.depthAll (ns.map PyData.int) = 0
  | [] => rfl
  | n :: r => by
    show max (PyData.depth (.int n)) (PyData.depthAll (r.map PyData.int)) = 0
    rw [deepInts r]
    rfl
theorem shapedT (ns : List Int) : SeqAt.shaped (.tuple (ns.map PyData.int)) = true := by
  show (PyData.canLayAll0 (ns.map PyData.int) && decide (PyData.depthAll (ns.map PyData.int) + 1 ≤ 64)) = true
  rw [layInts, deepInts]
  rfl
theorem shapedL (ns : List Int) : SeqAt.shaped (.list (ns.map PyData.int)) = true := by
  show (PyData.canLayAll0 (ns.map PyData.int) && decide (PyData.depthAll (ns.map PyData.int) + 1 ≤ 64)) = true
  rw [layInts, deepInts]
  rfl
theorem eqvInts : ∀ ns ms : List Int, PyData.eqvAll (ns.map PyData.int) (ms.map PyData.int) = decide (ns = ms)
  | [], [] => rfl
  | [], _ :: _ => rfl
  | _ :: _, [] => rfl
  | n :: r, m :: t => by
    show (PyData.eqv (.int n) (.int m) && PyData.eqvAll (r.map PyData.int) (t.map PyData.int)) = _
    rw [eqvInts r t]
    show ((n == m) && decide (r = t)) = _
    by_cases h : n = m
    · subst h
      simp
    · simp [h]
theorem eqvT (ns ms : List Int) : PyData.eqv (.tuple (ns.map PyData.int)) (.tuple (ms.map PyData.int)) = decide (ns = ms) := eqvInts ns ms
theorem eqvL (ns ms : List Int) : PyData.eqv (.list (ns.map PyData.int)) (.list (ms.map PyData.int)) = decide (ns = ms) := eqvInts ns ms

/-! ### a Looking in the heap -/
def lk (k : Nat) : List (Str × V) := [("looked", .int (k : Int))]
theorem lk_at (k : Nat) : (lk k).lookup ("looked" : Str) = some (.int (k : Int)) := by
  unfold lk
  simp [List.lookup]
theorem lk_no (k : Nat) {m : Str} (h : (m == ("looked" : Str)) = false) : (lk k).lookup m = none := by
  unfold lk
  simp [List.lookup, h]
theorem lk_put (k j : Nat) : putF "looked" (.int (j : Int)) (lk k) = lk j := by
  show (if ("looked" : Str) = "looked" then [(("looked" : Str), V.int (j : Int))] else _) = lk j
  rw [if_pos rfl]
  rfl
def LookAt (C : Addr) (H : Hp) (p : Addr) (k : Nat) : Prop := ∃ dx, H p = some (.ins C dx (lk k))
/-- all but p stays -/
def Kept (p : Addr) (H H' : Hp) : Prop := ∀ b o, b ≠ p → H b = some o → H' b = some o
theorem Kept.trans {p : Addr} {H H1 H2 : Hp} (a : Kept p H H1) (b : Kept p H1 H2) : Kept p H H2 := fun c o n h => b c o n (a c o n h)
theorem Kept.of {p : Addr} {H H1 : Hp} (a : Same H H1) : Kept p H H1 := fun c o _ h => a c o h
theorem Kept.refl (p : Addr) (H : Hp) : Kept p H H := fun _ _ _ h => h
theorem LookAt.tt {C : Addr} {K : PySem.W.Frag} {H H' : Hp} {p : Addr} {k : Nat} (l : LookAt C H p k) (s : Kept p H H') : TT K H H' := fun a xs h => by
  obtain ⟨dx, l⟩ := l
  rcases h with (h | ⟨o, h⟩) | h
  · exact .inl (.inl (s _ _ (ne_of h l (by intro q; cases q)) h))
  · exact .inl (.inr ⟨o, s _ _ (ne_of h l (by intro q; cases q)) h⟩)
  · exact .inr h
theorem LookAt.same {C : Addr} {H H' : Hp} {p : Addr} {k : Nat} (l : LookAt C H p k) (s : Same H H') : LookAt C H' p k := by
  obtain ⟨dx, l⟩ := l
  exact ⟨dx, s _ _ l⟩
section
variable {P : Program} {w : World} {K : PySem.W.Frag} {mg : Str → Option Value} {base : Heap}

/-! ### __init__, note -/
def spInit (C : Addr) : Sp := fun vs H Q _ => ∃ (p dx : Addr), vs = [.ref p] ∧ H p = some (.ins C dx []) ∧ ∀ H' : Hp, Kept p H H' → LookAt C H' p 0 → Q .non H'
theorem scInit : FnScope ["self"] ["self"] (defScope sInit) := ⟨rfl, rfl, rfl, by decide +kernel, rfl, by decide +kernel, by decide +kernel⟩
theorem ok_init (T : Tx K mg) : FnOk P w K mg base CX0 1 T.init.f T.init.fd ["self"] (spInit T.C) := by
  refine T.init.F.ok scInit (fun vs H Q E h => ?_) (fun cdv A outer s H vs Q E hr h => ?_)
  · obtain ⟨p, dx, rfl, _⟩ := h
    rfl
  obtain ⟨p, dx, rfl, hp, k⟩ := h
  refine ⟨_, pss_one (ps_fld (pv 0) pe_int rfl), ?_⟩
  refine ⟨_, rfl, p, T.C, dx, [], rfl, hp, T.cl, T.nL, (by show 0 < 1000; decide), ?_⟩
  refine k _ (fun b o n h => ?_) ⟨dx, upd_same⟩
  rw [upd_ne n]
  exact h
def spNote (C : Addr) : Sp := fun vs H Q _ => ∃ (p : Addr) (k n : Nat), vs = [.ref p, .int (n : Int)] ∧ LookAt C H p k ∧ k + n ≤ 1000 ∧ ∀ H' : Hp, Kept p H H' → LookAt C H' p (k + n) → Q .non H'
theorem scNote : FnScope ["self", "many"] ["self", "many"] (defScope sNote) := ⟨rfl, rfl, rfl, by decide +kernel, rfl, by decide +kernel, by decide +kernel⟩
theorem ok_note (T : Tx K mg) : FnOk P w K mg base CX0 1 T.note.f T.note.fd ["self", "many"] (spNote T.C) := by
  refine T.note.F.ok scNote (fun vs H Q E h => ?_) (fun cdv A outer s H vs Q E hr h => ?_)
  · obtain ⟨p, k, n, rfl, _⟩ := h
    rfl
  obtain ⟨p, k, n, rfl, ⟨dx, hp⟩, hn, q⟩ := h
  obtain ⟨tg, hG⟩ := T.gLooked
  refine ⟨_, pss_cons (ps_fld (pv 0) (pe_op op_add (pe_fld (pv 0) rfl) (pv 1)) rfl) (pss_one (ps_if (pt_cmpR op_gt (pe_fld (pv 0) rfl) (pe_glob (v := .int 1000) (by rfl) hG ⟨_, rfl⟩) (nomark _)) pss_never pss_nil)), ?_⟩
  have e : V.int ((k : Int) + (n : Int)) = V.int ((k + n : Nat) : Int) := by rw [Int.natCast_add]
  refine ⟨_, rfl, p, T.C, dx, _, _, rfl, hp, T.cl, T.nL, lk_at k, _, rfl, _, _, rfl, rfl, _, rfl, p, T.C, dx, _, rfl, hp, T.cl, T.nL, (by show 1 < 1000; decide), ?_⟩
  have e2 : putF ("looked" : Str) ((fun i j : Int => V.int (i + j)) (k : Int) (n : Int)) (lk k) = lk (k + n) := by
    show putF ("looked" : Str) (V.int ((k : Int) + (n : Int))) (lk k) = _
    rw [e, lk_put]
  rw [e2]
  refine ⟨_, rfl, p, T.C, dx, _, _, rfl, upd_same, T.cl, T.nL, lk_at _, _, _, rfl, rfl, _, rfl, iteNo (by omega) ?_⟩
  refine q _ (fun b o z h => ?_) ⟨dx, upd_same⟩
  rw [upd_ne z]
  exact h

/-! ### one_doing -/
def spInWord (K : PySem.W.Frag) (C : Addr) (n : Nat) : Sp := fun vs H Q _ => ∃ (p a t : Addr) (W : Word) (s : Stk) (c : Int) (j k : Nat), vs = [.ref p, .ref a, .ref t] ∧ LookAt C H p j ∧ IsWord K H W a ∧ WordOk W ∧ wordDeep W < n ∧ SqT K H t (stkV s) ∧
  CDs W one s c k ∧ j + k ≤ 1000 ∧ ∀ H' : Hp, Kept p H H' → LookAt C H' p (j + k) → Q (.int c) H'
def spDoing (K : PySem.W.Frag) (C : Addr) (n : Nat) : Sp := fun vs H Q _ => ∃ (p a pb pm t : Addr) (W : Word) (b : Box) (m : Mo) (s : Stk) (c : Int) (j k : Nat), vs = [.ref p, .ref a, .ref pb, .ref pm, .ref t] ∧ LookAt C H p j ∧ IsWord K H W a ∧ WordOk W ∧ wordDeep W < n ∧
  SqT K H pb (boxV b) ∧ SqT K H pm (moV m) ∧ SqT K H t (stkV s) ∧ C1 W b m s c k ∧ j + k ≤ 1000 ∧ ∀ H' : Hp, Kept p H H' → LookAt C H' p (j + k) → Q (.int c) H'
def spInTimes (K : PySem.W.Frag) (C : Addr) (n : Nat) : Sp := fun vs H Q _ => ∃ (p d t : Addr) (m : Int) (u : Word) (s : Stk) (c : Int) (j k : Nat), vs = [.ref p, .ref d, .ref t] ∧ LookAt C H p j ∧ IsDeed K H (.times m u) d ∧ DeedOk (.times m u) ∧ wordDeep u < n ∧ SqT K H t (stkV s) ∧
  CT m u s c k ∧ j + k ≤ 1000 ∧ ∀ H' : Hp, Kept p H H' → LookAt C H' p (j + k) → Q (.int c) H'
theorem scDoing : FnScope ["self", "word", "box", "motion", "stroke", "seen"] ["self", "word", "box", "motion", "stroke"] (defScope sDoing) := ⟨rfl, rfl, rfl, by decide +kernel, rfl, by decide +kernel, by decide +kernel⟩
theorem ok_doing (T : Tx K mg) (n : Nat) (G : FnOk P w K mg base CX0 (3 * n + 5) T.inWord.f T.inWord.fd ["self", "word", "stroke"] (spInWord K T.C n)) :
    FnOk P w K mg base CX0 (3 * n + 6) T.doing.f T.doing.fd ["self", "word", "box", "motion", "stroke"] (spDoing K T.C n) := by
  refine T.doing.F.ok scDoing (fun vs H Q E h => ?_) (fun cdv A outer s H vs Q E hr h => ?_)
  · obtain ⟨p, a, pb, pm, t, W, b, m, s, c, j, k, rfl, _⟩ := h
    rfl
  obtain ⟨p, a, pb, pm, t, W, b, m, z, c, j, k, rfl, hl, hw, hok, hdeep, hb, hm, ht, hc, hk, q⟩ := h
  refine ⟨_, pss_cons (ps_set (i := 5) scDoing.nd rfl (.inl rfl) (T.carried.cl (ok_carried T) hr (pa_cons (T.undone.cl (ok_undone T) hr (pa_cons (pv 3) pa_nil)) (pa_cons (pv 4) pa_nil))))
    (pss_cons (ps_if (pt_not (pt_val (T.lies.cl (ok_lies T) hr (pa_cons (pv 5) (pa_cons (pv 2) pa_nil))))) (pss_one (ps_ret pe_int)) pss_nil)
    (pss_cons (ps_expr (T.note.cl T.cl (ok_note T) hr (pv 0) (pa_cons pe_int pa_nil)))
    (pss_one (ps_ret (T.inWord.cl T.cl G hr (pv 0) (pa_cons (pv 1) (pa_cons (pv 5) pa_nil))))))), ?_⟩
  refine ⟨_, rfl, pm, m, rfl, hm, fun H1 u s1 e1 => ?_⟩
  refine ⟨_, rfl, u, t, undo m, z, rfl, tupAt e1, Same.tup s1 ht, fun H2 v s2 e2 => ?_⟩
  have s12 := s1.trans s2
  refine ⟨_, rfl, _, rfl, v, pb, carry (undo m) z, b, rfl, tupAt e2, Same.tup s12 hb, fun H3 s3 => ?_⟩
  have s13 := s12.trans s3
  cases hc with
  | out no =>
    rw [decide_eq_false no]
    refine ⟨_, rfl, iteT ?_⟩
    exact q H3 (Kept.of s13) (hl.same s13)
  | @inn _ _ _ _ _ k yes hd =>
    rw [decide_eq_true yes]
    refine ⟨_, rfl, iteF ?_⟩
    have hl3 := hl.same s13
    obtain ⟨dx, hp3⟩ := id hl3
    refine ⟨_, rfl, p, dx, _, rfl, hp3, lk_no _ (by decide +kernel), p, j, 1, rfl, hl3, by omega, fun H4 k4 l4 => ?_⟩
    have t34 : TT K H3 H4 := hl3.tt k4
    have t4 : TT K H H4 := (Same.tt s13).trans t34
    obtain ⟨dx4, hp4⟩ := id l4
    refine ⟨_, rfl, p, dx4, _, rfl, hp4, lk_no _ (by decide +kernel), _, rfl, _, rfl, p, a, v, W, carry (undo m) z, c, j + 1, k, rfl, l4, IsWord.tt t4 hw, hok, hdeep, t34 _ _ (Same.tup s3 (tupAt e2)), hd, by omega, fun H5 k5 l5 => ?_⟩
    refine q H5 ((Kept.of s13).trans (k4.trans k5)) ?_
    rw [← Nat.add_assoc]
    exact l5
end
end Pen

/-! the walk of great.py: Looking.in_times -/
namespace Pen
open PySem L2
section
variable {P : Program} {w : World} {K : PySem.W.Frag} {mg : Str → Option Value} {base : Heap}
theorem cut3 (x y z : V) : cutV [x, y, z] (some 1) none = [y, z] := rfl
theorem cut3_not (x y z : V) : ¬ (HT.sIx [x, y, z].length 0 (some 1) = 0 ∧ HT.sIx [x, y, z].length [x, y, z].length none = [x, y, z].length) := fun h => absurd (show (1 : Nat) = 0 from h.1) (by decide)
theorem scInTimes : FnScope ["self", "deed", "stroke", "times", "word", "box", "motion", "total", "turn", "often", "first", "last"] ["self", "deed", "stroke"] (defScope sInTimes) := ⟨rfl, rfl, rfl, by decide +kernel, rfl, by decide +kernel, by decide +kernel⟩
theorem ok_inTimes (T : Tx K mg) (n : Nat) (G : FnOk P w K mg base CX0 (3 * n + 6) T.doing.f T.doing.fd ["self", "word", "box", "motion", "stroke"] (spDoing K T.C n)) :
    FnOk P w K mg base CX0 (3 * n + 7) T.inTimes.f T.inTimes.fd ["self", "deed", "stroke"] (spInTimes K T.C n) := by
  refine T.inTimes.F.ok scInTimes (fun vs H Q E h => ?_) (fun cdv A outer s H vs Q E hr h => ?_)
  · obtain ⟨p, d, t, m, u, s, c, j, k, rfl, _⟩ := h
    rfl
  obtain ⟨p, d, t, m, u, z, c, j, k, rfl, hl, hd, hok, hdeep, ht, hc, hk, q⟩ := h
  obtain ⟨tg, hG⟩ := T.gLooked
  refine ⟨_, pss_cons (ps_asg (pe_slice sl_tup (pv 1) (po_some pe_int) po_none) (pg_tup (by rfl) (pgs_cons (pg_name (i := 3) scInTimes.nd rfl (.inl rfl)) (pgs_cons (pg_name (i := 4) scInTimes.nd rfl (.inl rfl)) pgs_nil))))
    (pss_cons (ps_set (i := 5) scInTimes.nd rfl (.inl rfl) (T.wordBox.cl (ok_wordBox T n) hr (pa_cons (pv 4) pa_nil)))
    (pss_cons (ps_set (i := 6) scInTimes.nd rfl (.inl rfl) (T.motion.cl (ok_motion T n) hr (pa_cons (pv 4) pa_nil)))
    (pss_cons (ps_if (PW.pt (pw_or (pt_cmpR op_isN (pv 5) pe_non (nomark _)) (pw_or1 (pt_cmpR op_eq (pv 3) pe_int (nomark _))))) (pss_one (ps_ret pe_int)) pss_nil)
    (pss_cons (ps_if (pt_cmpR (op_eqD hr.units) (pv 6) (pe_glob (v := .ref T.unmoved) (by rfl) T.gUnmoved rfl) (nomark _))
      (pss_one (ps_ret (pe_op op_mul (pv 3) (T.doing.cl T.cl G hr (pv 0) (pa_cons (pv 4) (pa_cons (pv 5) (pa_cons (pe_glob (v := .ref T.unmoved) (by rfl) T.gUnmoved rfl) (pa_cons (pv 2) pa_nil)))))))) pss_nil)
    (pss_cons (ps_set (i := 7) scInTimes.nd rfl (.inl rfl) pe_int)
    (pss_cons (ps_if (pt_cmpR op_ne (vi 6 2) pe_int (nomark _))
      (pss_cons (ps_for PassesOwn.never rfl (pi_range1 (by rfl) T.zRange (pa_cons (pe_callB (call_min2 rfl) (by rfl) T.zMin b_min (pa_cons (pv 3) (pa_cons pe_int pa_nil))) pa_nil)) (pg_name (i := 8) scInTimes.nd rfl (.inl rfl))
        (pss_cons (ps_set (i := 9) scInTimes.nd rfl (.inl rfl) (pe_op op_fdiv (pe_op op_add (pe_op op_sub (pv 3) (pv 8)) pe_int) pe_int))
        (pss_one (ps_set (i := 7) scInTimes.nd rfl (.inl rfl) (pe_op op_add (pv 7) (pe_op op_mul (pv 9) (T.doing.cl T.cl G hr (pv 0) (pa_cons (pv 4) (pa_cons (pv 5) (pa_cons (T.many.cl (ok_many T) hr (pa_cons (pv 6) (pa_cons (pv 8) pa_nil))) (pa_cons (pv 2) pa_nil)))))))))))
      (pss_one (ps_ret (pv 7)))) pss_nil)
    (pss_cons (ps_asg (T.turns.cl (ok_turns T) hr (pa_cons (pv 2) (pa_cons (pv 5) (pa_cons (pv 6) (pa_cons (pv 3) pa_nil))))) (pg_tup (by rfl) (pgs_cons (pg_name (i := 10) scInTimes.nd rfl (.inl rfl)) (pgs_cons (pg_name (i := 11) scInTimes.nd rfl (.inl rfl)) pgs_nil))))
    (pss_cons (ps_if (pt_cmpR op_ge (pe_op op_sub (pv 11) (pv 10)) (pe_glob (v := .int 1000) (by rfl) hG ⟨_, rfl⟩) (nomark _)) pss_never pss_nil)
    (pss_cons (ps_for PassesOwn.never rfl (pi_rangeA (by rfl) T.zRange (pa_cons (pv 10) (pa_cons (pe_op op_add (pv 11) pe_int) pa_nil))) (pg_name (i := 8) scInTimes.nd rfl (.inl rfl))
      (pss_one (ps_set (i := 7) scInTimes.nd rfl (.inl rfl) (pe_op op_add (pv 7) (T.doing.cl T.cl G hr (pv 0) (pa_cons (pv 4) (pa_cons (pv 5) (pa_cons (T.many.cl (ok_many T) hr (pa_cons (pv 6) (pa_cons (pv 8) pa_nil))) (pa_cons (pv 2) pa_nil)))))))))
    (pss_one (ps_ret (pv 7)))))))))))), ?_⟩
  unfold IsDeed at hd
  unfold DeedOk at hok
  obtain ⟨a, hp, hw⟩ := hd
  have hw : IsWord K H u a := hw
  refine ⟨_, rfl, 1, rfl, d, _, rfl, hp, cut3_not _ _ _, fun r hr' => ?_⟩
  have s1 := same_new hr' (.tup (cutV [V.str "times", V.int m, V.ref a] (some 1) none))
  refine ⟨r, [.int m, .ref a], rfl, tupAt upd_same, rfl, _, _, rfl, _, _, rfl, rfl, ?_⟩
  refine ⟨_, rfl, a, u, rfl, IsWord.tt (Same.tt s1) hw, hok.2, hdeep, fun H2 v s2 hv => ?_⟩
  refine ⟨_, rfl, a, u, rfl, IsWord.tt (Same.tt (s1.trans s2)) hw, hok.2, hdeep, fun H3 o s3 eo => ?_⟩
  have s13 := s1.trans (s2.trans s3)
  have hv3 := IsBox.tt (Same.tt s3) hv
  have hl3 := hl.same s13
  have ht3 := Same.tup s13 ht
  have hw3 := IsWord.tt (Same.tt s13) hw
  have nm : Norm (wordMo one u) := norm_word u norm_one
  have hm0 : 0 < m := by
    cases hc <;> assumption
  obtain ⟨b, hbox⟩ : ∃ b, wordBox none one u = some b := by
    cases hc <;> exact ⟨_, by assumption⟩
  rw [hbox] at hv3
  obtain ⟨pb, rfl, hpb⟩ := hv3
  -- box is None or times == 0
  refine ⟨_, rfl, rfl, _, rfl, iteNo (fun z => nomatch z) ⟨_, rfl, rfl, _, rfl, iteNo (fun z => by have := V.int.inj z; omega) ?_⟩⟩
  -- motion == UNMOVED
  refine ⟨_, rfl, _, _, dpT [(wordMo one u).x, (wordMo one u).y, (wordMo one u).q] (tupAt eo), dpT [0, 0, 0] (T.kUnmoved H3), shapedT _, shapedT _, _, rfl, ?_⟩
  rw [eqvT]
  have isOne : [(wordMo one u).x, (wordMo one u).y, (wordMo one u).q] = [(0 : Int), 0, 0] ↔ wordMo one u = one := by
    constructor
    · intro h
      injection h with h1 h
      injection h with h2 h
      injection h with h3 _
      exact Mo.ext h1 h2 h3
    · intro h
      rw [h]
      rfl
  cases hc with
  | @still _ _ b' _ c' _ hb h0 h64 e1 h1 =>
    have eb : b' = b := Option.some.inj (hb.symm.trans hbox)
    subst eb
    refine iteYes (isOne.mpr e1) ?_
    obtain ⟨dx, hp3⟩ := id hl3
    refine ⟨_, rfl, _, rfl, p, dx, _, rfl, hp3, lk_no _ (by decide +kernel), _, rfl, _, rfl, _, rfl, p, a, pb, T.unmoved, t, u, b', one, z, c', j, k, rfl, hl3, hw3, hok.2, hdeep, hpb, T.kUnmoved H3, ht3, h1, hk, fun H4 k4 l4 => ?_⟩
    exact ⟨_, _, rfl, rfl, .inl ⟨by omega, by omega⟩, q H4 ((Kept.of s13).trans k4) l4⟩
  | @turned _ _ b' _ _ _ hb h0 h64 eq hcr =>
    have eb : b' = b := Option.some.inj (hb.symm.trans hbox)
    subst eb
    refine iteNo (fun h => eq (by rw [isOne.mp h]; rfl)) ?_
    refine ⟨o, _, _, rfl, tupAt eo, rfl, rfl, _, rfl, ?_⟩
    rw [decide_eq_false (show ¬ V.int (wordMo one u).q = V.int 0 from fun h => eq (V.int.inj h))]
    have hmn : 0 ≤ mn m 4 ∧ mn m 4 ≤ 4 := by
      unfold mn
      split <;> omega
    refine iteT ⟨_, rfl, _, _, rfl, _, rfl, (show -(2 ^ 62) ≤ mn m 4 by omega), (show mn m 4 < 2 ^ 62 by omega), for_range (lo := 0) (n := (mn m 4).toNat)
      (fun i σ H' => ∃ (tot c1 : Int) (j1 k1 r1 : Nat) (x y : Option V), σ = [some (.ref p), some (.ref d), some (.ref t), some (.int m), some (.ref a), some (.ref pb), some (.ref o), some (.int tot), x, y, none, none] ∧
        CR m u b' (wordMo one u) r1 i z c1 k1 ∧ r1 + i = (mn m 4).toNat ∧ tot + c1 = c ∧ j1 + k1 = j + k ∧ LookAt T.C H' p j1 ∧ Kept p H3 H')
      ⟨0, c, j, k, (mn m 4).toNat, none, none, rfl, hcr, rfl, Int.zero_add _, rfl, hl3, Kept.refl _ _⟩ ?_ ?_⟩
    · rintro i σ H' hi ⟨tot, c1, j1, k1, r1, x, y, rfl, hcr, er, ec, ek, l', k'⟩
      have t' : TT K H3 H' := hl3.tt k'
      cases hcr with
      | done => exact absurd hi (by omega)
      | @more _ _ _ _ r2 _ _ c2 k2 c3 k3 h1 h2 =>
        refine ⟨_, rfl, _, rfl, _, _, rfl, rfl, _, _, rfl, rfl, _, _, rfl, rfl, ⟨by decide, by decide⟩, ?_⟩
        obtain ⟨dx, hp'⟩ := id l'
        refine ⟨_, rfl, _, rfl, _, rfl, p, dx, _, rfl, hp', lk_no _ (by decide +kernel), _, rfl, _, rfl, _, rfl, _, rfl, o, wordMo one u, _, rfl, t' _ _ (tupAt eo), nm, by omega, fun H4 o4 s4 e4 => ?_⟩
        rw [show (0 + (i : Int)).toNat = i by omega] at e4
        have t4 := t'.trans (Same.tt s4)
        refine ⟨_, rfl, p, a, pb, o4, t, u, b', _, z, c2, j1, k2, rfl, l'.same s4, IsWord.tt t4 hw3, hok.2, hdeep, t4 _ _ hpb, tupAt e4, t4 _ _ ht3, h1, by omega, fun H5 k5 l5 => ?_⟩
        refine ⟨_, _, rfl, rfl, .inl ⟨?_, ?_⟩, _, _, rfl, rfl, ?_⟩
        · show -(2 ^ 64) < (m - (0 + (i : Int)) + 3) / 4
          omega
        · show (m - (0 + (i : Int)) + 3) / 4 < 2 ^ 64
          omega
        · refine ⟨tot + (m - (i : Int) + 3) / 4 * c2, c3, j1 + k2, k3, r2, some (.int (0 + (i : Int))), some (.int ((m - (0 + (i : Int)) + 3) / 4)), ?_, h2, by omega, by omega, by omega, l5, k'.trans ((Kept.of s4).trans k5)⟩
          show [some (V.ref p), some (V.ref d), some (V.ref t), some (V.int m), some (V.ref a), some (V.ref pb), some (V.ref o), some (V.int (tot + (m - (0 + (i : Int)) + 3) / 4 * c2)), some (V.int (0 + (i : Int))), some (V.int ((m - (0 + (i : Int)) + 3) / 4)), none, none] = _
          rw [Int.zero_add]
    · rintro σ H' ⟨tot, c1, j1, k1, r1, x, y, rfl, hcr, er, ec, ek, l', k'⟩
      have e0 : r1 = 0 := by omega
      subst e0
      cases hcr with
      | done =>
        have ec' : tot = c := by omega
        have ek' : j1 = j + k := by omega
        subst ec' ek'
        exact ⟨_, rfl, q H' ((Kept.of s13).trans k') l'⟩
  | @shift0 _ _ b' _ hb h0 ne eq bx by' lt =>
    have eb : b' = b := Option.some.inj (hb.symm.trans hbox)
    subst eb
    refine iteNo (fun h => ne (isOne.mp h)) ?_
    refine ⟨o, _, _, rfl, tupAt eo, rfl, rfl, _, rfl, ?_⟩
    rw [decide_eq_true (show V.int (wordMo one u).q = V.int 0 from congrArg V.int eq)]
    refine iteF ⟨_, rfl, _, rfl, _, rfl, _, rfl, t, pb, o, z, b', wordMo one u, m, rfl, ht3, hpb, tupAt eo, bx, by', fun H4 f s4 e4 => ?_⟩
    refine ⟨f, _, rfl, tupAt e4, rfl, _, _, rfl, _, _, rfl, rfl, ?_⟩
    refine ⟨_, rfl, _, rfl, _, _, rfl, rfl, _, _, rfl, rfl, _, rfl, iteNo (by omega) ?_⟩
    refine ⟨_, rfl, _, rfl, _, _, rfl, rfl, _, _, rfl, for_range (lo := (turns z b' (wordMo one u) m).1) (n := ((turns z b' (wordMo one u) m).2 + 1 - (turns z b' (wordMo one u) m).1).toNat)
      (fun i σ H' => H' = H4 ∧ σ = [some (.ref p), some (.ref d), some (.ref t), some (.int m), some (.ref a), some (.ref pb), some (.ref o), some (.int 0), none, none, some (.int (turns z b' (wordMo one u) m).1), some (.int (turns z b' (wordMo one u) m).2)])
      ⟨rfl, rfl⟩ (fun i σ H' hi _ => absurd hi (by omega)) ?_⟩
    rintro σ H' ⟨rfl, rfl⟩
    exact ⟨_, rfl, q H' (Kept.of (s13.trans s4)) (hl.same (s13.trans s4))⟩
  | @shift1 _ _ b' _ _ _ hb h0 ne eq bx by' same pos h1 =>
    have eb : b' = b := Option.some.inj (hb.symm.trans hbox)
    subst eb
    refine iteNo (fun h => ne (isOne.mp h)) ?_
    refine ⟨o, _, _, rfl, tupAt eo, rfl, rfl, _, rfl, ?_⟩
    rw [decide_eq_true (show V.int (wordMo one u).q = V.int 0 from congrArg V.int eq)]
    refine iteF ⟨_, rfl, _, rfl, _, rfl, _, rfl, t, pb, o, z, b', wordMo one u, m, rfl, ht3, hpb, tupAt eo, bx, by', fun H4 f s4 e4 => ?_⟩
    refine ⟨f, _, rfl, tupAt e4, rfl, _, _, rfl, _, _, rfl, rfl, ?_⟩
    refine ⟨_, rfl, _, rfl, _, _, rfl, rfl, _, _, rfl, rfl, _, rfl, iteNo (by omega) ?_⟩
    have one1 : ((turns z b' (wordMo one u) m).2 + 1 - (turns z b' (wordMo one u) m).1).toNat = 1 := by omega
    refine ⟨_, rfl, _, rfl, _, _, rfl, rfl, _, _, rfl, for_range (lo := (turns z b' (wordMo one u) m).1) (n := ((turns z b' (wordMo one u) m).2 + 1 - (turns z b' (wordMo one u) m).1).toNat)
      (fun i σ H' => (i = 0 → H' = H4 ∧ σ = [some (.ref p), some (.ref d), some (.ref t), some (.int m), some (.ref a), some (.ref pb), some (.ref o), some (.int 0), none, none, some (.int (turns z b' (wordMo one u) m).1), some (.int (turns z b' (wordMo one u) m).2)]) ∧
        (i = 1 → ∃ x, σ = [some (.ref p), some (.ref d), some (.ref t), some (.int m), some (.ref a), some (.ref pb), some (.ref o), some (.int c), x, none, some (.int (turns z b' (wordMo one u) m).1), some (.int (turns z b' (wordMo one u) m).2)] ∧ LookAt T.C H' p (j + k) ∧ Kept p H4 H'))
      ⟨fun _ => ⟨rfl, rfl⟩, fun h => absurd h (by decide)⟩ ?_ ?_⟩
    · rintro i σ H' hi ⟨h0', _⟩
      have e0 : i = 0 := by omega
      subst e0
      obtain ⟨rfl, rfl⟩ := h0' rfl
      have hl4 := hl3.same s4
      have t4 := Same.tt (K := K) s4
      obtain ⟨dx, hp'⟩ := id hl4
      refine ⟨_, rfl, _, rfl, p, dx, _, rfl, hp', lk_no _ (by decide +kernel), _, rfl, _, rfl, _, rfl, _, rfl, o, wordMo one u, _, rfl, t4 _ _ (tupAt eo), nm, by omega, fun H5 o5 s5 e5 => ?_⟩
      rw [show ((turns z b' (wordMo one u) m).1 + ((0 : Nat) : Int)).toNat = (turns z b' (wordMo one u) m).1.toNat by omega] at e5
      have t5 := t4.trans (Same.tt s5)
      refine ⟨_, rfl, p, a, pb, o5, t, u, b', _, z, c, j, k, rfl, hl4.same s5, IsWord.tt t5 hw3, hok.2, hdeep, t5 _ _ hpb, tupAt e5, t5 _ _ ht3, h1, hk, fun H6 k6 l6 => ?_⟩
      refine ⟨_, _, rfl, rfl, fun h => absurd h (by decide), fun _ => ⟨some (.int ((turns z b' (wordMo one u) m).1 + ((0 : Nat) : Int))), ?_, l6, (Kept.of s5).trans k6⟩⟩
      show [some (V.ref p), some (V.ref d), some (V.ref t), some (V.int m), some (V.ref a), some (V.ref pb), some (V.ref o), some (V.int (0 + c)), some (V.int ((turns z b' (wordMo one u) m).1 + ((0 : Nat) : Int))), none, some (V.int (turns z b' (wordMo one u) m).1), some (V.int (turns z b' (wordMo one u) m).2)] = _
      rw [Int.zero_add]
    · rintro σ H' ⟨_, h1'⟩
      obtain ⟨x, rfl, l6, k6⟩ := h1' one1
      exact ⟨_, rfl, q H' ((Kept.of (s13.trans s4)).trans k6) l6⟩
end
end Pen

/-! the walk of great.py: Looking.in_word, drawn_often -/
namespace Pen
open PySem L2
section
variable {P : Program} {w : World} {K : PySem.W.Frag} {mg : Str → Option Value} {base : Heap}
theorem scInWord : FnScope ["self", "word", "stroke", "total", "here", "deed", "seen"] ["self", "word", "stroke"] (defScope sInWord) := ⟨rfl, rfl, rfl, by decide +kernel, rfl, by decide +kernel, by decide +kernel⟩
theorem ok_inWord1 (T : Tx K mg) (n : Nat) (G : FnOk P w K mg base CX0 (3 * n + 7) T.inTimes.f T.inTimes.fd ["self", "deed", "stroke"] (spInTimes K T.C n)) :
    FnOk P w K mg base CX0 (3 * n + 8) T.inWord.f T.inWord.fd ["self", "word", "stroke"] (spInWord K T.C (n + 1)) := by
  refine T.inWord.F.ok scInWord (fun vs H Q E h => ?_) (fun cdv A outer s H vs Q E hr h => ?_)
  · obtain ⟨p, a, t, W, s, c, j, k, rfl, _⟩ := h
    rfl
  obtain ⟨p, a, t, W, z, c, j, k, rfl, hl, ⟨ps, ha, hw⟩, hok, hdeep, ht, hc, hk, q⟩ := h
  refine ⟨_, pss_cons (ps_set (i := 3) scInWord.nd rfl (.inl rfl) pe_int)
    (pss_cons (ps_set (i := 4) scInWord.nd rfl (.inl rfl) (pe_glob (v := .ref T.unmoved) (by rfl) T.gUnmoved rfl))
    (pss_cons (ps_for PassesOwn.never rfl (pi_tup (pv 1)) (pg_name (i := 5) scInWord.nd rfl (.inl rfl))
      (pss_cons (ps_set (i := 6) scInWord.nd rfl (.inl rfl) (T.carried.cl (ok_carried T) hr (pa_cons (T.undone.cl (ok_undone T) hr (pa_cons (pv 4) pa_nil)) (pa_cons (pv 2) pa_nil))))
      (C8.pss_cut (ps_if (PW.pt (pw_and (pt_cmpR op_eq (vi 5 0) pe_str (nomark _))
            (pw_and (pt_cmpR (op_eqD hr.units) (pe_slice sl_tup (pv 6) (po_some pe_int) po_none) (pe_tup (pa_cons pe_int (pa_cons pe_int pa_nil))) (nomark _))
              (pw_and1 (pt_chain op_le op_lt pe_int (vi 6 0) (vi 5 1))))))
          (pss_one (ps_set (i := 3) scInWord.nd rfl (.inl rfl) (pe_op op_add (pv 3) pe_int)))
          (pss_one (ps_if (pt_cmpR op_eq (vi 5 0) pe_str (nomark _)) (pss_one (ps_set (i := 3) scInWord.nd rfl (.inl rfl) (pe_op op_add (pv 3) (T.inTimes.cl T.cl G hr (pv 0) (pa_cons (pv 5) (pa_cons (pv 6) pa_nil)))))) pss_nil)))
      (pss_one (ps_set (i := 4) scInWord.nd rfl (.inl rfl) (T.both.cl (ok_both T) hr (pa_cons (pv 4) (pa_cons (T.motion.cl (ok_motion T (n + 1)) hr (pa_cons (pe_tup (pa_cons (pv 5) pa_nil)) pa_nil)) pa_nil))))))))
    (pss_one (ps_ret (pv 3))))), ?_⟩
  refine ⟨_, rfl, a, rfl, ⟨_, ha⟩, for_tup (K := K) (a := a) (xs := ps.map V.ref)
    (fun i σ H' => ∃ (tot c1 : Int) (j1 k1 : Nat) (h : Addr) (m : Mo) (x y : Option V) (U : Word), σ = [some (.ref p), some (.ref a), some (.ref t), some (.int tot), some (.ref h), x, y] ∧
      SqT K H' h (moV m) ∧ AreDeeds K H' U (ps.drop i) ∧ WordOk U ∧ wordDeep U < n + 1 ∧ CDs U m z c1 k1 ∧ tot + c1 = c ∧ j1 + k1 = j + k ∧ LookAt T.C H' p j1 ∧ Kept p H H')
    ⟨0, c, j, k, T.unmoved, one, none, none, W, rfl, T.kUnmoved H, hw, hok, hdeep, hc, Int.zero_add _, rfl, hl, Kept.refl _ _⟩
    (fun i σ H' _ ⟨_, _, _, _, _, _, _, _, _, _, _, _, _, _, _, _, _, _, kp⟩ => (hl.tt kp : TT K H H') _ _ ha) ?_ ?_⟩
  · rintro i x0 σ H' hi ⟨tot, c1, j1, k1, h, m, x, y, U, rfl, hh, hU, okU, dU, hcd, ec, ek, l', kp⟩
    obtain ⟨d, u, pd, rfl, rfl, hd, hu⟩ := next_deed hU hi
    unfold WordOk at okU
    rw [wordDeep] at dU
    have tH : TT K H H' := hl.tt kp
    refine ⟨_, rfl, h, m, rfl, hh, fun H1 o s1 e1 => ?_⟩
    refine ⟨_, rfl, o, t, undo m, z, rfl, tupAt e1, Same.tup s1 (tH _ _ ht), fun H2 v s2 e2 => ?_⟩
    have s12 := s1.trans s2
    have t2 : TT K H' H2 := Same.tt s12
    have l2 := l'.same s12
    have hd2 := IsDeed.tt t2 d hd
    obtain ⟨ca, ka, cb, kb, e_c, e_k, hrest⟩ : ∃ ca ka cb kb, c1 = ca + cb ∧ k1 = ka + kb ∧ CDs u (comp m (deedMo d)) z cb kb := by
      cases hcd with
      | @go _ _ _ _ c' _ h => exact ⟨_, 0, c', k1, rfl, (Nat.zero_add _).symm, h⟩
      | @jump _ _ _ _ c' k' h => exact ⟨0, 0, c1, k1, (Int.zero_add _).symm, (Nat.zero_add _).symm, h⟩
      | @turn _ _ _ _ c' k' h => exact ⟨0, 0, c1, k1, (Int.zero_add _).symm, (Nat.zero_add _).symm, h⟩
      | @times _ _ _ _ _ c' k' c2 k2 h1 h => exact ⟨c', k', c2, k2, rfl, rfl, h⟩
    refine ⟨fun σ' H'' => ∃ (tot' cr : Int) (j' kr : Nat), σ' = [some (.ref p), some (.ref a), some (.ref t), some (.int tot'), some (.ref h), some (.ref pd), some (.ref v)] ∧
      CDs u (comp m (deedMo d)) z cr kr ∧ tot' + cr = c ∧ j' + kr = j + k ∧ LookAt T.C H'' p j' ∧ Kept p H' H'', ?_, ?_⟩
    · clear hrest e_c e_k
      cases hcd with
      | @go g _ _ _ c' _ hcd =>
        unfold IsDeed at hd2
        refine ⟨pd, _, _, rfl, hd2, rfl, rfl, _, rfl, iteYes rfl ?_⟩
        refine ⟨_, rfl, 1, rfl, v, _, rfl, tupAt e2, cut3_not _ _ _, fun r hr' => ?_⟩
        have s3 := same_new hr' (.tup (cutV [V.int (carry (undo m) z).x, V.int (carry (undo m) z).y, V.int (carry (undo m) z).w] (some 1) none))
        refine ⟨sz, fun r2 hr2 => ?_⟩
        have s4 := same_new hr2 (.tup [V.int 0, V.int 0])
        have s34 := s3.trans s4
        refine ⟨_, _, dpT [(carry (undo m) z).y, (carry (undo m) z).w] (Same.tup s4 (tupAt upd_same)), dpT [0, 0] (tupAt upd_same), shapedT _, shapedT _, _, rfl, ?_⟩
        rw [eqvT]
        have kp4 : ∀ {b : Prop}, Kept p H' (upd (upd H2 r (.tup (cutV [V.int (carry (undo m) z).x, V.int (carry (undo m) z).y, V.int (carry (undo m) z).w] (some 1) none))) r2 (.tup [V.int 0, V.int 0])) := Kept.of (s12.trans s34)
        have l4 := l2.same s34
        have pd4 := Same.tup s34 hd2
        have v4 := Same.tup s34 (tupAt (K := K) e2)
        refine ite2 (fun c0 => ?_) (fun c0 => ?_)
        · have e0 : [(carry (undo m) z).y, (carry (undo m) z).w] = [(0 : Int), 0] := of_decide_eq_true c0
          injection e0 with y0 e0
          injection e0 with w0 _
          refine ⟨v, _, _, rfl, v4, rfl, _, _, rfl, rfl, _, rfl, ite2 (fun c1 => ?_) (fun c1 => ?_)⟩
          · have x0 : 0 ≤ (carry (undo m) z).x := of_decide_eq_true c1
            refine ⟨pd, _, _, rfl, pd4, rfl, _, _, rfl, rfl, _, rfl, ite2 (fun c2 => ?_) (fun c2 => ?_)⟩
            · have x1 : (carry (undo m) z).x < g := of_decide_eq_true c2
              have hh' : hit g (carry (undo m) z) := ⟨⟨y0, w0⟩, x0, x1⟩
              rw [if_pos hh'] at ec
              exact ⟨_, rfl, _, _, rfl, rfl, tot + 1, c', j1, k1, rfl, hcd, by omega, ek, l4, kp4 (b := True)⟩
            · have x1 : ¬ (carry (undo m) z).x < g := fun q => c2 (decide_eq_true q)
              have hh' : ¬ hit g (carry (undo m) z) := fun q => x1 q.2.2
              rw [if_neg hh'] at ec
              refine ⟨pd, _, _, rfl, pd4, rfl, rfl, _, rfl, iteNo go_times ⟨tot, c', j1, k1, rfl, hcd, by omega, ek, l4, kp4 (b := True)⟩⟩
          · have x0 : ¬ 0 ≤ (carry (undo m) z).x := fun q => c1 (decide_eq_true q)
            have hh' : ¬ hit g (carry (undo m) z) := fun q => x0 q.2.1
            rw [if_neg hh'] at ec
            refine ⟨_, rfl, iteF ⟨pd, _, _, rfl, pd4, rfl, rfl, _, rfl, iteNo go_times ⟨tot, c', j1, k1, rfl, hcd, by omega, ek, l4, kp4 (b := True)⟩⟩⟩
        · have e0 : ¬ [(carry (undo m) z).y, (carry (undo m) z).w] = [(0 : Int), 0] := fun q => c0 (decide_eq_true q)
          have hh' : ¬ hit g (carry (undo m) z) := fun q => e0 (by rw [q.1.1, q.1.2])
          rw [if_neg hh'] at ec
          refine iteF ⟨pd, _, _, rfl, pd4, rfl, rfl, _, rfl, iteNo go_times ⟨tot, c', j1, k1, rfl, hcd, by omega, ek, l4, kp4 (b := True)⟩⟩
      | @jump g _ _ _ _ _ hcd =>
        unfold IsDeed at hd2
        refine ⟨pd, _, _, rfl, hd2, rfl, rfl, _, rfl, iteNo jump_go ?_⟩
        exact iteF ⟨pd, _, _, rfl, hd2, rfl, rfl, _, rfl, iteNo jump_times ⟨tot, c1, j1, k1, rfl, hcd, ec, ek, l2, Kept.of s12⟩⟩
      | @turn g _ _ _ _ _ hcd =>
        unfold IsDeed at hd2
        refine ⟨pd, _, _, rfl, hd2, rfl, rfl, _, rfl, iteNo turn_go ?_⟩
        exact iteF ⟨pd, _, _, rfl, hd2, rfl, rfl, _, rfl, iteNo turn_times ⟨tot, c1, j1, k1, rfl, hcd, ec, ek, l2, Kept.of s12⟩⟩
      | @times g u' _ _ _ c' k' c2 k2 ht' hcd =>
        have hd3 := hd2
        unfold IsDeed at hd2
        obtain ⟨b, hp2, _⟩ := hd2
        rw [deedDeep] at dU
        obtain ⟨dx, hpl⟩ := id l2
        refine ⟨pd, _, _, rfl, hp2, rfl, rfl, _, rfl, iteNo times_go ?_⟩
        refine iteF ⟨pd, _, _, rfl, hp2, rfl, rfl, _, rfl, iteYes rfl ⟨_, rfl, _, rfl, p, dx, _, rfl, hpl, lk_no _ (by decide +kernel), _, rfl, _, rfl, p, pd, v, g, u', carry (undo m) z, c', j1, k', rfl, l2, hd3, okU.1, by omega, tupAt e2, ht', by omega, fun H3 k3 l3 => ?_⟩⟩
        refine ⟨_, _, rfl, rfl, tot + c', c2, j1 + k', k2, rfl, hcd, by omega, by omega, l3, (Kept.of s12).trans k3⟩
    · rintro σ' H3 ⟨tot', cr, j', kr, rfl, hcr, ec', ek', l3, k3⟩
      have t3 : TT K H' H3 := l'.tt k3
      refine ⟨_, rfl, _, rfl, sz, fun c hc => ?_⟩
      have s4 := same_new hc (.tup [V.ref pd])
      have t4 := t3.trans (Same.tt s4)
      refine ⟨c, .cons d .nil, rfl, alone (IsDeed.tt t4 d hd) (tupAt upd_same), alone_ok okU.1, alone_deep (by omega), fun H5 q5 s5 e5 => ?_⟩
      rw [alone_mo] at e5
      have t5 := t4.trans (Same.tt s5)
      refine ⟨h, q5, m, deedMo d, rfl, t5 _ _ hh, tupAt e5, fun H6 r s6 e6 => ?_⟩
      have s46 := s4.trans (s5.trans s6)
      exact ⟨tot', cr, j', kr, r, _, _, _, u, rfl, tupAt e6, AreDeeds.tt (t5.trans (Same.tt s6)) u hu, okU.2, by omega, hcr, ec', ek', l3.same s46, kp.trans (k3.trans (Kept.of s46))⟩
  · rintro σ H' ⟨tot, c1, j1, k1, h, m, x, y, U, rfl, hh, hU, okU, dU, hcd, ec, ek, l', kp⟩
    have eU := last_deed hU
    subst eU
    cases hcd with
    | nil =>
      have e1 : tot = c := by omega
      have e2 : j1 = j + k := by omega
      subst e1 e2
      exact ⟨_, rfl, q H' kp l'⟩
theorem ok_inWord (T : Tx K mg) : ∀ n : Nat, FnOk P w K mg base CX0 (3 * n + 5) T.inWord.f T.inWord.fd ["self", "word", "stroke"] (spInWord K T.C n)
  | 0 => ok_none fun vs H Q E h => by
    obtain ⟨_, _, _, _, _, _, _, _, _, _, _, _, h, _⟩ := h
    exact absurd h (Nat.not_lt_zero _)
  | n + 1 => ok_inWord1 T n (ok_inTimes T n (ok_doing T n (ok_inWord T n)))

/-! ### drawn_often -/
def spDrawn (K : PySem.W.Frag) : Sp := fun vs H Q _ => ∃ (a t : Addr) (W : Word) (s : Stk) (c : Int) (k : Nat), vs = [.ref a, .ref t] ∧ IsWord K H W a ∧ WordOk W ∧ wordDeep W ≤ 4 ∧ wordSize W ≤ 30 ∧ SqT K H t (stkV s) ∧ (s.w = 0 ∨ s.w = 1) ∧
  CDs W one s c k ∧ k ≤ 1000 ∧ ∀ H', Same H H' → Q (.int c) H'
theorem scDrawn : FnScope ["word", "stroke"] ["word", "stroke"] (defScope sDrawn) := ⟨rfl, rfl, rfl, by decide +kernel, rfl, by decide +kernel, by decide +kernel⟩
theorem ok_drawn (T : Tx K mg) : FnOk P w K mg base CX0 23 T.drawn.f T.drawn.fd ["word", "stroke"] (spDrawn K) := by
  refine T.drawn.F.ok scDrawn (fun vs H Q E h => ?_) (fun cdv A outer s H vs Q E hr h => ?_)
  · obtain ⟨a, t, W, s, c, k, rfl, _⟩ := h
    rfl
  obtain ⟨a, t, W, z, c, k, rfl, hw, hok, hdeep, hsz, ht, hz, hc, hk, q⟩ := h
  have GI : FnOk P w K mg base CX0 1 T.init.f T.init.fd ["self"] (spInit T.C) := ok_init T
  refine ⟨_, pss_cons (ps_expr (T.deedsIn.cl (ok_deedsIn T) hr (pa_cons (pv 0) pa_nil)))
    (pss_cons (ps_if (pt_cmpR op_notIn_seq (vi 1 2) (pe_tup (pa_cons pe_int (pa_cons pe_int pa_nil))) (by rfl)) pss_never pss_nil)
    (pss_one (ps_ret (T.inWord.cl T.cl (ok_inWord T 5) hr (pe_make0 T.maker GI (hr.mono (by decide)) rfl T.mgC T.init.b .nil pass0) (pa_cons (pv 0) (pa_cons (pv 1) pa_nil)))))), ?_⟩
  refine ⟨_, rfl, a, W, rfl, hw, hok, hdeep, hsz, ?_⟩
  refine ⟨t, _, _, rfl, ht, rfl, sz, fun b hb => ?_⟩
  have s1 := same_new hb (.tup [V.int 0, V.int 1])
  refine ⟨b, _, rfl, .inr (tupAt upd_same), rfl, rfl, false, ?_, iteF ?_⟩
  · rcases hz with e | e
    · show V.bl (!inV (V.int z.w) [V.int 0, V.int 1]) = V.bl false
      rw [e]
      rfl
    · show V.bl (!inV (V.int z.w) [V.int 0, V.int 1]) = V.bl false
      rw [e]
      rfl
  intro x dx nx ndx nex
  have s2 : Same H (upd (upd (upd H b (.tup [V.int 0, V.int 1])) dx (.own x)) x (.ins T.C dx [])) := fun o h e => by
    have e1 := s1 _ _ e
    rw [upd_ne (ne_of_none e1 nx), upd_ne (ne_of_none e1 ndx)]
    exact e1
  refine ⟨x, dx, rfl, upd_same, fun H3 k3 l3 => ⟨rfl, ?_⟩⟩
  have hx : H x = none := s1.free nx
  have s3 : Same H H3 := fun o h e => k3 _ _ (ne_of_none e hx) (s2 _ _ e)
  obtain ⟨dx3, h3⟩ := id l3
  refine ⟨x, dx3, _, rfl, h3, lk_no _ (by decide +kernel), _, rfl, _, rfl, x, a, t, W, z, c, 0, k, rfl, l3, IsWord.tt (Same.tt s3) hw, hok, by omega, Same.tup s3 ht, hc, by omega, fun H4 k4 _ => ?_⟩
  exact q H4 fun o h e => k4 _ _ (ne_of_none e hx) (s3 _ _ e)
end
end Pen

/-! the walk of the law's helpers -/
namespace Pen
open PySem L2
/-- a list's item, its name in slot i, its place j -/
def tLI (K : PySem.W.Frag) (i j : Nat) : TE := fun σ H Q => ∃ a xs v, σ[i]? = some (some (.ref a)) ∧ SqL K H a xs ∧ xs[j]? = some v ∧ Q v H
section
variable {X : Cx}
theorem li (i j : Nat) {x : Str} {p p2 pos : Pos} {k} (hN : X.N[i]? = some x := by rfl) (hv : Vis X.env.scope x := by first | exact Or.inl rfl | exact Or.inr (Or.inl rfl) | exact Or.inr (Or.inr rfl))
    (hd : (x == ("__debug__" : Str)) = false := by decide) (hcd : (x == ("__classdict__" : Str)) = false := by decide) :
    PE X (.Subscript (.Name x p) (.Constant (.int (j : Int)) k p2) pos) (tLI X.K i j) := by
  refine ⟨fun pins s σ H Q I h => ?_⟩
  obtain ⟨a, xs, v, h1, h2, h3, q⟩ := h
  exact (pe_ix ix_list (pv i hN hv hd hcd) pe_int (fun _ _ => rfl)).run pins s σ H Q I ⟨_, h1, a, xs, _, v, rfl, rfl, h2, atI_nat h3, q⟩
end
section
variable {P : Program} {w : World} {K : PySem.W.Frag} {mg : Str → Option Value} {base : Heap}

/-! ### _law_state -/
def spState (K : PySem.W.Frag) : Sp := fun vs H Q _ => ∃ (a : Addr) (ns : List Int), vs = [.ref a, .int 0] ∧ SqL K H a (ns.map V.int) ∧ ∀ (H' : Hp) (l : Addr) (x y : Int), Same H H' → H' l = some (.lst [.int x, .int y]) → 0 ≤ x → Q (.ref l) H'
theorem scState : FnScope ["script", "k", "cell"] ["script", "k"] (defScope sState) := ⟨rfl, rfl, rfl, by decide +kernel, rfl, by decide +kernel, by decide +kernel⟩
theorem ok_state (T : Tx K mg) : FnOk P w K mg base CX0 1 T.state.f T.state.fd ["script", "k"] (spState K) := by
  refine T.state.F.ok scState (fun vs H Q E h => ?_) (fun cdv A outer s H vs Q E hr h => ?_)
  · obtain ⟨a, ns, rfl, _⟩ := h
    rfl
  obtain ⟨a, ns, rfl, ha, q⟩ := h
  refine ⟨_, pss_cons (ps_set (i := 2) scState.nd rfl (.inl rfl) pe_int)
    (C8.pss_cut (ps_if (pt_cmpR op_lt (pv 1) (pe_callB call_len_seq (by rfl) T.zLen PySem.boot_len (pa_cons (pv 0) pa_nil)) (nomark _)) (pss_one (ps_set (i := 2) scState.nd rfl (.inl rfl) (pe_ix ix_list (pv 0) (pv 1) (fun _ _ => rfl)))) pss_nil)
    (pss_cons (ps_if (pt_cmpR op_ge (pv 2) (pe_op op_pow pe_int pe_int) (nomark _)) (pss_one (ps_ret (pe_lst (pa_cons (pe_op op_sub (pv 2) (pe_op op_pow pe_int pe_int)) (pa_cons pe_int pa_nil))))) pss_nil)
    (pss_one (ps_ret (pe_lst (pa_cons (pe_op op_mod (pe_op op_add (pv 2) (pe_op op_mul pe_int (pv 1))) pe_int) (pa_cons pe_int pa_nil))))))), ?_⟩
  refine ⟨fun σ' H' => H' = H ∧ ∃ c : Int, σ' = [some (.ref a), some (.int 0), some (.int c)], ?_, ?_⟩
  · refine ⟨_, rfl, _, rfl, a, _, rfl, .inl ha, _, _, rfl, rfl, _, rfl, ite2 (fun c => ?_) (fun c => ⟨rfl, 0, rfl⟩)⟩
    cases ns with
    | nil => exact absurd c (by decide)
    | cons n r => exact ⟨_, rfl, _, rfl, a, _, 0, .int n, rfl, rfl, ha, atI_nat (j := 0) rfl, rfl, n, rfl⟩
  · rintro σ' H' ⟨rfl, c, rfl⟩
    have pw : CPow 10 18 := ⟨by decide, by decide, by decide⟩
    refine ⟨_, rfl, _, _, rfl, rfl, pw, _, _, rfl, rfl, _, rfl, ite2 (fun h => ?_) (fun h => ?_)⟩
    · have h1 : (10 : Int) ^ (18 : Int).toNat ≤ c := of_decide_eq_true h
      refine ⟨_, rfl, _, _, rfl, rfl, pw, _, _, rfl, rfl, sz, fun l hl => ?_⟩
      exact q _ l _ _ (same_new hl _) upd_same (Int.sub_nonneg_of_le h1)
    · refine ⟨_, rfl, _, rfl, _, _, rfl, rfl, .inl ⟨by decide, by decide⟩, _, _, rfl, rfl, _, _, rfl, rfl, (by show (0 : Int) < 2147483647; decide), sz, fun l hl => ?_⟩
      exact q _ l _ _ (same_new hl _) upd_same (Int.emod_nonneg _ (by decide))

/-! ### _law_take -/
def most : Int := 10000000000000000000
def spTake : Sp := fun vs H Q _ => ∃ (l : Addr) (x y n : Int), vs = [.ref l, .int n] ∧ H l = some (.lst [.int x, .int y]) ∧ 0 ≤ x ∧ 1 ≤ n ∧ n ≤ most ∧
  ∀ (H' : Hp) (f x' y' : Int), Kept l H H' → H' l = some (.lst [.int x', .int y']) → 0 ≤ x' → 0 ≤ f → f < n → Q (.int f) H'
theorem kept_upd {H : Hp} {l : Addr} {o : HO} : Kept l H (upd H l o) := fun b u n e => by
  rw [upd_ne n]
  exact e
theorem scTake : FnScope ["state", "many", "found", "mixed"] ["state", "many"] (defScope sTake) := ⟨rfl, rfl, rfl, by decide +kernel, rfl, by decide +kernel, by decide +kernel⟩
theorem ok_take (T : Tx K mg) : FnOk P w K mg base CX0 1 T.take.f T.take.fd ["state", "many"] spTake := by
  refine T.take.F.ok scTake (fun vs H Q E h => ?_) (fun cdv A outer s H vs Q E hr h => ?_)
  · obtain ⟨l, x, y, n, rfl, _⟩ := h
    rfl
  obtain ⟨l, x, y, n, rfl, hl, hx, h1, hn, q⟩ := h
  refine ⟨_, C8.pss_cut (ps_if (PW.pt (pw_and (pt_cmpR op_eq (li 0 1) pe_int (nomark _)) (pw_and1 (pt_cmpR op_gt (li 0 0) pe_int (nomark _)))))
      (pss_cons (ps_set (i := 2) scTake.nd rfl (.inl rfl) (pe_op op_mod (li 0 0) (pv 1))) (pss_cons (ps_asg (pe_op op_fdivW (li 0 0) (pv 1)) (pg_sub (pv 0) pe_int set_list)) (pss_one (ps_ret (pv 2))))) pss_nil)
    (pss_cons (ps_asg pe_int (pg_sub (pv 0) pe_int set_list))
    (pss_cons (ps_asg (pe_op op_mod (pe_op op_add (pe_op op_mul (li 0 0) pe_int) pe_int) pe_int) (pg_sub (pv 0) pe_int set_list))
    (pss_cons (ps_set (i := 3) scTake.nd rfl (.inl rfl) (pe_op op_mod (pe_op op_add (pe_op op_mul (li 0 0) (li 0 0)) (pe_op op_mul pe_int (li 0 0))) pe_int))
    (pss_cons (ps_set (i := 3) scTake.nd rfl (.inl rfl) (pe_op op_mod (pe_op op_add (pe_op op_mul (pv 3) (pv 3)) (pe_op op_mul pe_int (pv 3))) pe_int))
    (pss_one (ps_ret (pe_op op_mod (pe_op op_fdiv (pv 3) pe_int) (pv 1)))))))), ?_⟩
  have hn2 : n.natAbs < 2 ^ 64 := by
    unfold most at hn
    omega
  refine ⟨fun σ' H' => H' = H ∧ σ' = [some (.ref l), some (.int n), none, none], ?_, ?_⟩
  · refine ⟨l, _, _, rfl, lstAt hl, rfl, rfl, _, rfl, ite2 (fun c => ?_) (fun c => iteF ⟨rfl, rfl⟩)⟩
    refine ⟨l, _, _, rfl, lstAt hl, rfl, _, _, rfl, rfl, _, rfl, ite2 (fun c2 => ?_) (fun c2 => ⟨rfl, rfl⟩)⟩
    refine ⟨l, _, _, rfl, lstAt hl, rfl, _, rfl, _, _, rfl, rfl, (show (0 : Int) < n by omega), ?_⟩
    refine ⟨l, _, _, rfl, lstAt hl, rfl, _, rfl, _, _, rfl, rfl, wide_div (by omega) hn2 (by decide) (by decide), ?_⟩
    refine ⟨_, rfl, l, _, 0, 0, rfl, rfl, hl, rfl, ?_⟩
    refine ⟨_, rfl, q _ _ (x / n) y kept_upd upd_same (Int.ediv_nonneg hx (by omega)) (Int.emod_nonneg _ (by omega)) (Int.emod_lt_of_pos _ (by omega))⟩
  · rintro σ' H' ⟨rfl, rfl⟩
    refine ⟨_, rfl, l, _, 1, 1, rfl, rfl, hl, rfl, ?_⟩
    refine ⟨l, _, _, rfl, lstAt upd_same, rfl, _, _, rfl, rfl, .inr ⟨by decide, by decide⟩, _, _, rfl, rfl, _, _, rfl, rfl, (by show (0 : Int) < 2147483647; decide), ?_⟩
    refine ⟨_, rfl, l, _, 0, 0, rfl, rfl, upd_same, rfl, ?_⟩
    obtain ⟨z, hz⟩ : ∃ z : Int, (x * 48271 + 69621) % 2147483647 = z := ⟨_, rfl⟩
    have z0 : 0 ≤ z ∧ z < 2147483647 := by omega
    have eh : upd (upd H' l (.lst (List.set [V.int x, V.int y] 1 (V.int 0)))) l (.lst (List.set (List.set [V.int x, V.int y] 1 (V.int 0)) 0 (V.int ((x * 48271 + 69621) % 2147483647)))) = upd (upd H' l (.lst (List.set [V.int x, V.int y] 1 (V.int 0)))) l (.lst [V.int z, V.int 0]) := by
      rw [hz]
      rfl
    show (tSeq _ _) _ _ (upd (upd H' l (.lst (List.set [V.int x, V.int y] 1 (V.int 0)))) l (.lst (List.set (List.set [V.int x, V.int y] 1 (V.int 0)) 0 (V.int ((x * 48271 + 69621) % 2147483647)))))
    rw [eh]
    refine ⟨l, _, _, rfl, lstAt upd_same, rfl, l, _, _, rfl, lstAt upd_same, rfl, _, _, rfl, rfl, .inl ⟨by omega, by omega⟩, l, _, _, rfl, lstAt upd_same, rfl, _, _, rfl, rfl, .inl ⟨by decide, by decide⟩, _, _, rfl, rfl, _, _, rfl, rfl, (by show (0 : Int) < 2147483629; decide), ?_⟩
    obtain ⟨u, hu⟩ : ∃ u : Int, (z * z + 16807 * z) % 2147483629 = u := ⟨_, rfl⟩
    have u0 : 0 ≤ u ∧ u < 2147483629 := by
      rw [← hu]
      exact ⟨Int.emod_nonneg _ (by decide), Int.emod_lt_of_pos _ (by decide)⟩
    refine ⟨_, rfl, _, rfl, _, _, rfl, rfl, .inl ⟨?_, ?_⟩, _, rfl, _, _, rfl, rfl, .inl ⟨by decide, by decide⟩, _, _, rfl, rfl, _, _, rfl, rfl, (by show (0 : Int) < 2147483587; decide), ?_⟩
    · show -(2 ^ 64) < (z * z + 16807 * z) % 2147483629
      omega
    · show (z * z + 16807 * z) % 2147483629 < 2 ^ 64
      omega
    refine ⟨_, rfl, _, _, rfl, rfl, ⟨by decide, by decide⟩, _, rfl, _, _, rfl, rfl, (show (0 : Int) < n by omega), ?_⟩
    exact q _ _ z 0 (kept_upd.trans kept_upd) upd_same z0.1 (Int.emod_nonneg _ (by omega)) (Int.emod_lt_of_pos _ (by omega))

/-! ### _law_whole, _law_is_row -/
def spWhole : Sp := fun vs H Q _ => ∃ n : Int, vs = [.int n] ∧ Q (.bl true) H
theorem scWhole : FnScope ["found"] ["found"] (defScope sWhole) := ⟨rfl, rfl, rfl, by decide +kernel, rfl, by decide +kernel, by decide +kernel⟩
theorem ok_whole (T : Tx K mg) : FnOk P w K mg base CX0 1 T.whole.f T.whole.fd ["found"] spWhole := by
  refine T.whole.F.ok scWhole (fun vs H Q E h => ?_) (fun cdv A outer s H vs Q E hr h => ?_)
  · obtain ⟨n, rfl, _⟩ := h
    rfl
  obtain ⟨n, rfl, q⟩ := h
  refine ⟨_, pss_one (ps_ret (pe_and (pe_callB call_isi (by rfl) T.zIsi b_isi (pa_cons (pv 0) (pa_cons (pe_bltn (v := .ty "int") (by rfl) T.zInt b_int rfl) pa_nil)))
    (pe_one (pe_not (pe_callB call_isi (by rfl) T.zIsi b_isi (pa_cons (pv 0) (pa_cons (pe_bltn (v := .ty "bool") (by rfl) T.zBool b_bool rfl) pa_nil))))))), ?_⟩
  exact ⟨_, rfl, _, _, _, _, _, rfl, .ty "int", .base (.int n), kInt, true, rfl, iteT ⟨_, rfl, _, _, _, _, _, rfl, .ty "bool", .base (.int n), kIntBool, false, rfl, q⟩⟩
def spIsRow (K : PySem.W.Frag) : Sp := fun vs H Q _ => ∃ (p q : Addr) (b : Box), vs = [.ref p, .ref q] ∧ SqT K H p (boxV b) ∧ SqT K H q (boxV b) ∧ ∀ H', Same H H' → Q (.bl true) H'
theorem b_all : bootBuiltins "all" = some (.builtin "all") := by decide +kernel
theorem scIsRow : FnScope ["found", "due", "number"] ["found", "due"] (defScope sIsRow) := ⟨rfl, rfl, rfl, by decide +kernel, rfl, by decide +kernel, by decide +kernel⟩
theorem ok_isRow (T : Tx K mg) : FnOk P w K mg base CX0 2 T.isRow.f T.isRow.fd ["found", "due"] (spIsRow K) := by
  refine T.isRow.F.ok scIsRow (fun vs H Q E h => ?_) (fun cdv A outer s H vs Q E hr h => ?_)
  · obtain ⟨p, q, b, rfl, _⟩ := h
    rfl
  obtain ⟨p, q, b, rfl, hp, hq, g⟩ := h
  refine ⟨_, pss_cons (ps_if (PW.pt (pw_or (pt_cmpR op_isN (pv 1) pe_non (nomark _)) (pw_or1 (pt_cmpR op_isN (pv 0) pe_non (nomark _))))) pss_never pss_nil)
    (pss_one (ps_ret (pe_and (pe_callB call_isi (by rfl) T.zIsi b_isi (pa_cons (pv 0) (pa_cons (pe_bltn (v := .ty "tuple") (by rfl) T.zTuple b_tuple rfl) pa_nil)))
      (pe_and (pe_cmpR (op_eqD hr.units) (pv 0) (pv 1) (nomark _))
      (pe_one (pe_callB (cr_all rfl) (by rfl) T.zAll b_all (pa_cons
        (pe_lc (own := [("number", 2)]) (g := gName 2) (tt := tYes) rfl scIsRow.nd (pi_tup (pv 0)) (blkOk_by (N := ["found", "due", "number"]) (sc := defScope sIsRow) (by decide +kernel))
          (fun _ _ _ _ _ => pg_name (i := 2) scIsRow.nd rfl (.inl rfl)) (fun _ _ _ _ _ => pts_nil) (fun _ _ _ _ _ => T.whole.cl (ok_whole T) hr (pa_cons (pv 2) pa_nil))) pa_nil))))))), ?_⟩
  refine ⟨_, rfl, rfl, _, rfl, iteNo (fun z => nomatch z) ⟨_, rfl, rfl, _, rfl, iteNo (fun z => nomatch z) ?_⟩⟩
  refine ⟨_, rfl, _, _, _, _, _, rfl, .ty "tuple", tyT hp, kTup, true, rfl, iteT ?_⟩
  refine ⟨_, rfl, _, rfl, _, _, dpT [b.a, b.b, b.c, b.d] hp, dpT [b.a, b.b, b.c, b.d] hq, shapedT _, shapedT _, true, ?_, iteT ?_⟩
  · rw [eqvT, decide_eq_true rfl]
  refine ⟨_, rfl, p, rfl, ⟨_, hp⟩, fun D hD => ?_⟩
  refine lc_tup (K := K) (a := p) (xs := boxV b) (fun i H' => Same H H' ∧ H' D = some (.lst ((List.replicate i true).map V.bl)))
    ⟨same_new hD _, upd_same⟩ (fun i H' _ ⟨sm, _⟩ => Same.tup sm hp) ?_ ?_
  · rintro i x H' hi ⟨sm, hd⟩
    have hil : i < 4 := (List.getElem?_eq_some_iff.mp hi).1
    obtain ⟨n, rfl⟩ : ∃ n, x = V.int n := by
      match i, hi with
      | 0, hi => exact ⟨_, (Option.some.inj hi).symm⟩
      | 1, hi => exact ⟨_, (Option.some.inj hi).symm⟩
      | 2, hi => exact ⟨_, (Option.some.inj hi).symm⟩
      | 3, hi => exact ⟨_, (Option.some.inj hi).symm⟩
    refine ⟨rfl, _, rfl, n, rfl, _, hd, ?_, fun o u e => ?_, ?_⟩
    · rw [List.length_map, List.length_replicate]
      exact small1000 (by omega)
    · rw [upd_ne (ne_of_none e hD)]
      exact sm _ _ e
    · rw [upd_same, List.replicate_succ', List.map_append]
      rfl
  · rintro H' ⟨sm, hd⟩
    exact ⟨D, List.replicate 4 true, rfl, lstAt hd, g H' sm⟩
end
end Pen

/-! the law: what its expressions give -/
namespace Pen
open PySem L2
section
variable {K : PySem.W.Frag}
theorem keptL {H H' : Hp} {l : Addr} {xs : List V} (hl : H l = some (.lst xs)) (k : Kept l H H') : TT K H H' := fun a ys h => by
  rcases h with (h | ⟨o, h⟩) | h
  · exact .inl (.inl (k _ _ (ne_of h hl (by intro q; cases q)) h))
  · exact .inl (.inr ⟨o, k _ _ (ne_of h hl (by intro q; cases q)) h⟩)
  · exact .inr h
theorem at_any {ns : List Int} {f : Int} (h0 : 0 ≤ f) (h1 : f < (ns.length : Int)) : ∃ v, v ∈ ns ∧ atI (ns.map V.int) f = some (.int v) := by
  have hk : f.toNat < ns.length := by omega
  have q : atI (ns.map V.int) ((f.toNat : Nat) : Int) = some (.int ns[f.toNat]) := atI_nat (by rw [List.getElem?_map, List.getElem?_eq_getElem hk] <;> rfl)
  rw [show ((f.toNat : Nat) : Int) = f by omega] at q
  exact ⟨_, List.getElem_mem hk, q⟩
abbrev rAddI : R2 := rI0 fun i j => .int (i + j)
abbrev rSubI : R2 := rI0 fun i j => .int (i - j)
abbrev rMulI : R2 := rI CMul fun i j => .int (i * j)
abbrev rDivI : R2 := rI CDiv fun i j => .int (i / j)
abbrev rPowI : R2 := rI CPow fun i j => .int (i ^ j.toNat)
abbrev rLtI : R2 := rI0 fun i j => .bl (decide (i < j))
/-- _law_take(state, n), n written -/
abbrev tTake (n : Int) : TE := tCall spTake [] E0 (tCons (tVar 1) (tCons (tC (.int n)) tNil))
theorem take_ok {σ : L2.St} {H : Hp} {Q : VK} {l : Addr} {x y n : Int} (h1 : σ[1]? = some (some (.ref l))) (hl : H l = some (.lst [.int x, .int y])) (hx : 0 ≤ x) (n1 : 1 ≤ n) (n2 : n ≤ most)
    (q : ∀ (H' : Hp) (f x' y' : Int), Kept l H H' → H' l = some (.lst [.int x', .int y']) → 0 ≤ x' → 0 ≤ f → f < n → Q (.int f) H') : tTake n σ H Q :=
  ⟨_, h1, l, x, y, n, rfl, hl, hx, n1, n2, q⟩
/-- 1 + _law_take(state, [4, 10 ** 9, 10 ** 19][_law_take(state, 3)]) -/
abbrev tMenu3 (K : PySem.W.Frag) : TE := tOp rAddI (tC (.int 1)) (tCall spTake [] E0 (tCons (tVar 1) (tCons (tOp (rIxL K)
  (tLst (tCons (tC (.int 4)) (tCons (tOp rPowI (tC (.int 10)) (tC (.int 9))) (tCons (tOp rPowI (tC (.int 10)) (tC (.int 19))) tNil)))) (tTake 3)) tNil)))
theorem p9 : (10 : Int) ^ (9 : Int).toNat = 1000000000 := by decide
theorem p19 : (10 : Int) ^ (19 : Int).toNat = 10000000000000000000 := by decide
theorem ep9 : (fun i j : Int => V.int (i ^ j.toNat)) 10 9 = V.int 1000000000 := congrArg V.int p9
theorem ep19 : (fun i j : Int => V.int (i ^ j.toNat)) 10 19 = V.int 10000000000000000000 := congrArg V.int p19
theorem menu3_ok {σ : L2.St} {H : Hp} {Q : VK} {l : Addr} {x y : Int} (h1 : σ[1]? = some (some (.ref l))) (hl : H l = some (.lst [.int x, .int y])) (hx : 0 ≤ x)
    (q : ∀ (H' : Hp) (n x' y' : Int), Kept l H H' → H' l = some (.lst [.int x', .int y']) → 0 ≤ x' → 1 ≤ n → n ≤ most → Q (.int n) H') : tMenu3 K σ H Q := by
  refine ⟨_, h1, _, _, rfl, rfl, ⟨by decide, by decide, by decide⟩, _, _, rfl, rfl, ⟨by decide, by decide, by decide⟩, sz, fun d hd => ?_⟩
  rw [ep9, ep19]
  have nld : l ≠ d := ne_of_none hl hd
  have s1 := same_new hd (.lst [V.int 4, V.int 1000000000, V.int 10000000000000000000])
  refine take_ok h1 (s1 _ _ hl) hx (by decide) (by decide) fun H2 f x' y' k2 l2 hx' f0 f3 => ?_
  have hd2 := k2 d _ nld.symm upd_same
  obtain ⟨v, hv, hat⟩ := at_any (ns := [4, 1000000000, 10000000000000000000]) f0 f3
  have hb : 1 ≤ v ∧ v ≤ most := by
    unfold most
    rcases List.mem_cons.mp hv with rfl | hv
    · omega
    · rcases List.mem_cons.mp hv with rfl | hv
      · omega
      · cases List.mem_singleton.mp hv
        omega
  refine ⟨d, _, f, .int v, rfl, rfl, lstAt hd2, hat, l, x', y', v, rfl, l2, hx', hb.1, hb.2, fun H3 g x'' y'' k3 l3 hx'' g0 g1 => ?_⟩
  refine ⟨_, _, rfl, rfl, q H3 _ x'' y'' (((Kept.of s1).trans k2).trans k3) l3 hx'' (by omega) (by omega)⟩
/-- 1 + _law_take(state, [3, 10 ** 9][_law_take(state, 2)]) -/
abbrev tMenu2 (K : PySem.W.Frag) : TE := tOp rAddI (tC (.int 1)) (tCall spTake [] E0 (tCons (tVar 1) (tCons (tOp (rIxL K)
  (tLst (tCons (tC (.int 3)) (tCons (tOp rPowI (tC (.int 10)) (tC (.int 9))) tNil))) (tTake 2)) tNil)))
theorem menu2_ok {σ : L2.St} {H : Hp} {Q : VK} {l : Addr} {x y : Int} (h1 : σ[1]? = some (some (.ref l))) (hl : H l = some (.lst [.int x, .int y])) (hx : 0 ≤ x)
    (q : ∀ (H' : Hp) (n x' y' : Int), Kept l H H' → H' l = some (.lst [.int x', .int y']) → 0 ≤ x' → 1 ≤ n → n ≤ 1000000000 → Q (.int n) H') : tMenu2 K σ H Q := by
  refine ⟨_, h1, _, _, rfl, rfl, ⟨by decide, by decide, by decide⟩, sz, fun d hd => ?_⟩
  rw [ep9]
  have nld : l ≠ d := ne_of_none hl hd
  have s1 := same_new hd (.lst [V.int 3, V.int 1000000000])
  refine take_ok h1 (s1 _ _ hl) hx (by decide) (by decide) fun H2 f x' y' k2 l2 hx' f0 f3 => ?_
  have hd2 := k2 d _ nld.symm upd_same
  obtain ⟨v, hv, hat⟩ := at_any (ns := [3, 1000000000]) f0 f3
  have hb : 1 ≤ v ∧ v ≤ 1000000000 := by
    rcases List.mem_cons.mp hv with rfl | hv
    · omega
    · cases List.mem_singleton.mp hv
      omega
  refine ⟨d, _, f, .int v, rfl, rfl, lstAt hd2, hat, l, x', y', v, rfl, l2, hx', hb.1, (by unfold most; omega), fun H3 g x'' y'' k3 l3 hx'' g0 g1 => ?_⟩
  refine ⟨_, _, rfl, rfl, q H3 _ x'' y'' (((Kept.of s1).trans k2).trans k3) l3 hx'' (by omega) (by omega)⟩
/-- [0, n - 1, n, -1, n // 2][_law_take(state, 5)], n in slot i -/
abbrev tMenu5 (K : PySem.W.Frag) (i : Nat) : TE := tOp (rIxL K) (tLst (tCons (tC (.int 0)) (tCons (tOp rSubI (tVar i) (tC (.int 1))) (tCons (tVar i) (tCons (tUn (rU fun i => .int (-i)) (tC (.int 1))) (tCons (tOp rDivI (tVar i) (tC (.int 2))) tNil)))))) (tTake 5)
theorem menu5_ok {σ : L2.St} {H : Hp} {Q : VK} {l : Addr} {x y n : Int} {i : Nat} (h1 : σ[1]? = some (some (.ref l))) (hi : σ[i]? = some (some (.int n))) (hl : H l = some (.lst [.int x, .int y])) (hx : 0 ≤ x)
    (q : ∀ (H' : Hp) (v x' y' : Int), Kept l H H' → H' l = some (.lst [.int x', .int y']) → 0 ≤ x' → Q (.int v) H') : tMenu5 K i σ H Q := by
  refine ⟨_, hi, _, _, rfl, rfl, _, hi, _, rfl, _, hi, _, _, rfl, rfl, ⟨by decide, by decide⟩, sz, fun d hd => ?_⟩
  have nld : l ≠ d := ne_of_none hl hd
  have s1 := same_new hd (.lst [V.int 0, V.int (n - 1), V.int n, V.int (-1), V.int (n / 2)])
  refine take_ok h1 (s1 _ _ hl) hx (by decide) (by decide) fun H2 f x' y' k2 l2 hx' f0 f5 => ?_
  have hd2 := k2 d _ nld.symm upd_same
  obtain ⟨v, _, hat⟩ := at_any (ns := [0, n - 1, n, -1, n / 2]) f0 f5
  exact ⟨d, _, f, .int v, rfl, rfl, lstAt hd2, hat, q H2 v x' y' ((Kept.of s1).trans k2) l2 hx'⟩

/-! ### the words as they are written -/
theorem areNil {H : Hp} : AreDeeds K H .nil [] := by
  unfold AreDeeds
  rfl
theorem areCons {H : Hp} {d : Deed} {w : Word} {p : Addr} {r : List Addr} (h : IsDeed K H d p) (t : AreDeeds K H w r) : AreDeeds K H (.cons d w) (p :: r) := by
  unfold AreDeeds
  exact ⟨p, r, rfl, h, t⟩
theorem isGo {H : Hp} {n : Int} {p : Addr} (h : SqT K H p [.str "go", .int n]) : IsDeed K H (.go n) p := by
  unfold IsDeed
  exact h
theorem isJump {H : Hp} {n : Int} {p : Addr} (h : SqT K H p [.str "jump", .int n]) : IsDeed K H (.jump n) p := by
  unfold IsDeed
  exact h
theorem isTurn {H : Hp} {n : Int} {p : Addr} (h : SqT K H p [.str "turn", .int n]) : IsDeed K H (.turn n) p := by
  unfold IsDeed
  exact h
theorem isTimes {H : Hp} {n : Int} {w : Word} {p b : Addr} (h : SqT K H p [.str "times", .int n, .ref b]) (t : IsWord K H w b) : IsDeed K H (.times n w) p := by
  unfold IsDeed
  exact ⟨b, h, t⟩
/-- ("times", wide, (("go", 1),)) -/
abbrev tRow : TE := tTup (tCons (tC (.str "times")) (tCons (tVar 2) (tCons (tTup (tCons (tTup (tCons (tC (.str "go")) (tCons (tC (.int 1)) tNil))) tNil)) tNil)))
theorem row_ok {σ : L2.St} {H : Hp} {Q : VK} {wide : Int} (h : σ[2]? = some (some (.int wide))) (q : ∀ H' p, Same H H' → IsDeed K H' (rowD wide) p → Q (.ref p) H') : tRow σ H Q := by
  refine ⟨_, h, sz, fun a ha => ⟨sz, fun b hb => ⟨sz, fun c hc => ?_⟩⟩⟩
  have s1 := same_new ha (.tup [V.str "go", V.int 1])
  have s2 := same_new hb (.tup [V.ref a])
  have s3 := same_new hc (.tup [V.str "times", V.int wide, V.ref b])
  refine q _ c (s1.trans (s2.trans s3)) (isTimes (tupAt upd_same) ⟨[a], Same.tup s3 (tupAt upd_same), areCons (isGo (Same.tup (s2.trans s3) (tupAt upd_same))) areNil⟩)
/-- (("times", high, (row, ("jump", 0 - wide), ("turn", 1), ("jump", step), ("turn", -1))),) -/
abbrev tDeeds : TE := tTup (tCons (tTup (tCons (tC (.str "times")) (tCons (tVar 3) (tCons (tTup (tCons (tVar 5) (tCons (tTup (tCons (tC (.str "jump")) (tCons (tOp rSubI (tC (.int 0)) (tVar 2)) tNil)))
  (tCons (tTup (tCons (tC (.str "turn")) (tCons (tC (.int 1)) tNil))) (tCons (tTup (tCons (tC (.str "jump")) (tCons (tVar 4) tNil))) (tCons (tTup (tCons (tC (.str "turn")) (tCons (tUn (rU fun i => .int (-i)) (tC (.int 1))) tNil))) tNil)))))) tNil)))) tNil)
theorem deeds_ok {σ : L2.St} {H : Hp} {Q : VK} {wide high step : Int} {r : Addr} (h2 : σ[2]? = some (some (.int wide))) (h3 : σ[3]? = some (some (.int high))) (h4 : σ[4]? = some (some (.int step))) (h5 : σ[5]? = some (some (.ref r)))
    (hr : IsDeed K H (rowD wide) r) (q : ∀ H' p, Same H H' → IsWord K H' (deedsW wide high step) p → Q (.ref p) H') : tDeeds σ H Q := by
  refine ⟨_, h3, _, h5, _, h2, _, _, rfl, rfl, sz, fun a ha => ⟨sz, fun b hb => ⟨_, h4, sz, fun c hc => ⟨_, rfl, sz, fun d hd => ⟨sz, fun e he => ⟨sz, fun f hf => ⟨sz, fun g hg => ?_⟩⟩⟩⟩⟩⟩⟩
  have s1 := same_new ha (.tup [V.str "jump", V.int (0 - wide)])
  have s2 := same_new hb (.tup [V.str "turn", V.int 1])
  have s3 := same_new hc (.tup [V.str "jump", V.int step])
  have s4 := same_new hd (.tup [V.str "turn", V.int (-1)])
  have s5 := same_new he (.tup [V.ref r, V.ref a, V.ref b, V.ref c, V.ref d])
  have s6 := same_new hf (.tup [V.str "times", V.int high, V.ref e])
  have s7 := same_new hg (.tup [V.ref f])
  have t7 := s7
  have t6 := s6.trans t7
  have t5 := s5.trans t6
  have t4 := s4.trans t5
  have t3 := s3.trans t4
  have t2 := s2.trans t3
  have t1 := s1.trans t2
  refine q _ g t1 ⟨[f], tupAt upd_same, areCons (isTimes (Same.tup t7 (tupAt upd_same)) ⟨[r, a, b, c, d], Same.tup t6 (tupAt upd_same), ?_⟩) areNil⟩
  exact areCons (IsDeed.tt (Same.tt t1) _ hr) (areCons (isJump (Same.tup t2 (tupAt upd_same))) (areCons (isTurn (Same.tup t3 (tupAt upd_same))) (areCons (isJump (Same.tup t4 (tupAt upd_same))) (areCons (isTurn (Same.tup t5 (tupAt upd_same))) areNil))))
/-- (("times", high, (("go", side), ("turn", 1))),) -/
abbrev tRing : TE := tTup (tCons (tTup (tCons (tC (.str "times")) (tCons (tVar 3) (tCons (tTup (tCons (tTup (tCons (tC (.str "go")) (tCons (tVar 10) tNil))) (tCons (tTup (tCons (tC (.str "turn")) (tCons (tC (.int 1)) tNil))) tNil))) tNil)))) tNil)
theorem ring_ok {σ : L2.St} {H : Hp} {Q : VK} {high side : Int} (h3 : σ[3]? = some (some (.int high))) (h10 : σ[10]? = some (some (.int side))) (q : ∀ H' p, Same H H' → IsWord K H' (ringW high side) p → Q (.ref p) H') : tRing σ H Q := by
  refine ⟨_, h3, _, h10, sz, fun a ha => ⟨sz, fun b hb => ⟨sz, fun e he => ⟨sz, fun f hf => ⟨sz, fun g hg => ?_⟩⟩⟩⟩⟩
  have s1 := same_new ha (.tup [V.str "go", V.int side])
  have s2 := same_new hb (.tup [V.str "turn", V.int 1])
  have s5 := same_new he (.tup [V.ref a, V.ref b])
  have s6 := same_new hf (.tup [V.str "times", V.int high, V.ref e])
  have s7 := same_new hg (.tup [V.ref f])
  have t6 := s6.trans s7
  have t5 := s5.trans t6
  have t2 := s2.trans t5
  exact q _ g (s1.trans t2) ⟨[f], tupAt upd_same, areCons (isTimes (Same.tup s7 (tupAt upd_same)) ⟨[a, b], Same.tup t6 (tupAt upd_same), areCons (isGo (Same.tup t2 (tupAt upd_same))) (areCons (isTurn (Same.tup t5 (tupAt upd_same))) areNil)⟩) areNil⟩
/-- (("times", high, (row, ("jump", 0 - wide))),) -/
abbrev tOver : TE := tTup (tCons (tTup (tCons (tC (.str "times")) (tCons (tVar 3) (tCons (tTup (tCons (tVar 5) (tCons (tTup (tCons (tC (.str "jump")) (tCons (tOp rSubI (tC (.int 0)) (tVar 2)) tNil))) tNil))) tNil)))) tNil)
theorem over_ok {σ : L2.St} {H : Hp} {Q : VK} {wide high : Int} {r : Addr} (h2 : σ[2]? = some (some (.int wide))) (h3 : σ[3]? = some (some (.int high))) (h5 : σ[5]? = some (some (.ref r)))
    (hr : IsDeed K H (rowD wide) r) (q : ∀ H' p, Same H H' → IsWord K H' (overW high wide) p → Q (.ref p) H') : tOver σ H Q := by
  refine ⟨_, h3, _, h5, _, h2, _, _, rfl, rfl, sz, fun a ha => ⟨sz, fun e he => ⟨sz, fun f hf => ⟨sz, fun g hg => ?_⟩⟩⟩⟩
  have s1 := same_new ha (.tup [V.str "jump", V.int (0 - wide)])
  have s5 := same_new he (.tup [V.ref r, V.ref a])
  have s6 := same_new hf (.tup [V.str "times", V.int high, V.ref e])
  have s7 := same_new hg (.tup [V.ref f])
  have t6 := s6.trans s7
  have t5 := s5.trans t6
  have t1 := s1.trans t5
  exact q _ g t1 ⟨[f], tupAt upd_same, areCons (isTimes (Same.tup s7 (tupAt upd_same)) ⟨[r, a], Same.tup t6 (tupAt upd_same), areCons (IsDeed.tt (Same.tt t1) _ hr) (areCons (isJump (Same.tup t5 (tupAt upd_same))) areNil)⟩) areNil⟩

/-! ### what these words are -/
theorem rowD_ok {wide : Int} (h : 1 ≤ wide) (h2 : wide ≤ most) : DeedOk (rowD wide) := by
  unfold most at h2
  simp only [rowD, goW, DeedOk, WordOk, great, and_true]
  omega
theorem deedsW_ok {wide high step : Int} (h : 1 ≤ wide) (h2 : wide ≤ most) (h3 : 1 ≤ high) (h4 : high ≤ most) (h5 : 1 ≤ step) (h6 : step ≤ 4) : WordOk (deedsW wide high step) := by
  have q := rowD_ok h h2
  unfold most at h2 h4
  simp only [deedsW, stepW, DeedOk, WordOk, great, and_true]
  refine ⟨by omega, q, by omega⟩
theorem ringW_ok {high side : Int} (h3 : 1 ≤ high) (h4 : high ≤ most) (h5 : 1 ≤ side) (h6 : side ≤ 1000000000) : WordOk (ringW high side) := by
  unfold most at h4
  simp only [ringW, edgeW, DeedOk, WordOk, great, and_true]
  omega
theorem overW_ok {wide high : Int} (h : 1 ≤ wide) (h2 : wide ≤ most) (h3 : 1 ≤ high) (h4 : high ≤ most) : WordOk (overW high wide) := by
  have q := rowD_ok h h2
  unfold most at h2 h4
  simp only [overW, backW, DeedOk, WordOk, great, and_true]
  refine ⟨by omega, q, by omega⟩
theorem deedsW_deep (wide high step : Int) : wordDeep (deedsW wide high step) ≤ 4 := by
  simp [deedsW, stepW, rowD, goW, wordDeep, deedDeep]
theorem ringW_deep (high side : Int) : wordDeep (ringW high side) ≤ 4 := by
  simp [ringW, edgeW, wordDeep, deedDeep]
theorem overW_deep (high wide : Int) : wordDeep (overW high wide) ≤ 4 := by
  simp [overW, backW, rowD, goW, wordDeep, deedDeep]
theorem deedsW_size (wide high step : Int) : wordSize (deedsW wide high step) ≤ 30 := by
  simp [deedsW, stepW, rowD, goW, wordSize, deedSize]
theorem ringW_size (high side : Int) : wordSize (ringW high side) ≤ 30 := by
  simp [ringW, edgeW, wordSize, deedSize]
theorem overW_size (high wide : Int) : wordSize (overW high wide) ≤ 30 := by
  simp [overW, backW, rowD, goW, wordSize, deedSize]

/-! ### 0 <= x < y -/
abbrev tIn0 (i j : Nat) : TE := tChain rLe rLtI (tC (.int 0)) (tVar i) (tVar j)
theorem in0_ok {σ : L2.St} {H : Hp} {Q : VK} {i j : Nat} {x y : Int} (hi : σ[i]? = some (some (.int x))) (hj : σ[j]? = some (some (.int y))) (q : Q (.bl (decide (0 ≤ x ∧ x < y))) H) : tIn0 i j σ H Q := by
  refine ⟨_, hi, _, _, rfl, rfl, _, rfl, ite2 (fun c => ?_) (fun c => ?_)⟩
  · have c1 : 0 ≤ x := of_decide_eq_true c
    refine ⟨_, hj, _, _, rfl, rfl, ?_⟩
    rw [show decide (0 ≤ x ∧ x < y) = decide (x < y) from decide_eq_decide.mpr ⟨fun h => h.2, fun h => ⟨c1, h⟩⟩] at q
    exact q
  · have c1 : ¬ 0 ≤ x := fun h => c (decide_eq_true h)
    rw [decide_eq_false (fun h : 0 ≤ x ∧ x < y => c1 h.1)] at q
    exact q
end
end Pen

/-! the law -/
namespace Pen
open PySem L2
section
variable {P : Program} {w : World} {K : PySem.W.Frag} {mg : Str → Option Value} {base : Heap}
def spLaw (K : PySem.W.Frag) : Sp := fun vs H Q _ => ∃ (a : Addr) (ns : List Int), vs = [.ref a] ∧ SqL K H a (ns.map V.int) ∧ ∀ H', Q (.bl true) H'
abbrev nLaw : List Str := ["script", "state", "wide", "high", "step", "row", "deeds", "at", "level", "due", "side", "ring", "seen", "over", "line", "k"]
theorem scLaw : FnScope nLaw ["script"] (defScope sLaw) := ⟨rfl, rfl, rfl, by decide +kernel, rfl, by decide +kernel, by decide +kernel⟩
/-- what is known behind the numbers: the state's list, the row, the words -/
structure Kn (K : PySem.W.Frag) (H : Hp) (l r d : Addr) (wide high step : Int) : Prop where
  st : ∃ x y, H l = some (.lst [.int x, .int y]) ∧ 0 ≤ x
  row : IsDeed K H (rowD wide) r
  deeds : IsWord K H (deedsW wide high step) d
  w1 : 1 ≤ wide
  w2 : wide ≤ most
  h1 : 1 ≤ high
  h2 : high ≤ most
  s1 : 1 ≤ step
  s2 : step ≤ 4
theorem Kn.tt {H H' : Hp} {l r d : Addr} {wide high step : Int} (k : Kn K H l r d wide high step) (t : TT K H H') {x y : Int} (e : H' l = some (.lst [.int x, .int y])) (hx : 0 ≤ x) : Kn K H' l r d wide high step :=
  ⟨⟨x, y, e, hx⟩, IsDeed.tt t _ k.row, IsWord.tt t k.deeds, k.w1, k.w2, k.h1, k.h2, k.s1, k.s2⟩
theorem Kn.same {H H' : Hp} {l r d : Addr} {wide high step : Int} (k : Kn K H l r d wide high step) (s : Same H H') : Kn K H' l r d wide high step := by
  obtain ⟨x, y, e, hx⟩ := k.st
  exact k.tt (Same.tt s) (s _ _ e) hx
theorem Kn.kept {H H' : Hp} {l r d : Addr} {wide high step : Int} (k : Kn K H l r d wide high step) {x y : Int} (kp : Kept l H H') (e : H' l = some (.lst [.int x, .int y])) (hx : 0 ≤ x) : Kn K H' l r d wide high step := by
  obtain ⟨x0, y0, e0, _⟩ := k.st
  exact k.tt (keptL e0 kp) e hx
theorem Kn.high64 {H : Hp} {l r d : Addr} {wide high step : Int} (k : Kn K H l r d wide high step) : high < 18446744073709551616 := by
  have q := k.h2
  unfold most at q
  omega
theorem int01 (p : Prop) [Decidable p] : (if decide p = true then (1 : Int) else 0) = if p then 1 else 0 := by
  by_cases h : p
  · rw [decide_eq_true h, if_pos rfl, if_pos h]
  · rw [decide_eq_false h, if_neg Bool.false_ne_true, if_neg h]
theorem ok_law (T : Tx K mg) : FnOk P w K mg base CX0 30 T.law.f T.law.fd ["script"] (spLaw K) := by
  refine T.law.F.ok scLaw (fun vs H Q E h => ?_) (fun cdv A outer s H vs Q E hr h => ?_)
  · obtain ⟨a, ns, rfl, _⟩ := h
    rfl
  obtain ⟨a, ns, rfl, ha, q⟩ := h
  have nd := scLaw.nd
  refine ⟨_, pss_cons (ps_set (i := 1) nd rfl (.inl rfl) (T.state.cl (ok_state T) hr (pa_cons (pv 0) (pa_cons pe_int pa_nil))))
    (pss_cons (ps_set (i := 2) nd rfl (.inl rfl) (pe_op op_add pe_int (T.take.cl (ok_take T) hr (pa_cons (pv 1) (pa_cons (pe_ix ix_list (pe_lst (pa_cons pe_int (pa_cons (pe_op op_pow pe_int pe_int) (pa_cons (pe_op op_pow pe_int pe_int) pa_nil)))) (T.take.cl (ok_take T) hr (pa_cons (pv 1) (pa_cons pe_int pa_nil))) (fun _ _ => rfl)) pa_nil)))))
    (pss_cons (ps_set (i := 3) nd rfl (.inr rfl) (pe_op op_add pe_int (T.take.cl (ok_take T) hr (pa_cons (pv 1) (pa_cons (pe_ix ix_list (pe_lst (pa_cons pe_int (pa_cons (pe_op op_pow pe_int pe_int) (pa_cons (pe_op op_pow pe_int pe_int) pa_nil)))) (T.take.cl (ok_take T) hr (pa_cons (pv 1) (pa_cons pe_int pa_nil))) (fun _ _ => rfl)) pa_nil)))))
    (pss_cons (ps_set (i := 4) nd rfl (.inl rfl) (pe_op op_add pe_int (T.take.cl (ok_take T) hr (pa_cons (pv 1) (pa_cons pe_int pa_nil)))))
    (pss_cons (ps_set (i := 5) nd rfl (.inl rfl) (pe_tup (pa_cons pe_str (pa_cons (pv 2) (pa_cons (pe_tup (pa_cons (pe_tup (pa_cons pe_str (pa_cons pe_int pa_nil))) pa_nil)) pa_nil)))))
    (C8.pss_cut (ps_set (i := 6) nd rfl (.inl rfl) (pe_tup (pa_cons (pe_tup (pa_cons pe_str (pa_cons (pv 3) (pa_cons (pe_tup (pa_cons (pv 5) (pa_cons (pe_tup (pa_cons pe_str (pa_cons (pe_op op_sub pe_int (pv 2)) pa_nil))) (pa_cons (pe_tup (pa_cons pe_str (pa_cons pe_int pa_nil)))
        (pa_cons (pe_tup (pa_cons pe_str (pa_cons (pv 4) pa_nil))) (pa_cons (pe_tup (pa_cons pe_str (pa_cons (pe_un un_neg pe_int) pa_nil))) pa_nil)))))) pa_nil)))) pa_nil)))
    (pss_cons (ps_if (pt_not (pt_val (T.isRow.cl (ok_isRow T) hr (pa_cons (T.boxOf.cl (ok_boxOf T) hr (pa_cons (pv 6) pa_nil)) (pa_cons (pe_tup (pa_cons pe_int (pa_cons pe_int (pa_cons (pv 2) (pa_cons (pe_op op_mul (pe_op op_sub (pv 3) pe_int) (pv 4)) pa_nil))))) pa_nil))))) pss_never pss_nil)
    (pss_cons (ps_set (i := 7) nd rfl (.inl rfl) (pe_ix ix_list (pe_lst (pa_cons pe_int (pa_cons (pe_op op_sub (pv 2) pe_int) (pa_cons (pv 2) (pa_cons (pe_un un_neg pe_int) (pa_cons (pe_op op_fdiv (pv 2) pe_int) pa_nil)))))) (T.take.cl (ok_take T) hr (pa_cons (pv 1) (pa_cons pe_int pa_nil))) (fun _ _ => rfl)))
    (pss_cons (ps_set (i := 8) nd rfl (.inl rfl) (pe_ix ix_list (pe_lst (pa_cons pe_int (pa_cons (pe_op op_sub (pv 3) pe_int) (pa_cons (pv 3) (pa_cons (pe_un un_neg pe_int) (pa_cons (pe_op op_fdiv (pv 3) pe_int) pa_nil)))))) (T.take.cl (ok_take T) hr (pa_cons (pv 1) (pa_cons pe_int pa_nil))) (fun _ _ => rfl)))
    (C8.pss_cut (ps_set (i := 9) nd rfl (.inl rfl) (pe_callTy call_int1 (by rfl) T.zInt b_int (pa_cons (pe_and (pe_chain op_le op_lt pe_int (pv 7) (pv 2)) (pe_one (pe_chain op_le op_lt pe_int (pv 8) (pv 3)))) pa_nil)))
    (C8.pss_cut (ps_if (PW.pt (pw_or (pt_cmpR op_ne (T.drawn.cl (ok_drawn T) hr (pa_cons (pv 6) (pa_cons (pe_tup (pa_cons (pv 7) (pa_cons (pe_op op_mul (pv 8) (pv 4)) (pa_cons pe_int pa_nil)))) pa_nil))) (pv 9) (nomark _))
        (pw_or1 (pt_cmpR op_ne (T.drawn.cl (ok_drawn T) hr (pa_cons (pv 6) (pa_cons (pe_tup (pa_cons (pv 7) (pa_cons (pe_op op_mul (pv 8) (pv 4)) (pa_cons pe_int pa_nil)))) pa_nil))) pe_int (nomark _))))) pss_never pss_nil)
    (pss_cons (ps_set (i := 10) nd rfl (.inl rfl) (pe_op op_add pe_int (T.take.cl (ok_take T) hr (pa_cons (pv 1) (pa_cons (pe_ix ix_list (pe_lst (pa_cons pe_int (pa_cons (pe_op op_pow pe_int pe_int) pa_nil))) (T.take.cl (ok_take T) hr (pa_cons (pv 1) (pa_cons pe_int pa_nil))) (fun _ _ => rfl)) pa_nil)))))
    (pss_cons (ps_set (i := 11) nd rfl (.inr rfl) (pe_tup (pa_cons (pe_tup (pa_cons pe_str (pa_cons (pv 3) (pa_cons (pe_tup (pa_cons (pe_tup (pa_cons pe_str (pa_cons (pv 10) pa_nil))) (pa_cons (pe_tup (pa_cons pe_str (pa_cons pe_int pa_nil))) pa_nil))) pa_nil)))) pa_nil)))
    (pss_cons (ps_set (i := 12) nd rfl (.inl rfl) (pe_lst (pa_cons (pe_tup (pa_cons pe_int (pa_cons pe_int (pa_cons pe_int pa_nil)))) (pa_cons (pe_tup (pa_cons (pv 10) (pa_cons pe_int (pa_cons pe_int pa_nil))))
        (pa_cons (pe_tup (pa_cons (pe_op op_sub (pv 10) pe_int) (pa_cons (pv 10) (pa_cons pe_int pa_nil)))) (pa_cons (pe_tup (pa_cons pe_int (pa_cons (pe_op op_sub (pv 10) pe_int) (pa_cons pe_int pa_nil)))) pa_nil))))))
    (C8.pss_cut (ps_if (pt_cmpR (op_neD hr.units)
        (pe_lc (own := [("line", 14)]) (g := gName 14) (tt := tYes) rfl nd (pi_list (pv 12)) (blkOk_by (N := nLaw) (sc := defScope sLaw) (by decide +kernel)) (fun _ _ _ _ _ => pg_name (i := 14) nd rfl (.inl rfl)) (fun _ _ _ _ _ => pts_nil)
          (fun _ _ _ _ _ => T.drawn.cl (ok_drawn T) hr (pa_cons (pv 11) (pa_cons (pv 14) pa_nil))))
        (pe_lc (own := [("k", 15)]) (g := gName 15) (tt := tYes) rfl nd (pi_range1 (by rfl) T.zRange (pa_cons pe_int pa_nil)) (blkOk_by (N := nLaw) (sc := defScope sLaw) (by decide +kernel)) (fun _ _ _ _ _ => pg_name (i := 15) nd rfl (.inl rfl)) (fun _ _ _ _ _ => pts_nil)
          (fun _ _ _ _ _ => pe_op op_fdiv (pe_op op_add (pe_op op_sub (pv 3) (pv 15)) pe_int) pe_int))
        (nomark _)) pss_never pss_nil)
    (pss_cons (ps_set (i := 13) nd rfl (.inl rfl) (pe_tup (pa_cons (pe_tup (pa_cons pe_str (pa_cons (pv 3) (pa_cons (pe_tup (pa_cons (pv 5) (pa_cons (pe_tup (pa_cons pe_str (pa_cons (pe_op op_sub pe_int (pv 2)) pa_nil))) pa_nil))) pa_nil)))) pa_nil)))
    (pss_cons (ps_if (pt_not (pt_val (T.isRow.cl (ok_isRow T) hr (pa_cons (T.boxOf.cl (ok_boxOf T) hr (pa_cons (pv 13) pa_nil)) (pa_cons (pe_tup (pa_cons pe_int (pa_cons pe_int (pa_cons (pv 2) (pa_cons pe_int pa_nil))))) pa_nil))))) pss_never pss_nil)
    (pss_one (ps_ret (pe_cmpR op_eq (T.drawn.cl (ok_drawn T) hr (pa_cons (pv 13) (pa_cons (pe_tup (pa_cons (pv 7) (pa_cons pe_int (pa_cons pe_int pa_nil)))) pa_nil)))
      (pe_op op_mul (pv 3) (pe_callTy call_int1 (by rfl) T.zInt b_int (pa_cons (pe_chain op_le op_lt pe_int (pv 7) (pv 2)) pa_nil))) (nomark _)))))))))))))))))))), ?_⟩
  -- the numbers, the words
  refine ⟨_, rfl, a, ns, rfl, ha, fun H1 l x1 y1 s1 e1 hx1 => ?_⟩
  refine menu3_ok (K := K) rfl e1 hx1 fun H2 wide x2 y2 k2 e2 hx2 w1 w2 => ?_
  refine menu3_ok (K := K) rfl e2 hx2 fun H3 high x3 y3 k3 e3 hx3 g1 g2 => ?_
  refine take_ok rfl e3 hx3 (by decide) (by decide) fun H4 f x4 y4 k4 e4 hx4 f0 f4 => ⟨_, _, rfl, rfl, ?_⟩
  refine ⟨_, rfl, sz, fun ra ra0 => ⟨sz, fun rb rb0 => ⟨sz, fun r r0 => ?_⟩⟩⟩
  have s5a := same_new ra0 (.tup [V.str "go", V.int 1])
  have s5b := same_new rb0 (.tup [V.ref ra])
  have s5c := same_new r0 (.tup [V.str "times", V.int wide, V.ref rb])
  have s5 := s5a.trans (s5b.trans s5c)
  have hr5 : IsDeed K (upd (upd (upd H4 ra (.tup [V.str "go", V.int 1])) rb (.tup [V.ref ra])) r (.tup [V.str "times", V.int wide, V.ref rb])) (rowD wide) r :=
    isTimes (tupAt upd_same) ⟨[ra], Same.tup s5c (tupAt upd_same), areCons (isGo (Same.tup (s5b.trans s5c) (tupAt upd_same))) areNil⟩
  refine ⟨fun σ' H' => ∃ (l r d : Addr) (wide high step : Int), σ' = [some (.ref a), some (.ref l), some (.int wide), some (.int high), some (.int step), some (.ref r), some (.ref d), none, none, none, none, none, none, none, none, none] ∧ Kn K H' l r d wide high step, ?_, ?_⟩
  · refine deeds_ok (K := K) rfl rfl rfl rfl hr5 fun H6 d s6 hd6 => ?_
    exact ⟨l, r, d, wide, high, 1 + f, rfl, ⟨x4, y4, s6 _ _ (s5 _ _ e4), hx4⟩, IsDeed.tt (Same.tt s6) _ hr5, hd6, w1, w2, g1, g2, by omega, by omega⟩
  clear e1 e2 e3 e4 hr5 s5 k4 k3 k2 s1
  rintro σ' H' ⟨l, r, d, wide, high, step, rfl, kn⟩
  have okD := deedsW_ok kn.w1 kn.w2 kn.h1 kn.h2 kn.s1 kn.s2
  -- the box
  refine ⟨_, rfl, d, _, rfl, kn.deeds, okD, deedsW_deep _ _ _, deedsW_size _ _ _, fun H1 v s1 hv => ?_⟩
  rw [box_deeds kn.w1 kn.h1 kn.s1] at hv
  obtain ⟨pb, rfl, hpb⟩ := hv
  have hs1 := kn.s1
  have hs2 := kn.s2
  refine ⟨_, rfl, _, rfl, _, _, rfl, rfl, _, rfl, _, _, rfl, rfl, .inr ⟨by omega, by omega⟩, sz, fun c hc => ?_⟩
  have s2 := same_new hc (.tup [V.int 0, V.int 0, V.int wide, V.int ((high - 1) * step)])
  refine ⟨pb, c, ⟨0, 0, wide, (high - 1) * step⟩, rfl, Same.tup s2 hpb, tupAt upd_same, fun H3 s3 => ⟨_, rfl, iteF ?_⟩⟩
  have kn3 := kn.same (s1.trans (s2.trans s3))
  clear kn hpb s1 s2 s3 hc
  -- at, level
  obtain ⟨x, y, e, hx⟩ := kn3.st
  refine menu5_ok (K := K) rfl rfl e hx fun H4 at' x4 y4 k4 e4 hx4 => ?_
  have kn4 := kn3.kept k4 e4 hx4
  refine menu5_ok (K := K) rfl rfl e4 hx4 fun H5 level x5 y5 k5 e5 hx5 => ?_
  have kn5 := kn4.kept k5 e5 hx5
  clear kn4 kn3 e4 e k4 k5
  -- due
  refine ⟨fun σ' H' => H' = H5 ∧ σ' = [some (.ref a), some (.ref l), some (.int wide), some (.int high), some (.int step), some (.ref r), some (.ref d), some (.int at'), some (.int level),
    some (.int (if (0 ≤ at' ∧ at' < wide) ∧ (0 ≤ level ∧ level < high) then 1 else 0)), none, none, none, none, none, none], ?_, ?_⟩
  · refine in0_ok (x := at') (y := wide) rfl rfl ⟨_, rfl, ite2 (fun c => ?_) (fun c => ?_)⟩
    · have c1 : 0 ≤ at' ∧ at' < wide := of_decide_eq_true c
      refine in0_ok (x := level) (y := high) rfl rfl (.inr ⟨_, rfl, rfl, ?_⟩)
      have ev : (if decide (0 ≤ level ∧ level < high) = true then (1 : Int) else 0) = if (0 ≤ at' ∧ at' < wide) ∧ (0 ≤ level ∧ level < high) then 1 else 0 := by
        rw [int01]
        by_cases c2 : 0 ≤ level ∧ level < high
        · rw [if_pos c2, if_pos ⟨c1, c2⟩]
        · rw [if_neg c2, if_neg (fun q => c2 q.2)]
      rw [← ev]
      rfl
    · have c1 : ¬ (0 ≤ at' ∧ at' < wide) := fun q => c (decide_eq_true q)
      refine .inr ⟨_, rfl, rfl, ?_⟩
      rw [if_neg (fun q : (0 ≤ at' ∧ at' < wide) ∧ (0 ≤ level ∧ level < high) => c1 q.1)]
      rfl
  rintro σ' H' ⟨rfl, rfl⟩
  -- the rows' strokes
  refine ⟨fun σ' H' => Kn K H' l r d wide high step ∧ σ' = [some (.ref a), some (.ref l), some (.int wide), some (.int high), some (.int step), some (.ref r), some (.ref d), some (.int at'), some (.int level),
    some (.int (if (0 ≤ at' ∧ at' < wide) ∧ (0 ≤ level ∧ level < high) then 1 else 0)), none, none, none, none, none, none], ?_, ?_⟩
  · obtain ⟨j, hj, cd⟩ := draw_deeds (a := at') (level := level) kn5.w1 kn5.h1 hs1 hs2
    refine ⟨_, rfl, _, rfl, _, rfl, _, rfl, _, _, rfl, rfl, .inr ⟨by omega, by omega⟩, sz, fun t ht => ?_⟩
    have s1 := same_new ht (.tup [V.int at', V.int (level * step), V.int 0])
    refine ⟨d, t, _, ⟨at', level * step, 0⟩, _, j, rfl, IsWord.tt (Same.tt s1) kn5.deeds, okD, deedsW_deep _ _ _, deedsW_size _ _ _, tupAt upd_same, .inl rfl, cd, by omega, fun H2 s2 => ?_⟩
    refine ⟨_, rfl, rfl, _, rfl, ?_⟩
    rw [decide_eq_true rfl]
    have kn6 := kn5.same (s1.trans s2)
    refine iteF ⟨_, rfl, _, rfl, _, rfl, _, rfl, _, _, rfl, rfl, .inr ⟨by omega, by omega⟩, sz, fun t2 ht2 => ?_⟩
    have s3 := same_new ht2 (.tup [V.int at', V.int (level * step), V.int 1])
    refine ⟨d, t2, _, ⟨at', level * step, 1⟩, _, 0, rfl, IsWord.tt (Same.tt s3) kn6.deeds, okD, deedsW_deep _ _ _, deedsW_size _ _ _, tupAt upd_same, .inr rfl, draw_up kn5.w1 kn5.h1 hs1 hs2, by omega, fun H4 s4 => ?_⟩
    refine ⟨rfl, _, rfl, ?_⟩
    rw [decide_eq_true rfl]
    exact iteF ⟨kn6.same (s3.trans s4), rfl⟩
  clear kn5 e5
  rintro σ' H' ⟨kn, rfl⟩
  -- the ring
  obtain ⟨x, y, e, hx⟩ := kn.st
  refine menu2_ok (K := K) rfl e hx fun H1 side x1 y1 k1 e1 hx1 d1 d2 => ?_
  have kn1 := kn.kept k1 e1 hx1
  refine ⟨_, rfl, _, rfl, sz, fun ra ra0 => ⟨sz, fun rb rb0 => ⟨sz, fun rc rc0 => ⟨sz, fun rd rd0 => ⟨sz, fun g g0 => ?_⟩⟩⟩⟩⟩
  have v1 := same_new ra0 (.tup [V.str "go", V.int side])
  have v2 := same_new rb0 (.tup [V.str "turn", V.int 1])
  have v3 := same_new rc0 (.tup [V.ref ra, V.ref rb])
  have v4 := same_new rd0 (.tup [V.str "times", V.int high, V.ref rc])
  have v5 := same_new g0 (.tup [V.ref rd])
  have v45 := v4.trans v5
  have v35 := v3.trans v45
  have v25 := v2.trans v35
  have s2 := v1.trans v25
  have hg : IsWord K (upd (upd (upd (upd (upd H1 ra (.tup [V.str "go", V.int side])) rb (.tup [V.str "turn", V.int 1])) rc (.tup [V.ref ra, V.ref rb])) rd (.tup [V.str "times", V.int high, V.ref rc])) g (.tup [V.ref rd])) (ringW high side) g :=
    ⟨[rd], tupAt upd_same, areCons (isTimes (Same.tup v5 (tupAt upd_same)) ⟨[ra, rb], Same.tup v45 (tupAt upd_same), areCons (isGo (Same.tup v25 (tupAt upd_same))) (areCons (isTurn (Same.tup v35 (tupAt upd_same))) areNil)⟩) areNil⟩
  have kn2 := kn1.same s2
  generalize upd (upd (upd (upd (upd H1 ra (.tup [V.str "go", V.int side])) rb (.tup [V.str "turn", V.int 1])) rc (.tup [V.ref ra, V.ref rb])) rd (.tup [V.str "times", V.int high, V.ref rc])) g (.tup [V.ref rd]) = H2 at kn2 hg s2 v25 v35 v45 v5 ⊢
  clear s2 v25 v35 v45 v5 v1 v2 v3 v4
  refine ⟨sz, fun t0 h0 => ⟨_, rfl, sz, fun t1 h1 => ⟨_, rfl, _, _, rfl, rfl, _, rfl, sz, fun t2 h2 => ⟨_, rfl, _, _, rfl, rfl, sz, fun t3 h3 => ⟨sz, fun sl hsl => ?_⟩⟩⟩⟩⟩
  have u0 := same_new h0 (.tup [V.int 0, V.int 0, V.int 0])
  have u1 := same_new h1 (.tup [V.int side, V.int 0, V.int 1])
  have u2 := same_new h2 (.tup [V.int (side - 1), V.int side, V.int 0])
  have u3 := same_new h3 (.tup [V.int 0, V.int (side - 1), V.int 1])
  have u4 := same_new hsl (.lst [V.ref t0, V.ref t1, V.ref t2, V.ref t3])
  have w3 := u3.trans u4
  have w2' := u2.trans w3
  have w1' := u1.trans w2'
  have w0 := u0.trans w1'
  have kn3 := kn2.same w0
  have hg3 := IsWord.tt (Same.tt (K := K) w0) hg
  have q0 := w1' _ _ (upd_same : upd H2 t0 (.tup [V.int 0, V.int 0, V.int 0]) t0 = _)
  have q1 := w2' t1 _ upd_same
  have q2 := w3 t2 _ upd_same
  have q3 := u4 t3 _ upd_same
  have qs : upd (upd (upd (upd (upd H2 t0 (.tup [V.int 0, V.int 0, V.int 0])) t1 (.tup [V.int side, V.int 0, V.int 1])) t2 (.tup [V.int (side - 1), V.int side, V.int 0])) t3 (.tup [V.int 0, V.int (side - 1), V.int 1])) sl (.lst [V.ref t0, V.ref t1, V.ref t2, V.ref t3]) sl = some (.lst [V.ref t0, V.ref t1, V.ref t2, V.ref t3]) := upd_same
  generalize upd (upd (upd (upd (upd H2 t0 (.tup [V.int 0, V.int 0, V.int 0])) t1 (.tup [V.int side, V.int 0, V.int 1])) t2 (.tup [V.int (side - 1), V.int side, V.int 0])) t3 (.tup [V.int 0, V.int (side - 1), V.int 1])) sl (.lst [V.ref t0, V.ref t1, V.ref t2, V.ref t3]) = H3 at kn3 hg3 q0 q1 q2 q3 qs ⊢
  clear w0 w1' w2' w3 u0 u1 u2 u3 u4
  let cs : List Int := (List.range 4).map fun k : Nat => (high - (k : Int) + 3) / 4
  have hcs : ∀ i : Nat, i < 4 → (cs.take (i + 1)).map V.int = (cs.take i).map V.int ++ [V.int ((high - (i : Int) + 3) / 4)] := fun i hi => by
    have e1 : cs[i]? = some ((high - (i : Int) + 3) / 4) := by
      show ((List.range 4).map fun k : Nat => (high - (k : Int) + 3) / 4)[i]? = _
      rw [List.getElem?_map, List.getElem?_range hi]
      rfl
    rw [List.take_add_one, e1, List.map_append]
    rfl
  have hlen : ∀ i : Nat, ((cs.take i).map V.int).length < sizeLine := fun i => by
    rw [List.length_map, List.length_take]
    exact Nat.lt_of_le_of_lt (Nat.min_le_right _ _) (by show ((List.range 4).map _).length < sizeLine; rw [List.length_map, List.length_range]; exact szl)
  refine ⟨fun σ' H' => Kn K H' l r d wide high step ∧ σ' = [some (.ref a), some (.ref l), some (.int wide), some (.int high), some (.int step), some (.ref r), some (.ref d), some (.int at'), some (.int level),
    some (.int (if (0 ≤ at' ∧ at' < wide) ∧ (0 ≤ level ∧ level < high) then 1 else 0)), some (.int side), some (.ref g), some (.ref sl), none, none, none], ?_, ?_⟩
  · refine ⟨_, rfl, sl, rfl, ⟨_, lstAt qs⟩, fun D hD => ?_⟩
    refine lc_list (K := K) (a := sl) (xs := [.ref t0, .ref t1, .ref t2, .ref t3]) (fun i H' => Same H3 H' ∧ H' D = some (.lst ((cs.take i).map V.int)))
      ⟨same_new hD _, upd_same⟩ (fun i H' _ ⟨sm, _⟩ => lstAt (sm _ _ qs)) ?_ ?_
    · rintro i x H' hi ⟨sm, hd⟩
      have hi4 : i < 4 := (List.getElem?_eq_some_iff.mp hi).1
      obtain ⟨t, rfl, ht⟩ : ∃ t, x = .ref t ∧ H3 t = some (.tup (stkV (ringS side i))) := by
        match i, hi with
        | 0, hi => exact ⟨t0, (Option.some.inj hi).symm, q0⟩
        | 1, hi => exact ⟨t1, (Option.some.inj hi).symm, q1⟩
        | 2, hi => exact ⟨t2, (Option.some.inj hi).symm, q2⟩
        | 3, hi => exact ⟨t3, (Option.some.inj hi).symm, q3⟩
      have hw : (ringS side i).w = 0 ∨ (ringS side i).w = 1 := by
        match i, hi4 with
        | 0, _ => exact .inl rfl
        | 1, _ => exact .inr rfl
        | 2, _ => exact .inl rfl
        | 3, _ => exact .inr rfl
      obtain ⟨j, hj, cd⟩ := draw_ring d1 kn3.h1 kn3.high64 i hi4
      refine ⟨rfl, _, rfl, _, rfl, g, t, _, ringS side i, _, j, rfl, IsWord.tt (Same.tt sm) hg3, ringW_ok kn3.h1 kn3.h2 d1 d2, ringW_deep _ _, ringW_size _ _, tupAt (sm _ _ ht), hw, cd, by omega, fun H4 s4 => ?_⟩
      refine ⟨_, s4 _ _ hd, hlen i, fun o u e => ?_, ?_⟩
      · rw [upd_ne (ne_of_none e hD)]
        exact s4 _ _ (sm _ _ e)
      · rw [upd_same, hcs i hi4]
    · rintro H' ⟨sm, hd⟩
      refine ⟨4, rfl, by decide, by decide, fun D2 hD2 => ?_⟩
      refine lc_range (lo := 0) (n := 4) (fun i H'' => Same H' H'' ∧ H'' D2 = some (.lst ((cs.take i).map V.int)))
        ⟨same_new hD2 _, upd_same⟩ ?_ ?_
      · rintro i H'' hi ⟨sm2, hd2⟩
        refine ⟨rfl, _, rfl, _, rfl, _, _, rfl, rfl, _, _, rfl, rfl, _, _, rfl, rfl, ⟨by decide, by decide⟩, _, hd2, hlen i, fun o u e => ?_, ?_⟩
        · rw [upd_ne (ne_of_none e hD2)]
          exact sm2 _ _ e
        · rw [upd_same, hcs i hi]
          show some (HO.lst (List.map V.int (List.take i cs) ++ [V.int ((high - (0 + (i : Int)) + 3) / 4)])) = _
          rw [Int.zero_add]
      · rintro H'' ⟨sm2, hd2⟩
        refine ⟨_, _, dpL (cs.take 4) (lstAt (sm2 _ _ hd)), dpL (cs.take 4) (lstAt hd2), shapedL _, shapedL _, _, rfl, ?_⟩
        rw [eqvL, decide_eq_true rfl]
        exact iteF ⟨kn3.same (sm.trans sm2), rfl⟩
  clear kn3 hg3 q0 q1 q2 q3 qs
  rintro σ' H' ⟨kn, rfl⟩
  -- the rows over one another
  refine ⟨_, rfl, _, rfl, _, rfl, _, _, rfl, rfl, sz, fun ra ra0 => ⟨sz, fun rc rc0 => ⟨sz, fun rd rd0 => ⟨sz, fun o o0 => ?_⟩⟩⟩⟩
  have v1 := same_new ra0 (.tup [V.str "jump", V.int (0 - wide)])
  have v3 := same_new rc0 (.tup [V.ref r, V.ref ra])
  have v4 := same_new rd0 (.tup [V.str "times", V.int high, V.ref rc])
  have v5 := same_new o0 (.tup [V.ref rd])
  have v45 := v4.trans v5
  have v35 := v3.trans v45
  have s4 := v1.trans v35
  have ho : IsWord K (upd (upd (upd (upd H' ra (.tup [V.str "jump", V.int (0 - wide)])) rc (.tup [V.ref r, V.ref ra])) rd (.tup [V.str "times", V.int high, V.ref rc])) o (.tup [V.ref rd])) (overW high wide) o :=
    ⟨[rd], tupAt upd_same, areCons (isTimes (Same.tup v5 (tupAt upd_same)) ⟨[r, ra], Same.tup v45 (tupAt upd_same), areCons (IsDeed.tt (Same.tt s4) _ kn.row) (areCons (isJump (Same.tup v35 (tupAt upd_same))) areNil)⟩) areNil⟩
  have okO := overW_ok kn.w1 kn.w2 kn.h1 kn.h2
  refine ⟨_, rfl, o, _, rfl, ho, okO, overW_deep _ _, overW_size _ _, fun H5 v s5 hv => ?_⟩
  rw [box_over kn.w1 kn.h1] at hv
  obtain ⟨pb, rfl, hpb⟩ := hv
  refine ⟨_, rfl, sz, fun c hc => ?_⟩
  have s6 := same_new hc (.tup [V.int 0, V.int 0, V.int wide, V.int 0])
  refine ⟨pb, c, ⟨0, 0, wide, 0⟩, rfl, Same.tup s6 hpb, tupAt upd_same, fun H7 s7 => ⟨_, rfl, iteF ?_⟩⟩
  have ho7 := IsWord.tt (Same.tt (K := K) (s5.trans (s6.trans s7))) ho
  refine ⟨_, rfl, _, rfl, sz, fun t ht => ?_⟩
  have s8 := same_new ht (.tup [V.int at', V.int 0, V.int 0])
  obtain ⟨j, hj, cd⟩ := draw_over (a := at') kn.w1 kn.h1 kn.high64
  refine ⟨o, t, _, ⟨at', 0, 0⟩, _, j, rfl, IsWord.tt (Same.tt s8) ho7, okO, overW_deep _ _, overW_size _ _, tupAt upd_same, .inl rfl, cd, by omega, fun H9 s9 => ?_⟩
  refine ⟨_, rfl, in0_ok (x := at') (y := wide) rfl rfl (.inr ⟨_, rfl, _, _, rfl, rfl, .inl ⟨?_, ?_⟩, rfl, ?_⟩)⟩
  · have := kn.h1
    omega
  · have := kn.high64
    omega
  · rw [int01, decide_eq_true rfl]
    exact q _
end
end Pen

/-! what the top has left; the last theorem (printed by gen_end.py) -/
namespace Pen
open PySem L2
/-- the row's end from the law's promise, what the view tells of a loose name handed on -/
theorem walk_x {l : PySem.W.OpenLaw} {n k : Nat} {q : Program} {loose : List Str} {XP : (Str → Option Value) → Heap → Prop} {YP : World → Heap → Prop} {d : DefRec}
    {K : Params → PySem.W.Frag} {sp : PySem.W.Frag → Sp} {x : Str}
    (hn : l.most = some n) (hz : n ≤ sizeLine) (hdf : d.params.defaults = []) (hr : Room k callerA)
    (hY : ∀ (w : World) (h : Heap), YP w h → (K w.params).In h)
    (F : ∀ (w : World) (mg : Str → Option Value) (fa : Addr) (h : Heap), (K w.params).In h → h.Ns mainGlobals mg → XP mg h → mg d.name = some (.ref fa) →
      ∃ fd : FuncData, (∀ (s : Shared) (u : Value), BindsTo s fd ⟨[u], []⟩ [(x, u)]) ∧
        ∀ base : Heap, (K w.params).In base → base.Ns mainGlobals mg →
          FnOk l.prog w (K w.params) mg base CX0 k fa fd [x] (sp (K w.params)))
    (hsp : ∀ (K : PySem.W.Frag) (H : Hp) (a : Addr) (ns : List Int), ns.length ≤ n → Only H → SqL K H a (ns.map V.int) →
      sp K [.ref a] H (fun v _ => v = .bl true) fun _ _ _ => False) :
    PySem.W.WalkO q loose XP YP l.row.toRowW d [] (fun f vs => PySem.call f vs) := by
  refine Att.attach_call hn hdf ?_
  intro w t₀ t₁ mg mb fa ob pm cd doc a vs ns G Y ho hd hcd hmg hobj hints hlen hg
  have X := hY w _ Y
  obtain ⟨fd, hb, hF⟩ := F w mg fa _ X G.T.g G.X hmg
  exact law_call X G.T.g G.T.b G.T.builtins G.T.nolimit hg hobj hints (Nat.le_trans hlen hz) hr hF hb
    (fun H hO hS => hsp (K w.params) H a ns hlen hO hS) fun H e t' h => h
theorem all_mk {P : Program} {w : World} {K : PySem.W.Frag} {h : Heap} {mg : Str → Option Value} {fa C f1 f2 f3 f4 f5 f6 f7 f8 f9 f10 f11 f12 f13 f14 f15 f16 f17 f18 f19 f20 f21 f22 f23 f24 f25 f26 f27 f28 f29 f30 f31 f32 sm um : Addr} (X : K.In h) (G : h.Ns mainGlobals mg) (hfa : mg "law" = some (.ref fa))
    (hGreat : ∃ t, mg "GREAT" = some (.int 100000000000000000000 t))
    {od1 an1 od2 an2 od3 an3 od4 an4 od5 an5 od6 an6 od7 an7 od8 an8 od9 an9 od10 an10 od11 an11 od12 an12 od13 an13 od14 an14 od15 an15 od16 an16 od17 an17 od18 an18 od19 an19 od20 an20 od21 an21 od22 an22 od23 an23 od24 an24 od25 an25 od26 an26 od27 an27 od28 an28 od29 an29 od30 an30 od31 an31 od32 an32 : Option Addr} {sl1 sl2 sl3 sl4 sl5 sl6 sl7 sl8 sl9 sl10 sl11 sl12 sl13 sl14 sl15 sl16 sl17 sl18 sl19 sl20 sl21 sl22 sl23 sl24 sl25 sl26 sl27 sl28 sl29 sl30 sl31 sl32 : Array (Option Value)} {oc1 kV1 dc1 pm1 cd1 ct1 oc2 kV2 dc2 pm2 cd2 ct2 oc3 kV3 dc3 pm3 cd3 ct3 oc4 kV4 dc4 pm4 cd4 ct4 oc5 kV5 dc5 pm5 cd5 ct5 oc6 kV6 dc6 pm6 cd6 ct6 oc7 kV7 dc7 pm7 cd7 ct7 oc8 kV8 dc8 pm8 cd8 ct8 oc9 kV9 dc9 pm9 cd9 ct9 oc10 kV10 dc10 pm10 cd10 ct10 oc11 kV11 dc11 pm11 cd11 ct11 oc12 kV12 dc12 pm12 cd12 ct12 oc13 kV13 dc13 pm13 cd13 ct13 oc14 kV14 dc14 pm14 cd14 ct14 oc15 kV15 dc15 pm15 cd15 ct15 oc16 kV16 dc16 pm16 cd16 ct16 oc17 kV17 dc17 pm17 cd17 ct17 oc18 kV18 dc18 pm18 cd18 ct18 oc19 kV19 dc19 pm19 cd19 ct19 oc20 kV20 dc20 pm20 cd20 ct20 oc21 kV21 dc21 pm21 cd21 ct21 oc22 kV22 dc22 pm22 cd22 ct22 oc23 kV23 dc23 pm23 cd23 ct23 oc24 kV24 dc24 pm24 cd24 ct24 oc25 kV25 dc25 pm25 cd25 ct25 oc26 kV26 dc26 pm26 cd26 ct26 oc27 kV27 dc27 pm27 cd27 ct27 oc28 kV28 dc28 pm28 cd28 ct28 oc29 kV29 dc29 pm29 cd29 ct29 oc30 kV30 dc30 pm30 cd30 ct30 oc31 kV31 dc31 pm31 cd31 ct31 oc32 kV32 dc32 pm32 cd32 ct32 : Value}
    {tk1 tk2 tk3 ts1 ts2 ts3 tu1 tu2 tu3 : Tok} {dds ddu : Option Addr} {ns nu : Nat} {sls slu : Array (Option Value)}
    (aC : PySem.W.nsIn K mainGlobals "Looking" = some (some (.ref C)))
    (a1 : PySem.W.nsIn K mainGlobals "is_number" = some (some (.ref f1)))
    (l1 : K.lookup f1 = some ⟨oc1, od1, .func (PySem.W.fnOf "is_number" "is_number" (defArgs sNumber) (defBody sNumber) (defScope sNumber) .none kV1 dc1 pm1 an1 cd1 ct1), sl1⟩)
    (c1 : PySem.W.codeIn K cd1 "is_number" = true)
    (k1 : PySem.W.keepIn K (.ref f1) = true)
    (a2 : PySem.W.nsIn K mainGlobals "is_deed" = some (some (.ref f2)))
    (l2 : K.lookup f2 = some ⟨oc2, od2, .func (PySem.W.fnOf "is_deed" "is_deed" (defArgs sIsDeed) (defBody sIsDeed) (defScope sIsDeed) .none kV2 dc2 pm2 an2 cd2 ct2), sl2⟩)
    (c2 : PySem.W.codeIn K cd2 "is_deed" = true)
    (k2 : PySem.W.keepIn K (.ref f2) = true)
    (a3 : PySem.W.nsIn K mainGlobals "counted" = some (some (.ref f3)))
    (l3 : K.lookup f3 = some ⟨oc3, od3, .func (PySem.W.fnOf "counted" "counted" (defArgs sCounted) (defBody sCounted) (defScope sCounted) .none kV3 dc3 pm3 an3 cd3 ct3), sl3⟩)
    (c3 : PySem.W.codeIn K cd3 "counted" = true)
    (k3 : PySem.W.keepIn K (.ref f3) = true)
    (a4 : PySem.W.nsIn K mainGlobals "deeds_in" = some (some (.ref f4)))
    (l4 : K.lookup f4 = some ⟨oc4, od4, .func (PySem.W.fnOf "deeds_in" "deeds_in" (defArgs sDeedsIn) (defBody sDeedsIn) (defScope sDeedsIn) .none kV4 dc4 pm4 an4 cd4 ct4), sl4⟩)
    (c4 : PySem.W.codeIn K cd4 "deeds_in" = true)
    (k4 : PySem.W.keepIn K (.ref f4) = true)
    (a5 : PySem.W.nsIn K mainGlobals "quarter_turned" = some (some (.ref f5)))
    (l5 : K.lookup f5 = some ⟨oc5, od5, .func (PySem.W.fnOf "quarter_turned" "quarter_turned" (defArgs sQuarter) (defBody sQuarter) (defScope sQuarter) .none kV5 dc5 pm5 an5 cd5 ct5), sl5⟩)
    (c5 : PySem.W.codeIn K cd5 "quarter_turned" = true)
    (k5 : PySem.W.keepIn K (.ref f5) = true)
    (a6 : PySem.W.nsIn K mainGlobals "both_motions" = some (some (.ref f6)))
    (l6 : K.lookup f6 = some ⟨oc6, od6, .func (PySem.W.fnOf "both_motions" "both_motions" (defArgs sBoth) (defBody sBoth) (defScope sBoth) .none kV6 dc6 pm6 an6 cd6 ct6), sl6⟩)
    (c6 : PySem.W.codeIn K cd6 "both_motions" = true)
    (k6 : PySem.W.keepIn K (.ref f6) = true)
    (a7 : PySem.W.nsIn K mainGlobals "many_motions" = some (some (.ref f7)))
    (l7 : K.lookup f7 = some ⟨oc7, od7, .func (PySem.W.fnOf "many_motions" "many_motions" (defArgs sMany) (defBody sMany) (defScope sMany) .none kV7 dc7 pm7 an7 cd7 ct7), sl7⟩)
    (c7 : PySem.W.codeIn K cd7 "many_motions" = true)
    (k7 : PySem.W.keepIn K (.ref f7) = true)
    (a8 : PySem.W.nsIn K mainGlobals "deed_motion" = some (some (.ref f8)))
    (l8 : K.lookup f8 = some ⟨oc8, od8, .func (PySem.W.fnOf "deed_motion" "deed_motion" (defArgs sDeedMo) (defBody sDeedMo) (defScope sDeedMo) .none kV8 dc8 pm8 an8 cd8 ct8), sl8⟩)
    (c8 : PySem.W.codeIn K cd8 "deed_motion" = true)
    (k8 : PySem.W.keepIn K (.ref f8) = true)
    (a9 : PySem.W.nsIn K mainGlobals "motion_of" = some (some (.ref f9)))
    (l9 : K.lookup f9 = some ⟨oc9, od9, .func (PySem.W.fnOf "motion_of" "motion_of" (defArgs sMotion) (defBody sMotion) (defScope sMotion) .none kV9 dc9 pm9 an9 cd9 ct9), sl9⟩)
    (c9 : PySem.W.codeIn K cd9 "motion_of" = true)
    (k9 : PySem.W.keepIn K (.ref f9) = true)
    (a10 : PySem.W.nsIn K mainGlobals "undone_motion" = some (some (.ref f10)))
    (l10 : K.lookup f10 = some ⟨oc10, od10, .func (PySem.W.fnOf "undone_motion" "undone_motion" (defArgs sUndone) (defBody sUndone) (defScope sUndone) .none kV10 dc10 pm10 an10 cd10 ct10), sl10⟩)
    (c10 : PySem.W.codeIn K cd10 "undone_motion" = true)
    (k10 : PySem.W.keepIn K (.ref f10) = true)
    (a11 : PySem.W.nsIn K mainGlobals "both_ends" = some (some (.ref f11)))
    (l11 : K.lookup f11 = some ⟨oc11, od11, .func (PySem.W.fnOf "both_ends" "both_ends" (defArgs sEnds) (defBody sEnds) (defScope sEnds) .none kV11 dc11 pm11 an11 cd11 ct11), sl11⟩)
    (c11 : PySem.W.codeIn K cd11 "both_ends" = true)
    (k11 : PySem.W.keepIn K (.ref f11) = true)
    (a12 : PySem.W.nsIn K mainGlobals "moved_point" = some (some (.ref f12)))
    (l12 : K.lookup f12 = some ⟨oc12, od12, .func (PySem.W.fnOf "moved_point" "moved_point" (defArgs sPoint) (defBody sPoint) (defScope sPoint) .none kV12 dc12 pm12 an12 cd12 ct12), sl12⟩)
    (c12 : PySem.W.codeIn K cd12 "moved_point" = true)
    (k12 : PySem.W.keepIn K (.ref f12) = true)
    (a13 : PySem.W.nsIn K mainGlobals "carried_stroke" = some (some (.ref f13)))
    (l13 : K.lookup f13 = some ⟨oc13, od13, .func (PySem.W.fnOf "carried_stroke" "carried_stroke" (defArgs sCarried) (defBody sCarried) (defScope sCarried) .none kV13 dc13 pm13 an13 cd13 ct13), sl13⟩)
    (c13 : PySem.W.codeIn K cd13 "carried_stroke" = true)
    (k13 : PySem.W.keepIn K (.ref f13) = true)
    (a14 : PySem.W.nsIn K mainGlobals "joined_boxes" = some (some (.ref f14)))
    (l14 : K.lookup f14 = some ⟨oc14, od14, .func (PySem.W.fnOf "joined_boxes" "joined_boxes" (defArgs sJoined) (defBody sJoined) (defScope sJoined) .none kV14 dc14 pm14 an14 cd14 ct14), sl14⟩)
    (c14 : PySem.W.codeIn K cd14 "joined_boxes" = true)
    (k14 : PySem.W.keepIn K (.ref f14) = true)
    (a15 : PySem.W.nsIn K mainGlobals "moved_box" = some (some (.ref f15)))
    (l15 : K.lookup f15 = some ⟨oc15, od15, .func (PySem.W.fnOf "moved_box" "moved_box" (defArgs sMoved) (defBody sMoved) (defScope sMoved) .none kV15 dc15 pm15 an15 cd15 ct15), sl15⟩)
    (c15 : PySem.W.codeIn K cd15 "moved_box" = true)
    (k15 : PySem.W.keepIn K (.ref f15) = true)
    (a16 : PySem.W.nsIn K mainGlobals "deed_box" = some (some (.ref f16)))
    (l16 : K.lookup f16 = some ⟨oc16, od16, .func (PySem.W.fnOf "deed_box" "deed_box" (defArgs sDeedBox) (defBody sDeedBox) (defScope sDeedBox) .none kV16 dc16 pm16 an16 cd16 ct16), sl16⟩)
    (c16 : PySem.W.codeIn K cd16 "deed_box" = true)
    (k16 : PySem.W.keepIn K (.ref f16) = true)
    (a17 : PySem.W.nsIn K mainGlobals "word_box" = some (some (.ref f17)))
    (l17 : K.lookup f17 = some ⟨oc17, od17, .func (PySem.W.fnOf "word_box" "word_box" (defArgs sWordBox) (defBody sWordBox) (defScope sWordBox) .none kV17 dc17 pm17 an17 cd17 ct17), sl17⟩)
    (c17 : PySem.W.codeIn K cd17 "word_box" = true)
    (k17 : PySem.W.keepIn K (.ref f17) = true)
    (a18 : PySem.W.nsIn K mainGlobals "box_of" = some (some (.ref f18)))
    (l18 : K.lookup f18 = some ⟨oc18, od18, .func (PySem.W.fnOf "box_of" "box_of" (defArgs sBoxOf) (defBody sBoxOf) (defScope sBoxOf) .none kV18 dc18 pm18 an18 cd18 ct18), sl18⟩)
    (c18 : PySem.W.codeIn K cd18 "box_of" = true)
    (k18 : PySem.W.keepIn K (.ref f18) = true)
    (a19 : PySem.W.nsIn K mainGlobals "lies_in" = some (some (.ref f19)))
    (l19 : K.lookup f19 = some ⟨oc19, od19, .func (PySem.W.fnOf "lies_in" "lies_in" (defArgs sLies) (defBody sLies) (defScope sLies) .none kV19 dc19 pm19 an19 cd19 ct19), sl19⟩)
    (c19 : PySem.W.codeIn K cd19 "lies_in" = true)
    (k19 : PySem.W.keepIn K (.ref f19) = true)
    (a20 : PySem.W.nsIn K mainGlobals "reach" = some (some (.ref f20)))
    (l20 : K.lookup f20 = some ⟨oc20, od20, .func (PySem.W.fnOf "reach" "reach" (defArgs sReach) (defBody sReach) (defScope sReach) .none kV20 dc20 pm20 an20 cd20 ct20), sl20⟩)
    (c20 : PySem.W.codeIn K cd20 "reach" = true)
    (k20 : PySem.W.keepIn K (.ref f20) = true)
    (a21 : PySem.W.nsIn K mainGlobals "turns_looked" = some (some (.ref f21)))
    (l21 : K.lookup f21 = some ⟨oc21, od21, .func (PySem.W.fnOf "turns_looked" "turns_looked" (defArgs sTurns) (defBody sTurns) (defScope sTurns) .none kV21 dc21 pm21 an21 cd21 ct21), sl21⟩)
    (c21 : PySem.W.codeIn K cd21 "turns_looked" = true)
    (k21 : PySem.W.keepIn K (.ref f21) = true)
    (a22 : PySem.W.nsIn K mainGlobals "drawn_often" = some (some (.ref f22)))
    (l22 : K.lookup f22 = some ⟨oc22, od22, .func (PySem.W.fnOf "drawn_often" "drawn_often" (defArgs sDrawn) (defBody sDrawn) (defScope sDrawn) .none kV22 dc22 pm22 an22 cd22 ct22), sl22⟩)
    (c22 : PySem.W.codeIn K cd22 "drawn_often" = true)
    (k22 : PySem.W.keepIn K (.ref f22) = true)
    (a23 : PySem.W.nsIn K mainGlobals "_law_state" = some (some (.ref f23)))
    (l23 : K.lookup f23 = some ⟨oc23, od23, .func (PySem.W.fnOf "_law_state" "_law_state" (defArgs sState) (defBody sState) (defScope sState) .none kV23 dc23 pm23 an23 cd23 ct23), sl23⟩)
    (c23 : PySem.W.codeIn K cd23 "_law_state" = true)
    (k23 : PySem.W.keepIn K (.ref f23) = true)
    (a24 : PySem.W.nsIn K mainGlobals "_law_take" = some (some (.ref f24)))
    (l24 : K.lookup f24 = some ⟨oc24, od24, .func (PySem.W.fnOf "_law_take" "_law_take" (defArgs sTake) (defBody sTake) (defScope sTake) .none kV24 dc24 pm24 an24 cd24 ct24), sl24⟩)
    (c24 : PySem.W.codeIn K cd24 "_law_take" = true)
    (k24 : PySem.W.keepIn K (.ref f24) = true)
    (a25 : PySem.W.nsIn K mainGlobals "_law_whole" = some (some (.ref f25)))
    (l25 : K.lookup f25 = some ⟨oc25, od25, .func (PySem.W.fnOf "_law_whole" "_law_whole" (defArgs sWhole) (defBody sWhole) (defScope sWhole) .none kV25 dc25 pm25 an25 cd25 ct25), sl25⟩)
    (c25 : PySem.W.codeIn K cd25 "_law_whole" = true)
    (k25 : PySem.W.keepIn K (.ref f25) = true)
    (a26 : PySem.W.nsIn K mainGlobals "_law_is_row" = some (some (.ref f26)))
    (l26 : K.lookup f26 = some ⟨oc26, od26, .func (PySem.W.fnOf "_law_is_row" "_law_is_row" (defArgs sIsRow) (defBody sIsRow) (defScope sIsRow) .none kV26 dc26 pm26 an26 cd26 ct26), sl26⟩)
    (c26 : PySem.W.codeIn K cd26 "_law_is_row" = true)
    (k26 : PySem.W.keepIn K (.ref f26) = true)
    (a27 : PySem.W.nsIn K mainGlobals "law" = some (some (.ref f27)))
    (l27 : K.lookup f27 = some ⟨oc27, od27, .func (PySem.W.fnOf "law" "law" (defArgs sLaw) (defBody sLaw) (defScope sLaw) .none kV27 dc27 pm27 an27 cd27 ct27), sl27⟩)
    (c27 : PySem.W.codeIn K cd27 "law" = true)
    (k27 : PySem.W.keepIn K (.ref f27) = true)
    (a28 : PySem.W.findIn K (.ref C) "__init__" = some (some (.ref f28)))
    (i28 : PySem.W.isFn K (.ref f28) = true)
    (l28 : K.lookup f28 = some ⟨oc28, od28, .func (PySem.W.fnOf "__init__" "Looking.__init__" (defArgs sInit) (defBody sInit) (defScope sInit) .none kV28 dc28 pm28 an28 cd28 ct28), sl28⟩)
    (c28 : PySem.W.codeIn K cd28 "Looking.__init__" = true)
    (k28 : PySem.W.keepIn K (.ref f28) = true)
    (a29 : PySem.W.findIn K (.ref C) "note" = some (some (.ref f29)))
    (i29 : PySem.W.isFn K (.ref f29) = true)
    (l29 : K.lookup f29 = some ⟨oc29, od29, .func (PySem.W.fnOf "note" "Looking.note" (defArgs sNote) (defBody sNote) (defScope sNote) .none kV29 dc29 pm29 an29 cd29 ct29), sl29⟩)
    (c29 : PySem.W.codeIn K cd29 "Looking.note" = true)
    (k29 : PySem.W.keepIn K (.ref f29) = true)
    (a30 : PySem.W.findIn K (.ref C) "one_doing" = some (some (.ref f30)))
    (i30 : PySem.W.isFn K (.ref f30) = true)
    (l30 : K.lookup f30 = some ⟨oc30, od30, .func (PySem.W.fnOf "one_doing" "Looking.one_doing" (defArgs sDoing) (defBody sDoing) (defScope sDoing) .none kV30 dc30 pm30 an30 cd30 ct30), sl30⟩)
    (c30 : PySem.W.codeIn K cd30 "Looking.one_doing" = true)
    (k30 : PySem.W.keepIn K (.ref f30) = true)
    (a31 : PySem.W.findIn K (.ref C) "in_times" = some (some (.ref f31)))
    (i31 : PySem.W.isFn K (.ref f31) = true)
    (l31 : K.lookup f31 = some ⟨oc31, od31, .func (PySem.W.fnOf "in_times" "Looking.in_times" (defArgs sInTimes) (defBody sInTimes) (defScope sInTimes) .none kV31 dc31 pm31 an31 cd31 ct31), sl31⟩)
    (c31 : PySem.W.codeIn K cd31 "Looking.in_times" = true)
    (k31 : PySem.W.keepIn K (.ref f31) = true)
    (a32 : PySem.W.findIn K (.ref C) "in_word" = some (some (.ref f32)))
    (i32 : PySem.W.isFn K (.ref f32) = true)
    (l32 : K.lookup f32 = some ⟨oc32, od32, .func (PySem.W.fnOf "in_word" "Looking.in_word" (defArgs sInWord) (defBody sInWord) (defScope sInWord) .none kV32 dc32 pm32 an32 cd32 ct32), sl32⟩)
    (c32 : PySem.W.codeIn K cd32 "Looking.in_word" = true)
    (k32 : PySem.W.keepIn K (.ref f32) = true)
    (pg : PySem.W.plainGet K C Str.empty = true)
    (hd : PySem.W.hasDictIn K C = true)
    (po : PySem.W.plainOver K C = true)
    (sa : PySem.W.findIn K (.ref C) "__setattr__" = some (some (.builtin "object.__setattr__")))
    (mk : PySem.W.makesIn K C = true)
    (kc : PySem.W.keepIn K (.ref C) = true)
    (nL : PySem.W.findIn K (.ref C) "looked" = some none)
    (zLen : PySem.W.nsIn K mainGlobals "len" = some none)
    (zRange : PySem.W.nsIn K mainGlobals "range" = some none)
    (zInt : PySem.W.nsIn K mainGlobals "int" = some none)
    (zBool : PySem.W.nsIn K mainGlobals "bool" = some none)
    (zTuple : PySem.W.nsIn K mainGlobals "tuple" = some none)
    (zIsi : PySem.W.nsIn K mainGlobals "isinstance" = some none)
    (zSorted : PySem.W.nsIn K mainGlobals "sorted" = some none)
    (zMin : PySem.W.nsIn K mainGlobals "min" = some none)
    (zMax : PySem.W.nsIn K mainGlobals "max" = some none)
    (zAll : PySem.W.nsIn K mainGlobals "all" = some none)
    (gDeep : PySem.W.nsIn K mainGlobals "MOST_DEEP" = some (some (.int 4 tk1)))
    (gDeeds : PySem.W.nsIn K mainGlobals "MOST_DEEDS" = some (some (.int 30 tk2)))
    (gLooked : PySem.W.nsIn K mainGlobals "MOST_LOOKED" = some (some (.int 1000 tk3)))
    (gS : PySem.W.nsIn K mainGlobals "SIMPLE" = some (some (.ref sm)))
    (lS : K.lookup sm = some ⟨.type "tuple", dds, .seq #[.str "go" ts1, .str "jump" ts2, .str "turn" ts3] ns, sls⟩)
    (gU : PySem.W.nsIn K mainGlobals "UNMOVED" = some (some (.ref um)))
    (lU : K.lookup um = some ⟨.type "tuple", ddu, .seq #[.int 0 tu1, .int 0 tu2, .int 0 tu3] nu, slu⟩) :
    ∃ fd : FuncData, (∀ (s : Shared) (v : Value), BindsTo s fd ⟨[v], []⟩ [("script", v)]) ∧
      ∀ base : Heap, K.In base → base.Ns mainGlobals mg → FnOk P w K mg base CX0 30 fa fd ["script"] (spLaw K) := by
  have e := hfa.symm.trans (PySem.W.mg_of X G a27)
  cases e
  have F1 := fun_mk (st := sNumber) l1 c1 k1
  have b1 := F1.binds (ps := ["thing", "least"]) fun _ _ _ _ _ _ us hl => match us, hl with | [_, _], _ => rfl
  have F2 := fun_mk (st := sIsDeed) l2 c2 k2
  have b2 := F2.binds (ps := ["deed"]) fun _ _ _ _ _ _ us hl => match us, hl with | [_], _ => rfl
  have F3 := fun_mk (st := sCounted) l3 c3 k3
  have b3 := F3.binds (ps := ["deeds", "deep"]) fun _ _ _ _ _ _ us hl => match us, hl with | [_, _], _ => rfl
  have F4 := fun_mk (st := sDeedsIn) l4 c4 k4
  have b4 := F4.binds (ps := ["word"]) fun _ _ _ _ _ _ us hl => match us, hl with | [_], _ => rfl
  have F5 := fun_mk (st := sQuarter) l5 c5 k5
  have b5 := F5.binds (ps := ["x", "y", "quarters"]) fun _ _ _ _ _ _ us hl => match us, hl with | [_, _, _], _ => rfl
  have F6 := fun_mk (st := sBoth) l6 c6 k6
  have b6 := F6.binds (ps := ["one", "other"]) fun _ _ _ _ _ _ us hl => match us, hl with | [_, _], _ => rfl
  have F7 := fun_mk (st := sMany) l7 c7 k7
  have b7 := F7.binds (ps := ["motion", "times"]) fun _ _ _ _ _ _ us hl => match us, hl with | [_, _], _ => rfl
  have F8 := fun_mk (st := sDeedMo) l8 c8 k8
  have b8 := F8.binds (ps := ["deed"]) fun _ _ _ _ _ _ us hl => match us, hl with | [_], _ => rfl
  have F9 := fun_mk (st := sMotion) l9 c9 k9
  have b9 := F9.binds (ps := ["deeds"]) fun _ _ _ _ _ _ us hl => match us, hl with | [_], _ => rfl
  have F10 := fun_mk (st := sUndone) l10 c10 k10
  have b10 := F10.binds (ps := ["motion"]) fun _ _ _ _ _ _ us hl => match us, hl with | [_], _ => rfl
  have F11 := fun_mk (st := sEnds) l11 c11 k11
  have b11 := F11.binds (ps := ["stroke"]) fun _ _ _ _ _ _ us hl => match us, hl with | [_], _ => rfl
  have F12 := fun_mk (st := sPoint) l12 c12 k12
  have b12 := F12.binds (ps := ["motion", "place"]) fun _ _ _ _ _ _ us hl => match us, hl with | [_, _], _ => rfl
  have F13 := fun_mk (st := sCarried) l13 c13 k13
  have b13 := F13.binds (ps := ["motion", "stroke"]) fun _ _ _ _ _ _ us hl => match us, hl with | [_, _], _ => rfl
  have F14 := fun_mk (st := sJoined) l14 c14 k14
  have b14 := F14.binds (ps := ["one", "other"]) fun _ _ _ _ _ _ us hl => match us, hl with | [_, _], _ => rfl
  have F15 := fun_mk (st := sMoved) l15 c15 k15
  have b15 := F15.binds (ps := ["motion", "box"]) fun _ _ _ _ _ _ us hl => match us, hl with | [_, _], _ => rfl
  have F16 := fun_mk (st := sDeedBox) l16 c16 k16
  have b16 := F16.binds (ps := ["deed"]) fun _ _ _ _ _ _ us hl => match us, hl with | [_], _ => rfl
  have F17 := fun_mk (st := sWordBox) l17 c17 k17
  have b17 := F17.binds (ps := ["word"]) fun _ _ _ _ _ _ us hl => match us, hl with | [_], _ => rfl
  have F18 := fun_mk (st := sBoxOf) l18 c18 k18
  have b18 := F18.binds (ps := ["word"]) fun _ _ _ _ _ _ us hl => match us, hl with | [_], _ => rfl
  have F19 := fun_mk (st := sLies) l19 c19 k19
  have b19 := F19.binds (ps := ["stroke", "box"]) fun _ _ _ _ _ _ us hl => match us, hl with | [_, _], _ => rfl
  have F20 := fun_mk (st := sReach) l20 c20 k20
  have b20 := F20.binds (ps := ["low", "high", "here", "step"]) fun _ _ _ _ _ _ us hl => match us, hl with | [_, _, _, _], _ => rfl
  have F21 := fun_mk (st := sTurns) l21 c21 k21
  have b21 := F21.binds (ps := ["stroke", "box", "motion", "times"]) fun _ _ _ _ _ _ us hl => match us, hl with | [_, _, _, _], _ => rfl
  have F22 := fun_mk (st := sDrawn) l22 c22 k22
  have b22 := F22.binds (ps := ["word", "stroke"]) fun _ _ _ _ _ _ us hl => match us, hl with | [_, _], _ => rfl
  have F23 := fun_mk (st := sState) l23 c23 k23
  have b23 := F23.binds (ps := ["script", "k"]) fun _ _ _ _ _ _ us hl => match us, hl with | [_, _], _ => rfl
  have F24 := fun_mk (st := sTake) l24 c24 k24
  have b24 := F24.binds (ps := ["state", "many"]) fun _ _ _ _ _ _ us hl => match us, hl with | [_, _], _ => rfl
  have F25 := fun_mk (st := sWhole) l25 c25 k25
  have b25 := F25.binds (ps := ["found"]) fun _ _ _ _ _ _ us hl => match us, hl with | [_], _ => rfl
  have F26 := fun_mk (st := sIsRow) l26 c26 k26
  have b26 := F26.binds (ps := ["found", "due"]) fun _ _ _ _ _ _ us hl => match us, hl with | [_, _], _ => rfl
  have F27 := fun_mk (st := sLaw) l27 c27 k27
  have b27 := F27.binds (ps := ["script"]) fun _ _ _ _ _ _ us hl => match us, hl with | [_], _ => rfl
  have F28 := fun_mk (st := sInit) l28 c28 k28
  have b28 := F28.binds (ps := ["self"]) fun _ _ _ _ _ _ us hl => match us, hl with | [_], _ => rfl
  have F29 := fun_mk (st := sNote) l29 c29 k29
  have b29 := F29.binds (ps := ["self", "many"]) fun _ _ _ _ _ _ us hl => match us, hl with | [_, _], _ => rfl
  have F30 := fun_mk (st := sDoing) l30 c30 k30
  have b30 := F30.binds (ps := ["self", "word", "box", "motion", "stroke"]) fun _ _ _ _ _ _ us hl => match us, hl with | [_, _, _, _, _], _ => rfl
  have F31 := fun_mk (st := sInTimes) l31 c31 k31
  have b31 := F31.binds (ps := ["self", "deed", "stroke"]) fun _ _ _ _ _ _ us hl => match us, hl with | [_, _, _], _ => rfl
  have F32 := fun_mk (st := sInWord) l32 c32 k32
  have b32 := F32.binds (ps := ["self", "word", "stroke"]) fun _ _ _ _ _ _ us hl => match us, hl with | [_, _, _], _ => rfl
  let T : Tx K mg := {
    number := ⟨f1, _, F1, PySem.W.mg_of X G a1, b1⟩
    isDeed := ⟨f2, _, F2, PySem.W.mg_of X G a2, b2⟩
    counted := ⟨f3, _, F3, PySem.W.mg_of X G a3, b3⟩
    deedsIn := ⟨f4, _, F4, PySem.W.mg_of X G a4, b4⟩
    quarter := ⟨f5, _, F5, PySem.W.mg_of X G a5, b5⟩
    both := ⟨f6, _, F6, PySem.W.mg_of X G a6, b6⟩
    many := ⟨f7, _, F7, PySem.W.mg_of X G a7, b7⟩
    deedMo := ⟨f8, _, F8, PySem.W.mg_of X G a8, b8⟩
    motion := ⟨f9, _, F9, PySem.W.mg_of X G a9, b9⟩
    undone := ⟨f10, _, F10, PySem.W.mg_of X G a10, b10⟩
    ends := ⟨f11, _, F11, PySem.W.mg_of X G a11, b11⟩
    point := ⟨f12, _, F12, PySem.W.mg_of X G a12, b12⟩
    carried := ⟨f13, _, F13, PySem.W.mg_of X G a13, b13⟩
    joined := ⟨f14, _, F14, PySem.W.mg_of X G a14, b14⟩
    moved := ⟨f15, _, F15, PySem.W.mg_of X G a15, b15⟩
    deedBox := ⟨f16, _, F16, PySem.W.mg_of X G a16, b16⟩
    wordBox := ⟨f17, _, F17, PySem.W.mg_of X G a17, b17⟩
    boxOf := ⟨f18, _, F18, PySem.W.mg_of X G a18, b18⟩
    lies := ⟨f19, _, F19, PySem.W.mg_of X G a19, b19⟩
    reach := ⟨f20, _, F20, PySem.W.mg_of X G a20, b20⟩
    turns := ⟨f21, _, F21, PySem.W.mg_of X G a21, b21⟩
    drawn := ⟨f22, _, F22, PySem.W.mg_of X G a22, b22⟩
    state := ⟨f23, _, F23, PySem.W.mg_of X G a23, b23⟩
    take := ⟨f24, _, F24, PySem.W.mg_of X G a24, b24⟩
    whole := ⟨f25, _, F25, PySem.W.mg_of X G a25, b25⟩
    isRow := ⟨f26, _, F26, PySem.W.mg_of X G a26, b26⟩
    law := ⟨fa, _, F27, PySem.W.mg_of X G a27, b27⟩
    C := C
    cl := ⟨pg, hd, po, sa⟩
    nL := nL
    mgC := PySem.W.mg_of X G aC
    init := ⟨f28, _, F28, ⟨a28, i28, k28⟩, b28⟩
    note := ⟨f29, _, F29, ⟨a29, i29, k29⟩, b29⟩
    doing := ⟨f30, _, F30, ⟨a30, i30, k30⟩, b30⟩
    inTimes := ⟨f31, _, F31, ⟨a31, i31, k31⟩, b31⟩
    inWord := ⟨f32, _, F32, ⟨a32, i32, k32⟩, b32⟩
    maker := ⟨mk, a28, i28, kc⟩
    zLen := PySem.W.mg_none_of X G zLen
    zRange := PySem.W.mg_none_of X G zRange
    zInt := PySem.W.mg_none_of X G zInt
    zBool := PySem.W.mg_none_of X G zBool
    zTuple := PySem.W.mg_none_of X G zTuple
    zIsi := PySem.W.mg_none_of X G zIsi
    zSorted := PySem.W.mg_none_of X G zSorted
    zMin := PySem.W.mg_none_of X G zMin
    zMax := PySem.W.mg_none_of X G zMax
    zAll := PySem.W.mg_none_of X G zAll
    gDeep := ⟨_, PySem.W.mg_of X G gDeep⟩
    gDeeds := ⟨_, PySem.W.mg_of X G gDeeds⟩
    gLooked := ⟨_, PySem.W.mg_of X G gLooked⟩
    gGreat := hGreat
    simple := sm
    gSimple := PySem.W.mg_of X G gS
    kSimple := fun H => .inr ⟨_, _, _, lS, rfl, rfl, sz, .cons ⟨_, rfl⟩ (.cons ⟨_, rfl⟩ (.cons ⟨_, rfl⟩ .nil))⟩
    unmoved := um
    gUnmoved := PySem.W.mg_of X G gU
    kUnmoved := fun H => .inr ⟨_, _, _, lU, rfl, rfl, sz, .cons ⟨_, rfl⟩ (.cons ⟨_, rfl⟩ (.cons ⟨_, rfl⟩ .nil))⟩ }
  exact ⟨T.law.fd, fun s v => .of_eq rfl, fun base _ _ => ok_law T⟩
/-- the loose name's value -/
theorem great_of {p : Program} {mg : Str → Option Value} {h : Heap} (x : PySem.W.XL p [("GREAT", PySem.W.WData.int 100000000000000000000)] mg h) : ∃ t, mg "GREAT" = some (.int 100000000000000000000 t) := by
  obtain ⟨v, e, r⟩ := x.2.val ("GREAT", PySem.W.WData.int 100000000000000000000) (List.mem_singleton.mpr rfl)
  cases r
  exact ⟨_, e⟩
end Pen
open PySem PySem.W PyProof.Rows
set_option maxRecDepth 100000 in
set_option maxHeartbeats 0 in
theorem PySem.Challenge.cw_penwright_k42_whole_times_within_times_holds : PySem.Challenge.rw_penwright_k42_whole_times_within_times.Holds := by
  w_on; o_law; k_head; (case hw => w_witness2)
  k_fill
  refine Pen.walk_x (l := PySem.Challenge.rw_penwright_k42_whole_times_within_times) (n := 63) (k := 30) (x := "script") (sp := Pen.spLaw) rfl (by decide) rfl ⟨rfl, by decide, by decide⟩
    (fun w h Y => PySem.W.kIn_of Y) ?F (fun _ _ a ns _ _ hS => ⟨a, ns, rfl, hS, fun _ => rfl⟩)
  case F =>
    intro w mg fa h KX G XP hmg
    refine' Pen.all_mk KX G hmg (Pen.great_of XP) ?aC ?a1 ?l1 ?c1 ?k1 ?a2 ?l2 ?c2 ?k2 ?a3 ?l3 ?c3 ?k3 ?a4 ?l4 ?c4 ?k4 ?a5 ?l5 ?c5 ?k5 ?a6 ?l6 ?c6 ?k6 ?a7 ?l7 ?c7 ?k7 ?a8 ?l8 ?c8 ?k8 ?a9 ?l9 ?c9 ?k9 ?a10 ?l10 ?c10 ?k10 ?a11 ?l11 ?c11 ?k11 ?a12 ?l12 ?c12 ?k12 ?a13 ?l13 ?c13 ?k13 ?a14 ?l14 ?c14 ?k14 ?a15 ?l15 ?c15 ?k15 ?a16 ?l16 ?c16 ?k16 ?a17 ?l17 ?c17 ?k17 ?a18 ?l18 ?c18 ?k18 ?a19 ?l19 ?c19 ?k19 ?a20 ?l20 ?c20 ?k20 ?a21 ?l21 ?c21 ?k21 ?a22 ?l22 ?c22 ?k22 ?a23 ?l23 ?c23 ?k23 ?a24 ?l24 ?c24 ?k24 ?a25 ?l25 ?c25 ?k25 ?a26 ?l26 ?c26 ?k26 ?a27 ?l27 ?c27 ?k27 ?a28 ?i28 ?l28 ?c28 ?k28 ?a29 ?i29 ?l29 ?c29 ?k29 ?a30 ?i30 ?l30 ?c30 ?k30 ?a31 ?i31 ?l31 ?c31 ?k31 ?a32 ?i32 ?l32 ?c32 ?k32 ?pg ?hd ?po ?sa ?mk ?kc ?nL ?zLen ?zRange ?zInt ?zBool ?zTuple ?zIsi ?zSorted ?zMin ?zMax ?zAll ?gDeep ?gDeeds ?gLooked ?gS ?lS ?gU ?lU
    (case aC => k_is); (case a1 => k_is); (case l1 => k_is); (case c1 => k_is); (case k1 => k_is); (case a2 => k_is)
    (case l2 => k_is); (case c2 => k_is); (case k2 => k_is); (case a3 => k_is); (case l3 => k_is); (case c3 => k_is)
    (case k3 => k_is); (case a4 => k_is); (case l4 => k_is); (case c4 => k_is); (case k4 => k_is); (case a5 => k_is)
    (case l5 => k_is); (case c5 => k_is); (case k5 => k_is); (case a6 => k_is); (case l6 => k_is); (case c6 => k_is)
    (case k6 => k_is); (case a7 => k_is); (case l7 => k_is); (case c7 => k_is); (case k7 => k_is); (case a8 => k_is)
    (case l8 => k_is); (case c8 => k_is); (case k8 => k_is); (case a9 => k_is); (case l9 => k_is); (case c9 => k_is)
    (case k9 => k_is); (case a10 => k_is); (case l10 => k_is); (case c10 => k_is); (case k10 => k_is); (case a11 => k_is)
    (case l11 => k_is); (case c11 => k_is); (case k11 => k_is); (case a12 => k_is); (case l12 => k_is); (case c12 => k_is)
    (case k12 => k_is); (case a13 => k_is); (case l13 => k_is); (case c13 => k_is); (case k13 => k_is); (case a14 => k_is)
    (case l14 => k_is); (case c14 => k_is); (case k14 => k_is); (case a15 => k_is); (case l15 => k_is); (case c15 => k_is)
    (case k15 => k_is); (case a16 => k_is); (case l16 => k_is); (case c16 => k_is); (case k16 => k_is); (case a17 => k_is)
    (case l17 => k_is); (case c17 => k_is); (case k17 => k_is); (case a18 => k_is); (case l18 => k_is); (case c18 => k_is)
    (case k18 => k_is); (case a19 => k_is); (case l19 => k_is); (case c19 => k_is); (case k19 => k_is); (case a20 => k_is)
    (case l20 => k_is); (case c20 => k_is); (case k20 => k_is); (case a21 => k_is); (case l21 => k_is); (case c21 => k_is)
    (case k21 => k_is); (case a22 => k_is); (case l22 => k_is); (case c22 => k_is); (case k22 => k_is); (case a23 => k_is)
    (case l23 => k_is); (case c23 => k_is); (case k23 => k_is); (case a24 => k_is); (case l24 => k_is); (case c24 => k_is)
    (case k24 => k_is); (case a25 => k_is); (case l25 => k_is); (case c25 => k_is); (case k25 => k_is); (case a26 => k_is)
    (case l26 => k_is); (case c26 => k_is); (case k26 => k_is); (case a27 => k_is); (case l27 => k_is); (case c27 => k_is)
    (case k27 => k_is); (case a28 => k_is); (case i28 => k_is); (case l28 => k_is); (case c28 => k_is); (case k28 => k_is)
    (case a29 => k_is); (case i29 => k_is); (case l29 => k_is); (case c29 => k_is); (case k29 => k_is); (case a30 => k_is)
    (case i30 => k_is); (case l30 => k_is); (case c30 => k_is); (case k30 => k_is); (case a31 => k_is); (case i31 => k_is)
    (case l31 => k_is); (case c31 => k_is); (case k31 => k_is); (case a32 => k_is); (case i32 => k_is); (case l32 => k_is)
    (case c32 => k_is); (case k32 => k_is); (case pg => k_is); (case hd => k_is); (case po => k_is); (case sa => k_is)
    (case mk => k_is); (case kc => k_is); (case nL => k_is); (case zLen => k_is); (case zRange => k_is); (case zInt => k_is)
    (case zBool => k_is); (case zTuple => k_is); (case zIsi => k_is); (case zSorted => k_is); (case zMin => k_is); (case zMax => k_is)
    (case zAll => k_is); (case gDeep => k_is); (case gDeeds => k_is); (case gLooked => k_is); (case gS => k_is); (case lS => k_is)
    (case gU => k_is); (case lU => k_is)
