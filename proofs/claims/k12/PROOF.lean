import PyProof.Rows.All
import Wide.All
import OpenK.AllK
import Wide.FinOn
import PyProof.EqAt
import PyProof.EqKinds
import PyProof.TupleCall
import HandS.Base
import HandS.Call
import HandS.List
import HandS.Exc
import HandS.TryOnly
import HandS.Words
import KE.GoesMore
import KE.GoesEnum
import HandS.Comp
import HandS.Dict
import HandS.Iter
import HandS.Walk
import KE.KLam
import HandS.Lambda
import HandS.Nested
import KE.KExcSuper
import HandS.ExcSuper
import HandS.ExcField
import HandS.Ends
import HandS.WordsExc
import HandS.Head0
import HandS.Defaults
import HandS.Head1
import HandS.Head2
import HandS.HeadEnd
import HandS.HeadHook1
import HandS.HeadHook2
import HandS.HeadHook3
import HandS.HeadHook4
import KE.KStateDown
import Lean
import HandS.More
import HandS.WordsList
import HandS.HeadWalk
import HandS.ExcOwn
import HandS.IsInst
import HandS.Style
import HandS.Text
import HandS.EndTab
import PySem.Challenge.RW_endlessplane_k12_whole_parting_and_break
set_option Elab.async false
set_option linter.all false
set_option maxRecDepth 100000
set_option maxHeartbeats 0
namespace K12
/-! periods of a colouring of the cells -/
abbrev Col := Int → Int → Nat
def per (f : Col) (x y : Int) : Prop := ∀ u v, f (u + x) (v + y) = f u v
def inL (a b d x y : Int) : Prop := ∃ m k : Int, y = m * d ∧ x = k * a + m * b
theorem per_zero (f : Col) : per f 0 0 := fun u v => by rw [Int.add_zero, Int.add_zero]
theorem per_add {f : Col} {x y x' y' : Int} (h : per f x y) (h' : per f x' y') : per f (x + x') (y + y') := fun u v => by
  rw [← Int.add_assoc, ← Int.add_assoc, h', h]
theorem per_neg {f : Col} {x y : Int} (h : per f x y) : per f (-x) (-y) := fun u v => by
  have e := h (u + -x) (v + -y)
  rw [Int.neg_add_cancel_right, Int.neg_add_cancel_right] at e
  exact e.symm
theorem per_nat {f : Col} {x y : Int} (h : per f x y) (n : Nat) : per f ((n : Int) * x) ((n : Int) * y) := by
  induction n with
  | zero => simpa using per_zero f
  | succ n ih =>
    have q := per_add ih h
    have e : ∀ z : Int, ((n + 1 : Nat) : Int) * z = (n : Int) * z + z := fun z => by
      rw [Int.natCast_add, Int.add_mul]; simp
    rw [e, e]
    exact q
theorem per_mul {f : Col} {x y : Int} (h : per f x y) (k : Int) : per f (k * x) (k * y) := by
  cases k with
  | ofNat n => exact per_nat h n
  | negSucc n =>
    have q := per_neg (per_nat h (n + 1))
    rw [← Int.neg_mul, ← Int.neg_mul] at q
    exact q
theorem per_sub {f : Col} {x y x' y' : Int} (h : per f x y) (h' : per f x' y') : per f (x - x') (y - y') := by
  rw [Int.sub_eq_add_neg, Int.sub_eq_add_neg]
  exact per_add h (per_neg h')
theorem per_inL {f : Col} {a b d x y : Int} (pa : per f a 0) (pb : per f b d) (h : inL a b d x y) : per f x y := by
  obtain ⟨m, k, rfl, rfl⟩ := h
  have q := per_add (per_mul pa k) (per_mul pb m)
  rw [Int.mul_zero, Int.zero_add] at q
  exact q
/-! the colouring that rows tell -/
def sigR (a b d : Int) (rows : List (List Nat)) : Col := fun x y => (rows.getD (y % d).toNat []).getD ((x - y / d * b) % a).toNat 0
theorem sig_a {a b d : Int} {rows : List (List Nat)} : per (sigR a b d rows) a 0 := fun u v => by
  unfold sigR
  rw [Int.add_zero, show u + a - v / d * b = (u - v / d * b) + a by omega, Int.add_emod_right]
theorem sig_b {a b d : Int} {rows : List (List Nat)} (hd : 0 < d) : per (sigR a b d rows) b d := fun u v => by
  unfold sigR
  have e : (v + d) / d = v / d + 1 := by
    have h := Int.add_mul_ediv_right v 1 (show d ≠ 0 by omega)
    rw [Int.one_mul] at h
    exact h
  rw [Int.add_emod_right, e, Int.add_mul, Int.one_mul, show u + b - (v / d * b + b) = u - v / d * b by omega]
theorem reduce {f : Col} {a b d : Int} (pa : per f a 0) (pb : per f b d) (u v : Int) : f u v = f ((u - v / d * b) % a) (v % d) := by
  have h1 := per_add (per_mul pa ((u - v / d * b) / a)) (per_mul pb (v / d)) ((u - v / d * b) % a) (v % d)
  rw [← h1]
  have e1 : (u - v / d * b) % a + ((u - v / d * b) / a * a + v / d * b) = u := by
    have := Int.emod_add_mul_ediv (u - v / d * b) a
    rw [Int.mul_comm a] at this
    omega
  have e2 : v % d + ((u - v / d * b) / a * 0 + v / d * d) = v := by
    have := Int.emod_add_mul_ediv v d
    rw [Int.mul_comm] at this
    rw [Int.mul_zero]
    omega
  rw [e1, e2]
theorem box {f g : Col} {a b d : Int} (ha : 0 < a) (hd : 0 < d) (fa : per f a 0) (fb : per f b d) (ga : per g a 0) (gb : per g b d)
    (h : ∀ x y, 0 ≤ x → x < a → 0 ≤ y → y < d → f x y = g x y) (u v : Int) : f u v = g u v := by
  rw [reduce fa fb u v, reduce ga gb u v]
  exact h _ _ (Int.emod_nonneg _ (by omega)) (Int.emod_lt_of_pos _ ha) (Int.emod_nonneg _ (by omega)) (Int.emod_lt_of_pos _ hd)
theorem row_mod {f : Col} {a : Int} (fa : per f a 0) (u v : Int) : f u v = f (u % a) v := by
  have h1 := per_mul fa (u / a) (u % a) v
  rw [← h1, Int.mul_zero, Int.add_zero]
  have := Int.emod_add_mul_ediv u a
  rw [Int.mul_comm] at this
  rw [this]
theorem row_box {f g : Col} {a : Int} (ha : 0 < a) (fa : per f a 0) (ga : per g a 0) {v : Int} (h : ∀ x, 0 ≤ x → x < a → f x v = g x v) (u : Int) : f u v = g u v := by
  rw [row_mod fa u v, row_mod ga u v]
  exact h _ (Int.emod_nonneg _ (by omega)) (Int.emod_lt_of_pos _ ha)
def mov (f : Col) (x y : Int) : Col := fun u v => f (u + x) (v + y)
theorem per_mov {f : Col} {x y a b : Int} (h : per f a b) : per (mov f x y) a b := fun u v => by
  unfold mov
  rw [show u + a + x = u + x + a by omega, show v + b + y = v + y + b by omega, h]
theorem per_of_mov {f : Col} {x y a b : Int} (h : per (mov f x y) a b) : per f a b := fun u v => by
  have q := h (u - x) (v - y)
  unfold mov at q
  rw [show u - x + a + x = u + a by omega, show v - y + b + y = v + b by omega, Int.sub_add_cancel, Int.sub_add_cancel] at q
  exact q
theorem per_iff_mov {f : Col} {x y : Int} : per f x y ↔ ∀ u v, f u v = mov f x y u v := ⟨fun h u v => (h u v).symm, fun h u v => (h u v).symm⟩
/-- all places tell whether a shift is a period -/
theorem per_box {f : Col} {a b d x y : Int} (ha : 0 < a) (hd : 0 < d) (fa : per f a 0) (fb : per f b d) (h : ∀ u v, 0 ≤ u → u < a → 0 ≤ v → v < d → f u v = f (u + x) (v + y)) : per f x y :=
  per_iff_mov.mpr (box ha hd fa fb (per_mov fa) (per_mov fb) h)
/-! least lattices -/
theorem exists_min {P : Nat → Prop} (n : Nat) (h : P n) : ∃ m, P m ∧ ∀ j, j < m → ¬ P j := by
  induction n using Nat.strongRecOn with
  | ind n ih =>
    by_cases q : ∃ j, j < n ∧ P j
    · obtain ⟨j, hj, pj⟩ := q
      exact ih j hj pj
    · exact ⟨n, h, fun j hj pj => q ⟨j, hj, pj⟩⟩
theorem level_min {f : Col} {a k : Int} (ha : 0 < a) (pa : per f a 0) (hk : 0 < k) (pk : per f k 0) (hmin : ∀ j, 0 < j → j < k → j ∣ a → ¬ per f j 0) (x : Int) (px : per f x 0) : k ∣ x := by
  obtain ⟨m, ⟨m0, mp⟩, mm⟩ := exists_min (P := fun n => 0 < n ∧ per f (n : Int) 0) k.toNat ⟨by omega, by rw [Int.toNat_of_nonneg (by omega)]; exact pk⟩
  have hm : (0 : Int) < (m : Int) := by omega
  have dv : ∀ z, per f z 0 → (m : Int) ∣ z := fun z pz => by
    have e := Int.emod_add_mul_ediv z m
    have q := per_sub pz (per_mul mp (z / m))
    rw [Int.mul_zero, Int.sub_zero, show z - z / m * m = z % m by rw [Int.mul_comm]; omega] at q
    have n0 := Int.emod_nonneg z (show (m : Int) ≠ 0 by omega)
    have n1 := Int.emod_lt_of_pos z hm
    by_cases z0 : z % m = 0
    · exact Int.dvd_of_emod_eq_zero z0
    · exact absurd ⟨by omega, by rw [Int.toNat_of_nonneg n0]; exact q⟩ (mm (z % m).toNat (by omega))
  have k1 : k ≤ m := by
    by_cases c : (m : Int) < k
    · exact absurd mp (hmin m hm c (dv a pa))
    · omega
  have k2 := Int.le_of_dvd hk (dv k pk)
  have e : k = m := by omega
  rw [e]
  exact dv x px
structure Lst (f : Col) (a b d : Int) : Prop where
  ha : 0 < a
  hb : 0 ≤ b
  hba : b < a
  hd : 0 < d
  all : ∀ x y, per f x y ↔ inL a b d x y
theorem low_min {f : Col} {a b d a' b' d' : Int} (hd : 0 < d) (pb : per f b d) (ha' : 0 < a') (pa' : per f a' 0) (la : ∀ x, per f x 0 → a' ∣ x) (hb0 : 0 ≤ b') (hb1 : b' < a') (hd' : 0 < d') (pb' : per f b' d')
    (hmin : ∀ j, 0 < j → j < d' → j ∣ d → ∀ c, 0 ≤ c → c < a' → ¬ per f c j) : Lst f a' b' d' := by
  refine ⟨ha', hb0, hb1, hd', fun x y => ⟨fun p => ?_, fun h => per_inL pa' pb' h⟩⟩
  obtain ⟨m, ⟨m0, c0, mp⟩, mm⟩ := exists_min (P := fun n => 0 < n ∧ ∃ c, per f c (n : Int)) d'.toNat ⟨by omega, b', by rw [Int.toNat_of_nonneg (by omega)]; exact pb'⟩
  have hm : (0 : Int) < (m : Int) := by omega
  have dv : ∀ u z, per f u z → (m : Int) ∣ z := fun u z pz => by
    have e := Int.emod_add_mul_ediv z m
    have q := per_sub pz (per_mul mp (z / m))
    rw [show z - z / m * m = z % m by rw [Int.mul_comm (z / m)]; omega] at q
    have n0 := Int.emod_nonneg z (show (m : Int) ≠ 0 by omega)
    have n1 := Int.emod_lt_of_pos z hm
    by_cases z0 : z % m = 0
    · exact Int.dvd_of_emod_eq_zero z0
    · exact absurd ⟨by omega, _, by rw [Int.toNat_of_nonneg n0]; exact q⟩ (mm (z % m).toNat (by omega))
  have inr : ∀ c z, per f c z → per f (c % a') z := fun c z p => by
    have q := per_sub p (per_mul pa' (c / a'))
    have e := Int.emod_add_mul_ediv c a'
    rw [Int.mul_zero, Int.sub_zero, show c - c / a' * a' = c % a' by rw [Int.mul_comm (c / a')]; omega] at q
    exact q
  have k1 : d' ≤ m := by
    by_cases c : (m : Int) < d'
    · exact absurd (inr _ _ mp) (hmin m hm c (dv b d pb) _ (Int.emod_nonneg _ (by omega)) (Int.emod_lt_of_pos _ ha'))
    · omega
  have k2 := Int.le_of_dvd hd' (dv b' d' pb')
  have e : d' = m := by omega
  obtain ⟨n, hn⟩ := dv x y p
  rw [← e, Int.mul_comm] at hn
  have q := per_sub p (per_mul pb' n)
  rw [hn, Int.sub_self] at q
  obtain ⟨k, hk⟩ := la _ q
  exact ⟨n, k, hn, by rw [Int.mul_comm k]; omega⟩
theorem Lst.pa {f : Col} {a b d : Int} (h : Lst f a b d) : per f a 0 := (h.all _ _).mpr ⟨0, 1, by omega, by omega⟩
theorem Lst.pb {f : Col} {a b d : Int} (h : Lst f a b d) : per f b d := (h.all _ _).mpr ⟨1, 0, by omega, by omega⟩
theorem Lst.a_dvd {f : Col} {a b d x : Int} (h : Lst f a b d) (p : per f x 0) : a ∣ x := by
  obtain ⟨m, k, e1, e2⟩ := (h.all _ _).mp p
  have hm : m = 0 := by
    rcases Int.mul_eq_zero.mp e1.symm with z | z
    · exact z
    · have := h.hd; omega
  rw [hm, Int.zero_mul, Int.add_zero] at e2
  exact ⟨k, by rw [e2, Int.mul_comm]⟩
theorem Lst.d_dvd {f : Col} {a b d x y : Int} (h : Lst f a b d) (p : per f x y) : d ∣ y := by
  obtain ⟨m, k, e1, _⟩ := (h.all _ _).mp p
  exact ⟨m, by rw [e1, Int.mul_comm]⟩
theorem Lst.uniq {f : Col} {a b d a' b' d' : Int} (h : Lst f a b d) (h' : Lst f a' b' d') : a = a' ∧ b = b' ∧ d = d' := by
  have a1 := Int.le_of_dvd h'.ha (h.a_dvd h'.pa)
  have a2 := Int.le_of_dvd h.ha (h'.a_dvd h.pa)
  have d1 := Int.le_of_dvd h'.hd (h.d_dvd h'.pb)
  have d2 := Int.le_of_dvd h.hd (h'.d_dvd h.pb)
  have ea : a = a' := by omega
  have ed : d = d' := by omega
  have q := per_sub h.pb h'.pb
  rw [ed, Int.sub_self] at q
  obtain ⟨k, hk⟩ := h.a_dvd q
  have b0 := h.hb
  have b1 := h.hba
  have b2 := h'.hb
  have b3 := h'.hba
  have hk0 : k = 0 := by
    have p1 : a * k < a * 1 := by rw [Int.mul_one]; omega
    have p2 : a * (-1) < a * k := by rw [Int.mul_neg, Int.mul_one]; omega
    have := Int.lt_of_mul_lt_mul_left p1 (Int.le_of_lt h.ha)
    have := Int.lt_of_mul_lt_mul_left p2 (Int.le_of_lt h.ha)
    omega
  rw [hk0, Int.mul_zero] at hk
  exact ⟨ea, by omega, ed⟩
theorem Lst.mov {f : Col} {a b d x y : Int} (h : Lst f a b d) : Lst (mov f x y) a b d :=
  ⟨h.ha, h.hb, h.hba, h.hd, fun u v => ⟨fun p => (h.all u v).mp (per_of_mov p), fun q => per_mov ((h.all u v).mpr q)⟩⟩
theorem Lst.congr {f g : Col} {a b d : Int} (h : Lst f a b d) (e : ∀ u v, f u v = g u v) : Lst g a b d := by
  have : f = g := funext fun u => funext fun v => e u v
  rw [← this]; exact h
/-- the rows of a normal form -/
def nrows (f : Col) (a d : Int) : List (List Nat) := (List.range d.toNat).map fun y => (List.range a.toNat).map fun x => f (x : Nat) (y : Nat)
theorem nrows_inj {f g : Col} {a d : Int} (h : nrows f a d = nrows g a d) (x y : Int) (x0 : 0 ≤ x) (x1 : x < a) (y0 : 0 ≤ y) (y1 : y < d) : f x y = g x y := by
  have e : (nrows f a d)[y.toNat]? = (nrows g a d)[y.toNat]? := by rw [h]
  have hy : y.toNat < d.toNat := by omega
  have hx : x.toNat < a.toNat := by omega
  simp only [nrows, List.getElem?_map, List.getElem?_range hy, Option.map_some, Option.some.injEq] at e
  have e2 : ((List.range a.toNat).map fun x => f (x : Nat) (y.toNat : Nat))[x.toNat]? = ((List.range a.toNat).map fun x => g (x : Nat) (y.toNat : Nat))[x.toNat]? := by rw [e]
  simp only [List.getElem?_map, List.getElem?_range hx, Option.map_some, Option.some.injEq] at e2
  rw [Int.toNat_of_nonneg x0, Int.toNat_of_nonneg y0] at e2
  exact e2
/-- normal forms are equal just if the colours are -/
theorem normal_iff {f g : Col} {a b d a' b' d' : Int} (h : Lst f a b d) (h' : Lst g a' b' d') : (a = a' ∧ b = b' ∧ d = d' ∧ nrows f a d = nrows g a' d') ↔ ∀ u v, f u v = g u v := by
  constructor
  · rintro ⟨rfl, rfl, rfl, e⟩
    exact box h.ha h.hd h.pa h.pb h'.pa h'.pb fun x y x0 x1 y0 y1 => nrows_inj e x y x0 x1 y0 y1
  · intro e
    obtain ⟨rfl, rfl, rfl⟩ := (h.congr e).uniq h'
    have : f = g := funext fun u => funext fun v => e u v
    exact ⟨rfl, rfl, rfl, by rw [this]⟩
/-! the parting cell -/
def IsPart (f g : Col) : Option (Int × Int) → Prop
  | none => ∀ u v, f u v = g u v
  | some (x, y) => 0 ≤ x ∧ 0 ≤ y ∧ f x y ≠ g x y ∧ (∀ v, 0 ≤ v → v < y → ∀ u, f u v = g u v) ∧ ∀ u, 0 ≤ u → u < x → f u y = g u y
theorem IsPart.uniq {f g : Col} : ∀ {r r' : Option (Int × Int)}, IsPart f g r → IsPart f g r' → r = r'
  | none, none, _, _ => rfl
  | none, some (x, y), h, h' => absurd (h x y) h'.2.2.1
  | some (x, y), none, h, h' => absurd (h' x y) h.2.2.1
  | some (x, y), some (x', y'), ⟨a1, a2, a3, a4, a5⟩, ⟨b1, b2, b3, b4, b5⟩ => by
    have ey : y = y' := by
      by_cases c : y < y'
      · exact absurd (b4 y a2 c x) a3
      · by_cases c' : y' < y
        · exact absurd (a4 y' b2 c' x') b3
        · omega
    subst ey
    have ex : x = x' := by
      by_cases c : x < x'
      · exact absurd (b5 x a1 c) a3
      · by_cases c' : x' < x
        · exact absurd (a5 x' b1 c') b3
        · omega
    rw [ex]
theorem IsPart.symm {f g : Col} : ∀ {r : Option (Int × Int)}, IsPart f g r → IsPart g f r
  | none, h => fun u v => (h u v).symm
  | some (x, y), ⟨a1, a2, a3, a4, a5⟩ => ⟨a1, a2, fun e => a3 e.symm, fun v h0 h1 u => (a4 v h0 h1 u).symm, fun u h0 h1 => (a5 u h0 h1).symm⟩
/-- what a search by rows tells: columns below A, rows below D -/
structure Searched (f g : Col) (A D : Int) (r : Option (Int × Int)) : Prop where
  no : r = none → ∀ y, 0 ≤ y → y < D → ∀ x, 0 ≤ x → x < A → f x y = g x y
  yes : ∀ x y, r = some (x, y) → 0 ≤ x ∧ x < A ∧ 0 ≤ y ∧ y < D ∧ f x y ≠ g x y ∧ (∀ v, 0 ≤ v → v < y → ∀ u, 0 ≤ u → u < A → f u v = g u v) ∧ ∀ u, 0 ≤ u → u < x → f u y = g u y
theorem Searched.part {f g : Col} {A B D E : Int} {r : Option (Int × Int)} (s : Searched f g A E r) (hA : 0 < A) (hD : 0 < D) (hE : D ≤ E) (fa : per f A 0) (ga : per g A 0) (fb : per f B D) (gb : per g B D) : IsPart f g r := by
  cases r with
  | none =>
    have n := s.no rfl
    exact box hA hD fa fb ga gb fun x y x0 x1 y0 y1 => n y y0 (by omega) x x0 x1
  | some p =>
    obtain ⟨x, y⟩ := p
    obtain ⟨a1, a2, a3, a4, a5, a6, a7⟩ := s.yes x y rfl
    exact ⟨a1, a3, a5, fun v v0 v1 u => row_box hA fa ga (fun x x0 x1 => a6 v v0 v1 x x0 x1) u, a7⟩
end K12
namespace K12
open PySem PySem.Spec PyProof.Rows L2
section
variable {X : Cx} {CX : CXT} {k : Nat} {f C : Addr} {fd : FuncData} {ps : List Str} {sp : Sp} {E : XK}
/-! ### x in o, o an instance with the text's own __contains__ -/
def rInOwn (C : Addr) (sp : Sp) (E : XK) : R2 := fun x y H Q => ∃ p dx fs, y = .ref p ∧ H p = some (.ins C dx fs) ∧ sp [.ref p, x] H (fun v H' => ∃ b, v = .bl b ∧ Q (.bl b) H') E
theorem op_inOwn (F : FnOk X.prog X.w X.K X.mg X.base CX k f fd ps sp) (hr : Room k X.A) (hb : Binds X.K fd ps []) (M : Meth X.K C "__contains__" f) (hx : Passes CX X E) : OpR X (compareOp .In) (rInOwn C sp E) := by
  intro pins s σ H x y v u Q I rx ry h
  obtain ⟨p, dx, fs, rfl, ep, hq⟩ := h
  obtain rfl : u = Value.ref p := ry
  obtain ⟨mA, J, _⟩ := ins_get I.hok ep
  obtain ⟨od, J, _⟩ := J.look
  obtain ⟨m, hF⟩ := I.fr
  refine PySem.W.in_K hF I.ok.mod.kin J M.at_ M.fn ?_
  refine wpAny_mono (run_fn (us := [.ref p, v]) (vs := [.ref p, x]) F hr hb .nil hx I (.cons rfl (.cons rx .nil)) (by rw [List.append_nil]; exact hq)) (fun r s' hq' => ?_) fun _ _ z => z
  obtain ⟨z, H', I', rz, b, ez, q⟩ := hq'
  subst ez
  obtain rfl : r = Value.bool b := rz
  exact wpAny_truthy_bool ⟨.bl b, H', I', rfl, q⟩
/-! ### o == y, o an instance with the text's own __eq__, y one too -/
def rEqOwn (C : Addr) (sp : Sp) (E : XK) : R2 := fun x y H Q => ∃ p q dx dy fs gs, x = .ref p ∧ y = .ref q ∧ H p = some (.ins C dx fs) ∧ H q = some (.ins C dy gs) ∧ sp [.ref p, .ref q] H (fun v H' => ∃ b, v = .bl b ∧ Q (.bl b) H') E
theorem op_eqOwn (F : FnOk X.prog X.w X.K X.mg X.base CX k f fd ps sp) (hr : Room k X.A) (hb : Binds X.K fd ps []) (M : Meth X.K C "__eq__" f) (hx : Passes CX X E) : OpR X (compareOp .Eq) (rEqOwn C sp E) := by
  intro pins s σ H x y v u Q I rx ry h
  obtain ⟨p, q, dx, dy, fs, gs, rfl, rfl, ep, eq, hq⟩ := h
  obtain rfl : v = Value.ref p := rx
  obtain rfl : u = Value.ref q := ry
  obtain ⟨mA, J, _⟩ := ins_get I.hok ep
  obtain ⟨od, J, _⟩ := J.look
  obtain ⟨mB, J', _⟩ := ins_get I.hok eq
  obtain ⟨od', J', _⟩ := J'.look
  obtain ⟨m, hF⟩ := I.fr
  show wpAny (model X.prog X.w) X.A (richCompare .Eq (.ref p) (.ref q)) (EP X pins σ Q) X.xe s
  refine PySem.W.cmp_K (op := .Eq) (tb := .ref C) hr.units0 hF I.ok.mod.kin J J'.type (by simp [PySem.W.notFirst]) M.at_ M.fn ?_
  refine wpAny_mono (run_fn (us := [.ref p, .ref q]) (vs := [.ref p, .ref q]) F hr hb .nil hx I (.cons rfl (.cons rfl .nil)) (by rw [List.append_nil]; exact hq)) (fun r s' hq' => ?_) fun _ _ z => z
  obtain ⟨z, H', I', rz, b, ez, q⟩ := hq'
  subst ez
  obtain rfl : r = Value.bool b := rz
  exact ⟨.bl b, H', I', rfl, q⟩
/-! ### a text times an int -/
def repS (z : Str) (n : Nat) : Str := ⟨((List.replicate n z.cps.toList).flatten).toArray⟩
theorem fold_rep (a : Array Nat) : ∀ (n : Nat) (acc : Array Nat), ((List.replicate n a).foldl (· ++ ·) acc).toList = acc.toList ++ (List.replicate n a.toList).flatten
  | 0, acc => by simp
  | n + 1, acc => by
    rw [List.replicate_succ, List.foldl_cons, fold_rep a n]
    simp [List.replicate_succ]
def rMulS : R2 := fun x y H Q => ∃ (z : Str) (n : Int), x = .str z ∧ y = .int n ∧ 1 ≤ n ∧ n ≤ 1000000 ∧ z.length * n.toNat ≤ 1000000 ∧ Q (.str (repS z n.toNat)) H
theorem op_mulS : OpR X (binaryOp .Mult) rMulS := by
  intro pins s σ H x y v u Q I rx ry h
  obtain ⟨z, n, rfl, rfl, h1, h2, hl, q⟩ := h
  obtain ⟨t, rfl⟩ := rx
  obtain ⟨t', rfl⟩ := ry
  have hz : z.length ≤ 1000000 := by
    have : 1 ≤ n.toNat := by omega
    exact Nat.le_trans (Nat.le_mul_of_pos_right _ this) hl
  have e0 : ((List.replicate n.toNat z.cps).foldl (· ++ ·) #[]) = ((List.replicate n.toNat z.cps.toList).flatten).toArray := by
    apply Array.ext'
    rw [fold_rep]
    simp
  refine P.mul_str (by
      have a1 : ¬ n < -(2 ^ 63 : Int) := by omega
      have a2 : ¬ n ≥ 2 ^ 63 := by omega
      rw [decide_eq_false a1, decide_eq_false a2]; rfl) (fun _ _ => ?_) (fun _ _ => ?_) ?_
  · have := Int.le_ediv_of_mul_le (a := 1000000) (b := (2 ^ 63 - 1 : Int)) (c := n) (by omega) (by
      have : (1000000 : Int) * n ≤ 1000000 * 1000000 := Int.mul_le_mul_of_nonneg_left h2 (by decide)
      omega)
    omega
  · show decide (z.length * n.toNat > sizeLine) = false
    rw [sizeLine_eq]
    exact decide_eq_false (by omega)
  · rw [if_neg (by omega)]
    by_cases c : (n == 1 || z.length == 0) = true
    · rw [if_pos c]
      have e1 : repS z n.toNat = z := by
        unfold repS
        rcases Bool.or_eq_true_iff.mp c with c | c
        · have : n = 1 := by simpa using c
          subst this
          simp
        · have c : z.cps.size = 0 := eq_of_beq c
          have : z.cps = #[] := Array.eq_empty_of_size_eq_zero c
          have e2 : z = ⟨#[]⟩ := by
            obtain ⟨a⟩ := z
            simp at this
            rw [this]
          rw [e2]
          simp
      rw [e1] at q
      exact ⟨.str z, H, I, ⟨_, rfl⟩, q⟩
    · rw [if_neg c]
      have e1 : (⟨(List.replicate n.toNat z.cps).foldl (· ++ ·) #[]⟩ : Str) = repS z n.toNat := by
        rw [e0]
        rfl
      rw [e1]
      refine ⟨?_, ⟨.str _, H, I.tok _, ⟨_, rfl⟩, q⟩⟩
      have e2 : (repS z n.toNat).length = n.toNat * z.length := by simp [repS, Str.length]
      rw [e2, sizeLine_eq, Nat.mul_comm]
      omega
end
/-! ### try: body, except x as n: suite, and further clauses; the first one takes -/
def wAs1 (K : PySem.W.Frag) (c : Value) (i : Nat) (ts : Addr → Value → Option Addr → TS) (D : Ends) : WX := fun cls d σ H =>
  PySem.W.exmOne K cls c = some true ∧ ∀ a, H a = none → ts a cls d { nx := fun σ' H' => D.nx (σ'.set i none) H', rt := D.rt, bk := fun σ' H' => D.bk (σ'.set i none) H', ct := fun σ' H' => D.ct (σ'.set i none) H' } (σ.set i (some (.ref a))) H
section
variable {X : Cx} {x n : Str} {c : Value} {i : Nat} {body suite : List Stmt} {hds : List ExceptHandler} {b₀ : Stmt} {np pos pos' : Pos} {tb : WX → TS} {ts : Addr → Value → Option Addr → TS}
theorem ps_try_as1 (hs : X.stack = X.env :: X.outer) (hf : X.env.frame = some X.env.locals) (hN : X.N.Nodup) (hi : X.N[i]? = some n) (hln : X.env.kindOf n = some .local) (hc : Names X x c)
    (hb : ∀ (W : WX) (pn : List (Addr × Obj)) (xe : Value → Shared → Prop), Takes (X.tr pn xe) W → PassesOwn (model X.prog X.w) X.A X.env xe → PSs (X.tr pn xe) body (tb W))
    (hsu : ∀ (a : Addr) (oe : Obj) (cls : Value) (d : Option Addr) (pn : List (Addr × Obj)), Zc cls d oe → (∃ vs, oe.data = .fields vs) → PSs (X.suite a ((a, oe) :: pn)) (b₀ :: suite) (ts a cls d)) :
    PS X (.Try body (.ExceptHandler (some (.Name x np)) (some n) (b₀ :: suite) pos' :: hds) [] [] pos) (fun D σ H => tb (wAs1 X.K c i ts D) D σ H) := by
  refine ⟨fun pins s σ H D I h => ?_⟩
  have ok := I.ok
  have hfr : X.A.frames = some (X.env :: X.outer) := by rw [ok.frames, hs]
  have hloc : Loc X.env.scope n := .inl hln
  refine wpAny_Try_except ?_
  refine wpAny_mono ((hb (wAs1 X.K c i ts D) (X.pn ++ pins) (fun e s₁ => wpAny (model X.prog X.w) X.A (noteFrame e X.env) (fun _ s₂ => wpAny (model X.prog X.w) X.A (setFlight e none) (fun _ s₃ =>
    wpAny (model X.prog X.w) X.A (handleBy e X.env (.ExceptHandler (some (.Name x np)) (some n) (b₀ :: suite) pos' :: hds)) (SP X pins D) X.xe s₃) X.xe s₂) X.xe s₁) (fun u s' xx => ?_) PassesOwn.looking).run [] s σ H D (I.toTry _) h) (fun f s1 hsp => ?_) (fun e s1 he => he)
  · obtain ⟨a, B, sI, pins', σ', H', cls, d, rfl, J', nb, up, sky, na, os, ag, hb1, hyes⟩ := xx
    have J : Inv X pins σ' H' sI := J'.ofTry ok
    have sky' : Sky B (X.env :: X.outer) a (Zc cls d) X.env.locals s'.heap := by rw [← hs]; exact sky
    show wpAny (model X.prog X.w) X.A (noteFrame (.ref a) X.env) _ _ _
    refine Sky.land Zc.steady hfr hf sky' fun h3 fl3 up3 => ?_
    have J3 : Inv X pins σ' H' { s' with heap := h3 } := J.landed nb fl3.1 (up.trans up3) os ag
    obtain ⟨oe3, vs3, he3, hz3, hd3⟩ := fl3.there
    have notFr : ∀ {h : Heap} {o : Obj} {vs : Array Value}, h.FunFrames B (X.env :: X.outer) → h.get? a = some o → o.data = .fields vs → a ∉ frs (X.env :: X.outer) := fun {h o vs} ff e dd hm => by
      obtain ⟨_, o', e', hnf⟩ := ff.mem hm
      rw [e] at e'; cases e'
      exact hnf _ dd
    have nfr := notFr fl3.2.2.1 he3 hd3
    have nL : a ≠ X.env.locals := fun z => nfr (List.mem_filterMap.mpr ⟨X.env, List.mem_cons_self, by rw [hf, z]⟩)
    have nF : a ∉ X.fs := fun hm => by
      obtain ⟨e, he, q⟩ := List.mem_filterMap.mp hm
      exact nfr (List.mem_filterMap.mpr ⟨e, List.mem_cons_of_mem _ he, q⟩)
    have S3 := J3.suite he3 hd3 na nL nF
    refine wpAny_handleBy_cons (codeAny_handlers_test ?_) (by intro q; cases q)
    have LT : PySem.W.Looks (model X.prog X.w) h3 (typeOf (.ref a)) cls := fun A Q E s k q => wpAny_typeOf_ref (k _ _ he3) (by rw [hz3.1]; exact q)
    have LM := PySem.W.exm_one (M := model X.prog X.w) (J3.kIn) LT hb1
    have test : ∀ {Q : Value → Shared → Prop} {E : Value → Shared → Prop}, Q c { s' with heap := h3 } → wpAny (model X.prog X.w) (X.A.mark (some (.ref a))) (eval (.Name x np) X.env) Q E { s' with heap := h3 } := fun {Q E} q => by
      obtain ⟨hg, hdbg, hm | ⟨hm, hv, hnn⟩⟩ := hc
      · exact ld_glob (X := X.suite a ((a, oe3) :: (X.pn ++ pins))) S3 hg hm q hdbg
      · exact ld_blt (X := X.suite a ((a, oe3) :: (X.pn ++ pins))) S3 hg hm hv q hnn hdbg
    refine test (LM.here ?_)
    refine codeAny_handlers_suite_as ?_
    refine HandSPX.lands_againZ fl3 fun h4 fl4 up4 => ?_
    have J4 : Inv X pins σ' H' { s' with heap := h4 } := J.landed nb fl4.1 ((up.trans up3).trans up4) os ag
    obtain ⟨oe4, vs4, he4, hz4, hd4⟩ := fl4.there
    have S4 := J4.suite he4 hd4 na nL nF
    refine store_ok (X := X.suite a ((a, oe4) :: (X.pn ++ pins))) (v := .ref a) S4 hN hi hloc rfl (fun s5 S5 => ?_) (.inr hln)
    refine wpAny_mono ((hsu a oe4 cls d (X.pn ++ pins) hz4 ⟨_, hd4⟩).run [] s5 _ H' _ S5 (hyes a na)) (fun f s6 hsp => ?_) (fun _ _ z => False.elim z)
    have end_ : ∀ {σ6 : L2.St} {H6 : Hp} {Q : Shared → Prop}, Inv (X.suite a ((a, oe4) :: (X.pn ++ pins))) [] σ6 H6 s6 → (∀ s7, Inv X pins (σ6.set i none) H6 s7 → Q s7) →
        wpAny (model X.prog X.w) X.A (do bindName X.env n .none; unbindBehindTheSuite X.env n pos') (fun _ s7 => Q s7) X.xe s6 := fun {σ6 H6 Q} S6 hq => gone_ok (S6.unsuite ok) hN hi hln hq
    cases f with
    | next =>
      obtain ⟨σ6, H6, S6, q6⟩ := hsp
      exact end_ S6 fun s7 J7 => ⟨_, _, J7, q6⟩
    | brk =>
      obtain ⟨σ6, H6, S6, q6⟩ := hsp
      exact end_ S6 fun s7 J7 => ⟨_, _, J7, q6⟩
    | cont =>
      obtain ⟨σ6, H6, S6, q6⟩ := hsp
      exact end_ S6 fun s7 J7 => ⟨_, _, J7, q6⟩
    | ret u =>
      obtain ⟨v6, σ6, H6, S6, r6, q6⟩ := hsp
      exact end_ S6 fun s7 J7 => ⟨_, _, _, J7, r6, q6⟩
  · cases f with
    | next =>
      obtain ⟨σ', H', J', q⟩ := hsp
      exact wpAny_execs_nil ⟨σ', H', J'.ofTry ok, q⟩
    | brk =>
      obtain ⟨σ', H', J', q⟩ := hsp
      exact ⟨σ', H', J'.ofTry ok, q⟩
    | cont =>
      obtain ⟨σ', H', J', q⟩ := hsp
      exact ⟨σ', H', J'.ofTry ok, q⟩
    | ret u =>
      obtain ⟨v, σ', H', J', r, q⟩ := hsp
      exact ⟨v, σ', H', J'.ofTry ok, r, q⟩
end
end K12
namespace K12
open PySem PySem.Spec PyProof.Rows L2
/-! ### enumerate(tuple) -/
theorem meets_enum1 {v : Value} {o : Obj} {H : Heap → Prop} (B : Begins v o H) :
    Meets (Builtin.«enumerate.__new__» ⟨[.type "enumerate", v], []⟩) (fun _ R s => H s.heap ∧
      R (.ok (.ret (.ref (s.heap.push o).objs.size))) { s with heap := (s.heap.push o).push { cls := .type "enumerate", data := .fields #[.none, .bool false, .ref s.heap.objs.size, rawInt 0, .none, .none] } }) :=
  .of_wp fun prog w A R s h => by
    obtain ⟨hp, g, d, tk, os⟩ := s; obtain ⟨h1, h⟩ := h
    have hsub := sub_enumerate
    have q1 : ∀ {A' : Around} {E : Value → Shared → Prop} {Q : Value → Shared → Prop}, Q (.ref hp.objs.size) ⟨hp.push o, g, d, tk, os⟩ → wpAny (model prog w) A' (pyIter v) Q E ⟨hp, g, d, tk, os⟩ :=
      fun q => B.iter prog w _ _ ⟨hp, g, d, tk, os⟩ _ h1 q
    wp_walk using q1
    refine wpAny_stack_any fun st => wpAny_pure ?_
    split
    · rename_i c _ _ _ _ _
      cases (c == Value.type "enumerate")
      · wp_walk using q1
        exact ⟨_, rfl, h⟩
      · wp_walk using q1
        exact ⟨_, rfl, h⟩
    · wp_walk using q1
      exact ⟨_, rfl, h⟩
theorem call_enum1 {prog : Program} {w : World} {A : Around} {E : Value → Shared → Prop} {s : Shared} {v : Value} {o : Obj} {H : Heap → Prop} {Q : Value → Shared → Prop} (B : Begins v o H) (h1 : H s.heap)
    (h : ∀ h', IsEnum h' (s.heap.objs.size + 1) s.heap.objs.size 0 .none → h'.get? s.heap.objs.size = some o → h'.objs.size = s.heap.objs.size + 2 →
      (∀ b o, s.heap.get? b = some o → h'.get? b = some o) → Q (.ref (s.heap.objs.size + 1)) { s with heap := h' }) :
    wpAny (model prog w) A (call (.type "enumerate") [v]) Q E s := by
  refine callType_new F.called_enumerate (by decide) (F.typeCall_enumerate_1 _) (F.newCall_enumerate_1 _) (fun obj => F.args_object_init_2 obj _) F.entry_enumerate_new
    (meets_enum1 B) ⟨h1, ?_⟩
  have hz : (s.heap.push o).objs.size = s.heap.objs.size + 1 := Heap.size_push ..
  show _ ∧ _
  rw [hz]
  have he : IsEnum ((s.heap.push o).push { cls := .type "enumerate", data := .fields #[.none, .bool false, .ref s.heap.objs.size, rawInt 0, .none, .none] }) (s.heap.objs.size + 1) s.heap.objs.size 0 .none := by
    have := Heap.get?_push_size (s.heap.push o) (o := { cls := .type "enumerate", data := .fields #[.none, .bool false, .ref s.heap.objs.size, rawInt 0, .none, .none] }) rfl
    rw [hz] at this; exact this
  refine ⟨⟨_, he, rfl⟩, h _ he (Heap.get?_push_of_some _ (Heap.get?_push_size _ B.free)) (by rw [Heap.size_push, hz]) fun b o x => Heap.get?_push_of_some _ (Heap.get?_push_of_some _ x)⟩
/-- the tuple at a, each item in a new pair -/
def ItE (K : PySem.W.Frag) (a : Addr) : It :=
  ⟨fun i H => ∃ (xs : List V) (x : V), SqT K H a xs ∧ xs[i]? = some x, fun i H v H' => ∃ T x, v = .ref T ∧ H T = none ∧ H' = upd H T (.tup [.int (i : Nat), x]) ∧ ∀ xs, SqT K H a xs → xs[i]? = some x, fun i H => ∃ xs : List V, SqT K H a xs ∧ xs.length ≤ i⟩
theorem turn_enumT {P : Program} {w : World} {K : PySem.W.Frag} {elts : List Expr} {kk : Nat} {tpos : Pos} (a e it : Addr) :
    Turn P w K (.Tuple elts kk tpos) (ItE K a) [e, it] e (fun i h => (∃ old, IsEnum h e it ((i : Nat) : Int) old) ∧ h.IsTupleIter it a i ∧ e ≠ it ∧ a ≠ it) where
  mem := by simp
  obj := fun i h st b hb => by
    obtain ⟨⟨old, he⟩, ⟨o, ho, hc, hd⟩, _⟩ := st
    have e' : b = e ∨ b = it := by simpa using hb
    rcases e' with z | z
    · rw [z]; exact ⟨_, he, fun v q => nomatch q⟩
    · rw [z]; exact ⟨o, ho, fun v q => by rw [hd] at q; cases q⟩
  keep := fun i h h' st k => let ⟨⟨old, he⟩, hi, hne⟩ := st; ⟨⟨old, k e (by simp) _ he⟩, hi.at fun o q => k it (by simp) o q, hne⟩
  item := by
    intro X hP hw hK hc i pins s σ H E I hf st hg
    subst hP hw hK
    obtain ⟨⟨old, he⟩, hit, hne, hat⟩ := st
    obtain ⟨xs, x, hq, hx⟩ := hg
    obtain ⟨its, rv, p, hz⟩ := I.tuple hq
    obtain ⟨u, hu, ru⟩ := rv.get hx
    have hel : e < s.heap.objs.size := Heap.lt_size he
    have hil : it < s.heap.objs.size := by obtain ⟨_, q, _⟩ := hit; exact Heap.lt_size q
    have hea : e ≠ a := fun z => by
      obtain ⟨o, e1, e2, _⟩ := (show s.heap.IsTuple a its.toArray from p)
      rw [← z, show s.heap.get? e = some _ from he] at e1
      cases e1
      injection e2 with e3
      exact absurd e3 (by decide)
    have lt : i < its.toArray.size := by
      have := (List.getElem?_eq_some_iff.mp hu).1
      simpa using this
    refine wpAny_pyNext_enum_itemD (Draws.tuple (A := X.A.in1) (I.ok.hd hc) it a hat its.toArray) he ⟨hit, p⟩ lt hne (by simp [hne, hea]) fun u' h' tk hu' ho st' hT hsz hk => ?_
    have eu : u' = u := by
      have q1 : its.toArray[i]? = some u' := hu'
      rw [show its.toArray[i]? = some u by simpa using hu] at q1
      exact (Option.some.inj q1).symm
    subst eu
    refine ⟨_, rfl, wpAny_letOwnedTupleGo_enum (s := { s with heap := h', toks := tk + 1 }) ho fun h'' he' sb => ?_⟩
    have hT2 : h''.get? s.heap.objs.size = some { cls := .type "tuple", data := .seq #[.int i tk, u'] } := (sb.2 _ (Nat.ne_of_gt hel)).trans hT
    have new : ObjOk X.prog X.w (upd H s.heap.objs.size (.tup [.int (i : Nat), x])) h'' s.heap.objs.size (.tup [.int (i : Nat), x]) :=
      ⟨by show 2 ≤ sizeLine; decide, [.int i tk, u'], .cons ⟨_, rfl⟩ (.cons ru .nil), ⟨_, hT2, rfl, _, rfl⟩⟩
    have I1 : Inv X pins σ (upd H s.heap.objs.size (.tup [.int (i : Nat), x])) { s with heap := h'', toks := tk + 1 } :=
      I.turnedNew (ch := [e, it]) (fun b ob hb q => (sb.2 b (fun z => hb (by simp [z]))).trans (hk b ob (fun z => hb (by simp [z])) (fun z => hb (by simp [z])) q)) hf (Nat.le_refl _) new
    refine ⟨.ref s.heap.objs.size, _, I1, rfl, ⟨_, x, rfl, I.hok.fresh (Nat.le_refl _), rfl, fun ys hy => by rw [I.tuple_inj hy hq]; exact hx⟩, ⟨⟨u', ?_⟩, st'.1.at fun o q => (sb.2 it (Ne.symm hne)).trans q, hne, hat⟩, fun b hb => ?_⟩
    · have e1 : ((i + 1 : Nat) : Int) = (i : Int) + 1 := by omega
      rw [e1]; exact he'
    · have hb' : b < s.heap.objs.size := by
        have e' : b = e ∨ b = it := by simpa using hb
        rcases e' with z | z
        · rw [z]; exact hel
        · rw [z]; exact hil
      rw [upd_ne (Nat.ne_of_lt hb')]
      exact (hf b hb).1
  done := by
    intro X hP hw hK hc i pins s σ H E I hf st hg
    subst hP hw hK
    obtain ⟨⟨old, he⟩, hit, hne, hat⟩ := st
    obtain ⟨xs, hq, hx⟩ := hg
    obtain ⟨its, rv, p, hz⟩ := I.tuple hq
    obtain ⟨f0, f1, f2, f3, f4, f5⟩ := hf it (by simp)
    have hl := rv.length
    have hT : s.TypeIs (.ref e) "enumerate" := ⟨_, he, rfl⟩
    unfold pyNext
    refine wpAny_bind (wpAny_attempt (wpAny_callSpecial?_slot (name := Str.ofString "__next__") hT F.slot_enumerate_next
      (wpAny_call_entry F.slot_enumerate_next hT F.entry_enumerate_next ?_ (F.args_enumerate_next_1 _))))
    show wpAny _ _ (field (.ref e) 2 >>= _) _ _ _
    refine wpAny_bind (wpAny_field he rfl (x := .ref it) rfl ?_)
    refine wpAny_bind (wpAny_nextOf_tuple_end (I.ok.hd hc) hit (show s.heap.IsTuple a its.toArray from p) (by simp; omega) fun h' x he' hx' => ?_)
    obtain ⟨o, ho, hc'⟩ := hx'
    refine wpAny_bind (wpAny_isInstance (T := "StopIteration") (b := true) ⟨o, ho, hc'⟩ isSubtype_stop ?_)
    exact wpAny_pure ⟨rfl, I.turned (t' := s.toks) (fun b o hb q => he' b o hb q) f0 f1 f3 f4 f5⟩
  self := fun A i s Q E st h => let ⟨⟨_, he⟩, _⟩ := st; wpAny_pyIter_enum he h
def iEnumT (K : PySem.W.Frag) (ta : TA) : TI := fun σ H R => ta σ H fun vs H1 => ∃ a xs, vs = [.ref a] ∧ ((SqL K H1 a xs ∧ R (Ite K a) H1) ∨ (SqT K H1 a xs ∧ R (ItE K a) H1))
theorem pi_enumT {X : Cx} {e : Expr} {ta : TA} {p pos tpos : Pos} {elts : List Expr} {kk : Nat} (hg : Gl X "enumerate") (hm : X.mg "enumerate" = none) (ha : PA X [e] ta) (hs : starEach [e] X.env = [(false, eval e X.env)] := by rfl) :
    PI X (.Tuple elts kk tpos) (.Call (.Name "enumerate" p) [e] [] pos) (iEnumT X.K ta) := by
  refine ⟨fun pins s σ H R I h => ?_⟩
  refine Call_ (ld_blt I hg hm boot_enumerate (PyProof.Rows.callWith_type1 (thn (ha.run pos pins s σ H _ I h) fun us s1 ⟨vs, H1, I1, r1, q1⟩ => ?_) hs rfl))
  obtain ⟨a, xs, ex, hq⟩ := q1
  subst ex
  cases r1 with
  | cons r rr =>
    cases rr
    cases r
    have two : ∀ b ∈ [s1.heap.objs.size + 1, s1.heap.objs.size], FpOk X pins H1 b := fun b hb => by
      have e' : b = s1.heap.objs.size + 1 ∨ b = s1.heap.objs.size := by simpa using hb
      have hle : s1.heap.objs.size ≤ b := by
        rcases e' with z | z
        · rw [z]; exact Nat.le_add_right _ _
        · rw [z]; exact Nat.le_refl _
      exact I1.fpOk hle (I1.hok.fresh hle)
    rcases hq with ⟨hq, q⟩ | ⟨hq, q⟩
    · obtain ⟨its, rv, p', hz⟩ := I1.list hq
      refine call_enumerate_list p'.isList fun h' he hit hsz hk => wpAny_pyIter_enum he ?_
      have I2 : Inv X pins σ H1 { s1 with heap := h' } := I1.kept (t' := s1.toks) hk
      exact ⟨s1.heap.objs.size + 1, [s1.heap.objs.size + 1, s1.heap.objs.size], _, _, H1, rfl, I2, turn_enum a (s1.heap.objs.size + 1) s1.heap.objs.size, ⟨⟨.none, he⟩, hit, Nat.succ_ne_self _⟩, two, q⟩
    · obtain ⟨its, rv, p', hz⟩ := I1.tuple hq
      refine call_enum1 (begins_tuple a its.toArray) (show s1.heap.IsTuple a its.toArray from p') fun h' he hit hsz hk => wpAny_pyIter_enum he ?_
      have I2 : Inv X pins σ H1 { s1 with heap := h' } := I1.kept (t' := s1.toks) hk
      have hal : a < s1.heap.objs.size := by
        obtain ⟨o, e1, _⟩ := (show s1.heap.IsTuple a its.toArray from p')
        exact Heap.lt_size e1
      exact ⟨s1.heap.objs.size + 1, [s1.heap.objs.size + 1, s1.heap.objs.size], _, _, H1, rfl, I2, turn_enumT a (s1.heap.objs.size + 1) s1.heap.objs.size, ⟨⟨.none, he⟩, ⟨_, hit, rfl, rfl⟩, Nat.succ_ne_self _, Nat.ne_of_lt hal⟩, two, q⟩
theorem walk_enumT {K : PySem.W.Frag} {a : Addr} {xs : List V} : Walk (ItE K a) xs.length (fun H => SqT K H a xs) (YPair (fun i => some (.int (i : Nat))) (fun i => xs[i]?)) := by
  refine ⟨fun i _ hi q => ⟨xs, xs[i], q, by simp [hi]⟩, fun _ q => ⟨xs, q, Nat.le_refl _⟩, fun i H v H' _ q y => ?_⟩
  obtain ⟨T, x, h1, h2, h3, h4⟩ := y
  exact ⟨T, .int (i : Nat), x, h1, h2, h3, rfl, h4 xs q⟩
end K12
namespace K12
open PySem PySem.Spec PyProof.Rows L2 LamX NdefX
/-! ### cells that are tracked, frozen -/
/-- at c: a cell that holds v -/
def CelO (c : Addr) (v : V) : HO := .ext fun h => ∃ u, RelV v u ∧ h.IsCell c (some u)
abbrev Ov := Addr → Option HO
def ovl (Z : Ov) (H : Hp) : Hp := fun b => match Z b with
  | some z => some z
  | none => H b
def cut (Z : Ov) (H : Hp) : Hp := fun b => match Z b with
  | some _ => none
  | none => H b
structure Froz (Z : Ov) : Prop where
  fz : ∀ b z, Z b = some z → ∃ o v, z = .frz o (CelO b v)
theorem ovl_some {Z : Ov} {H : Hp} {b : Addr} {z : HO} (e : Z b = some z) : ovl Z H b = some z := by unfold ovl; rw [e]
theorem ovl_none {Z : Ov} {H : Hp} {b : Addr} (e : Z b = none) : ovl Z H b = H b := by unfold ovl; rw [e]
theorem cut_some {Z : Ov} {H : Hp} {b : Addr} {z : HO} (e : Z b = some z) : cut Z H b = none := by unfold cut; rw [e]
theorem cut_none {Z : Ov} {H : Hp} {b : Addr} (e : Z b = none) : cut Z H b = H b := by unfold cut; rw [e]
theorem cel_ok {P : Program} {w : World} {H : Hp} {h : Heap} {b : Addr} {o : Obj} {v : V} {u : Value} (e : h.get? b = some o) (r : RelV v u) (d : o.data = .cell (some u)) : ObjOk P w H h b (.frz o (CelO b v)) :=
  ⟨e, ⟨u, r, o, e, d⟩, ⟨o, e⟩, fun h1 h2 ⟨u', r', o', e', d'⟩ k => ⟨u', r', o', k _ e', d'⟩⟩
theorem cel_at {P : Program} {w : World} {H : Hp} {h : Heap} {b : Addr} {o : Obj} {v : V} (x : ObjOk P w H h b (.frz o (CelO b v))) : h.get? b = some o ∧ ∃ u, RelV v u ∧ h.IsCell b (some u) := ⟨x.1, x.2.1⟩
theorem cel_move {P : Program} {w : World} {H H' : Hp} {h h' : Heap} {b : Addr} {o : Obj} {v : V} (x : ObjOk P w H h b (.frz o (CelO b v))) (e : h'.get? b = some o) : ObjOk P w H' h' b (.frz o (CelO b v)) := by
  obtain ⟨e1, u, r, o', e2, d⟩ := cel_at x
  rw [e1] at e2
  cases e2
  exact cel_ok e r d
section
variable {P : Program} {w : World} {Z : Ov} {H H' : Hp} {h h' : Heap} {fs : List Addr}
/-- untracked cells are tracked from now on -/
theorem hok_ovl (F : Froz Z) (hok : HOk P w H h) (n : ∀ b z, Z b = some z → H b = none) (c : ∀ b z, Z b = some z → ObjOk P w H h b z) : HOk P w (ovl Z H) h := fun b u e => by
  cases q : Z b with
  | some z =>
    rw [ovl_some q] at e
    cases e
    obtain ⟨o, v, rfl⟩ := F.fz b u q
    exact cel_move (c b _ q) (cel_at (c b _ q)).1
  | none =>
    rw [ovl_none q] at e
    refine (hok b u e).stay (fun _ _ _ r => r) (fun c' r => ?_) fun c' xs r => ?_
    · cases q' : Z c' with
      | some z => rw [n c' z q'] at r; cases r
      | none => rw [ovl_none q']; exact r
    · cases q' : Z c' with
      | some z => rw [n c' z q'] at r; cases r
      | none => rw [ovl_none q']; exact r
theorem hok_cut (F : Froz Z) (hok : HOk P w H h) (t : ∀ b z, Z b = some z → H b = some z) : HOk P w (cut Z H) h := fun b u e => by
  cases q : Z b with
  | some z => rw [cut_some q] at e; cases e
  | none =>
    rw [cut_none q] at e
    refine (hok b u e).stay (fun _ _ _ r => r) (fun c' r => ?_) fun c' xs r => ?_
    · cases q' : Z c' with
      | some z =>
        obtain ⟨o, v, rfl⟩ := F.fz c' z q'
        rw [t c' _ q'] at r
        cases r
      | none => rw [cut_none q']; exact r
    · cases q' : Z c' with
      | some z =>
        obtain ⟨o, v, rfl⟩ := F.fz c' z q'
        rw [t c' _ q'] at r
        cases r
      | none => rw [cut_none q']; exact r
/-- the callee saw the cells tracked; the caller does not -/
theorem un_cut (F : Froz Z) (u : Un fs [] (ovl Z H) H' h h') (n : ∀ b z, Z b = some z → H b = none) (hok : HOk P w (ovl Z H) h) (hok' : HOk P w H' h') : Un fs [] H (cut Z H') h h' ∧ ∀ b z, Z b = some z → H' b = some z := by
  have st : ∀ b z, Z b = some z → H' b = some z := fun b z e => by
    obtain ⟨o, v, rfl⟩ := F.fz b z e
    exact u.frzs b o _ (ovl_some e)
  have kp : ∀ b z, Z b = some z → ∀ o, h.get? b = some o → h'.get? b = some o := fun b z e o ho => by
    have e1 := hok b z (ovl_some e)
    have e2 := hok' b z (st b z e)
    obtain ⟨o', v, rfl⟩ := F.fz b z e
    rw [(cel_at e1).1] at ho
    cases ho
    exact (cel_at e2).1
  have none_ : ∀ b y, H b = some y → Z b = none := fun b y e => by
    cases q : Z b with
    | none => rfl
    | some z => rw [n b z q] at e; cases e
  refine ⟨⟨fun b o e nb hb hx => ?_, fun b o e nb hb hx => ?_, fun b o e nb hx => ?_, fun b o e hx => u.there b o e hx, fun b xs e => ?_, fun b o x e => ?_, fun b ps e => ?_⟩, st⟩
  · cases q : Z b with
    | some z => exact kp b z q o e
    | none => exact u.keep b o e (by rw [ovl_none q]; exact nb) hb hx
  · cases q : Z b with
    | some z => exact ⟨o.slots, kp b z q o e⟩
    | none => exact u.slot b o e (by rw [ovl_none q]; exact nb) hb hx
  · cases q : Z b with
    | some z => exact cut_some q
    | none =>
      rw [cut_none q]
      exact u.free b o e (by rw [ovl_none q]; exact nb) hx
  · have q := none_ b _ e
    rw [cut_none q]
    exact u.tups b xs (by rw [ovl_none q]; exact e)
  · have q := none_ b _ e
    rw [cut_none q]
    exact u.frzs b o x (by rw [ovl_none q]; exact e)
  · have q := none_ b _ e
    rw [cut_none q]
    exact u.tbls b ps (by rw [ovl_none q]; exact e)
/-- the lambda saw its cells untracked; its caller has them tracked -/
theorem un_ovl (F : Froz Z) (u : Un fs [] (cut Z H) H' h h') (t : ∀ b z, Z b = some z → H b = some z) (nf : ∀ b z, Z b = some z → b ∉ fs) (n' : ∀ b z, Z b = some z → H' b = none) (hok : HOk P w H h) (hok' : HOk P w H' h') :
    Un fs [] H (ovl Z H') h h' ∧ HOk P w (ovl Z H') h' := by
  have kp : ∀ b z, Z b = some z → ∀ o, h.get? b = some o → h'.get? b = some o := fun b z e o ho => u.keep b o ho (cut_some e) (nf b z e) (by simp)
  refine ⟨⟨fun b o e nb hb hx => ?_, fun b o e nb hb hx => ?_, fun b o e nb hx => ?_, fun b o e hx => u.there b o e hx, fun b xs e => ?_, fun b o x e => ?_, fun b ps e => ?_⟩, hok_ovl F hok' n' fun b z e => ?_⟩
  · cases q : Z b with
    | some z => exact kp b z q o e
    | none => exact u.keep b o e (by rw [cut_none q]; exact nb) hb hx
  · cases q : Z b with
    | some z => exact ⟨o.slots, kp b z q o e⟩
    | none => exact u.slot b o e (by rw [cut_none q]; exact nb) hb hx
  · cases q : Z b with
    | some z => rw [t b z q] at nb; cases nb
    | none =>
      rw [ovl_none q]
      exact u.free b o e (by rw [cut_none q]; exact nb) hx
  · cases q : Z b with
    | some z =>
      obtain ⟨o, v, rfl⟩ := F.fz b z q
      rw [t b _ q] at e
      cases e
    | none =>
      rw [ovl_none q]
      exact u.tups b xs (by rw [cut_none q]; exact e)
  · cases q : Z b with
    | some z =>
      rw [ovl_some q, ← t b z q]
      exact e
    | none =>
      rw [ovl_none q]
      exact u.frzs b o x (by rw [cut_none q]; exact e)
  · cases q : Z b with
    | some z =>
      obtain ⟨o, v, rfl⟩ := F.fz b z q
      rw [t b _ q] at e
      cases e
    | none =>
      rw [ovl_none q]
      exact u.tbls b ps (by rw [cut_none q]; exact e)
  · have x := hok b z (t b z e)
    obtain ⟨o, v, rfl⟩ := F.fz b z e
    exact cel_move x (kp b _ e o (cel_at x).1)
end
/-! ### a lambda, its object tracked -/
def LamO (f : Addr) (F : NF) (body : Expr) : HO := .ext fun h => ∃ pm ctv, h.get? f = some (PySem.W.kla_obj "<lambda>" F.qual F.params body F.scope F.cl pm F.c ctv)
theorem lamO_at {P : Program} {w : World} {H : Hp} {h : Heap} {f : Addr} {F : NF} {body : Expr} (hok : HOk P w H h) (e : H f = some (LamO f F body)) : ∃ pm ctv, h.get? f = some (PySem.W.kla_obj "<lambda>" F.qual F.params body F.scope F.cl pm F.c ctv) := by
  obtain ⟨z, _, _⟩ := hok f _ e
  exact z
section
variable {X : Cx} {pins : List (Addr × Obj)} {σ : L2.St} {H : Hp} {s : Shared}
theorem inv_lam {F : NF} {body : Expr} {o : Obj} {t' : Nat} {pm ctv : Value} (I : Inv X pins σ H s) (ho : o = PySem.W.kla_obj "<lambda>" F.qual F.params body F.scope F.cl pm F.c ctv) :
    Inv X pins σ (upd H s.heap.objs.size (LamO s.heap.objs.size F body)) { s with heap := s.heap.push o, toks := t' } := by
  subst ho
  refine I.laid (a := s.heap.objs.size) (fun b u e => Heap.get?_push_of_some _ e) (Nat.le_refl _) ?_
  have e : (s.heap.push (PySem.W.kla_obj "<lambda>" F.qual F.params body F.scope F.cl pm F.c ctv)).get? s.heap.objs.size = some (PySem.W.kla_obj "<lambda>" F.qual F.params body F.scope F.cl pm F.c ctv) := Heap.get?_push_size _ rfl
  exact ⟨⟨pm, ctv, e⟩, ⟨_, e⟩, fun h1 h2 ⟨p, d, z⟩ st => ⟨p, d, st _ z⟩⟩
def tLamV (T : List (Addr × Str)) (mk : Addr → NF) (body : Expr) : TE := fun σ H Q => Tabs T H ∧ ∀ (f c' : Addr) (H1 : Hp), ExtN H H1 → (∀ b, H1 b = Option.none → H b = Option.none) → Tabs T H1 → H f = none → H1 f = some (LamO f (mk c') body) → H1 c' = some (CodeO c' (mk c').qual) → Q (.ref f) H1
theorem lam_make3 {T : List (Addr × Str)} {c P : Addr} {params : Arguments} {body : Expr} {scope : Scope} {pos : Pos} {E : Value → Shared → Prop} {Q : Value → Shared → Prop} (I : Inv X pins σ H s) (TB : TabB X.base X.mg c P) (hcode : X.env.code = .ref c)
    (hm : (P, X.env.qual ++ "<lambda>") ∈ T) (hu : ∀ p ∈ T, p.1 = P → p.2 = X.env.qual ++ "<lambda>") (hT : Tabs T H) (hdef : defaultsOf params X.env = ([], [])) (hfree : ∀ y ∈ scope.names, y.2 = .free → ∃ c, X.env.cells.lookup y.1 = some c)
    (h : ∀ (f c' : Addr) (H1 : Hp) (s' : Shared), Inv X pins σ H1 s' → ExtN H H1 → (∀ b, H1 b = Option.none → H b = Option.none) → Tabs T H1 → H f = none → H1 f = some (LamO f ⟨"<lambda>", X.env.qual ++ "<lambda>", params, [], scope, cloFrom X.env.cells scope.names [], c'⟩ body) →
      H1 c' = some (CodeO c' (X.env.qual ++ "<lambda>")) → Q (.ref f) s') :
    wpAny (model X.prog X.w) X.A (eval (.Lambda params body scope pos) X.env) Q E s := by
  obtain ⟨ps, hP, ht, ha⟩ := hT _ hm
  refine PySem.W.kla_eval hdef ?_
  have bP : s.heap.BuiltinsAt X.mg P := TB.bm.keeps I.bk
  have hP' : s.heap.get? P = some { cls := .none, data := .fields ps } := I.hok P _ hP
  cases hc : codeAmong pos ps.toList with
  | none =>
    refine PySem.W.kla_makeFunction (mg := X.mg) (c := c) (P := P) (ps := ps) (closure_ok hfree) I.ok.glob (I.mod.glob.keeps I.bk) hcode (TB.code.keeps I.bk) hP' ht hc TB.gP bP fun c' ctv h' tk hx hge hlt hrec htb => ?_
    obtain ⟨c2, oc, vs, t, e2, hoc, hd, hv⟩ := hrec
    cases e2
    have nC : H c' = none := I.hok.fresh hge
    have I1 := inv_table (t' := tk) (more := #[rawInt pos.line, rawInt pos.col, .ref c']) (h' := h') I hP (fun b o hb e => hx b o hb e) htb hge ⟨oc, vs, t, hoc, hd, hv⟩
    have hE : ExtN H (upd (upd H P (.tbl (ps ++ #[rawInt pos.line, rawInt pos.col, .ref c']))) c' (CodeO c' (X.env.qual ++ "<lambda>"))) := fun b o e n => by
      rw [upd_ne (ne_of_none e nC), upd_ne (fun z => n ps (Option.some.inj (e.symm.trans (by rw [z]; exact hP))))]
      exact e
    have eL : (ps ++ #[rawInt pos.line, rawInt pos.col, .ref c']).toList = ps.toList ++ [rawInt pos.line, rawInt pos.col, .ref c'] := by simp
    have T1 : Tabs T (upd (upd H P (.tbl (ps ++ #[rawInt pos.line, rawInt pos.col, .ref c']))) c' (CodeO c' (X.env.qual ++ "<lambda>"))) := fun p hp => by
      by_cases hb : p.1 = P
      · rw [hu p hp hb, hb]
        refine ⟨_, by rw [upd_ne (ne_of_none hP nC), upd_same], by rw [eL]; exact PySem.TriplesOk_snoc _ _ _ _ ht, fun p' cv hcv => ?_⟩
        rw [eL] at hcv
        rcases among_app _ ht hcv with z | z
        · obtain ⟨c0, e1, e2⟩ := ha p' cv z
          exact ⟨c0, e1, hE _ _ e2 codeO_ne⟩
        · exact ⟨c', z, upd_same⟩
      · obtain ⟨ps', a1, a2, a3⟩ := hT p hp
        refine ⟨ps', by rw [upd_ne (ne_of_none a1 nC), upd_ne hb]; exact a1, a2, fun p' cv hcv => ?_⟩
        obtain ⟨c0, e1, e2⟩ := a3 p' cv hcv
        exact ⟨c0, e1, hE _ _ e2 codeO_ne⟩
    have nF := I1.hok.fresh (Nat.le_refl _)
    have I2 := inv_lam (F := ⟨"<lambda>", X.env.qual ++ "<lambda>", params, [], scope, cloFrom X.env.cells scope.names [], c'⟩) (body := body) (t' := tk) (pm := (X.mg "__name__").getD .none) (ctv := ctv) I1 rfl
    refine h h'.objs.size c' _ _ I2 (fun b o e n => ?_) (fun b e => upd_none (upd_none (upd_none e))) (T1.ext fun b o e => ?_) (I.hok.fresh (Nat.le_trans hge (Nat.le_of_lt hlt))) upd_same ?_
    · have e1 := hE b o e n
      exact (upd_ne (ne_of_none e1 nF)).trans e1
    · exact (upd_ne (ne_of_none e nF)).trans e
    · exact (upd_ne (Nat.ne_of_lt hlt)).trans upd_same
  | some cv =>
    obtain ⟨c', e, hco⟩ := ha pos cv hc
    subst e
    refine PySem.W.kla_makeFunctionHit (mg := X.mg) (c := c) (P := P) (ps := ps) (closure_ok hfree) I.ok.glob (I.mod.glob.keeps I.bk) hcode (TB.code.keeps I.bk) hP' ht hc bP fun ctv h' tk hx hsz => ?_
    have I1 : Inv X pins σ H { s with heap := h', toks := tk } := I.kept hx
    have nF : H h'.objs.size = none := I1.hok.fresh (Nat.le_refl _)
    have I2 := inv_lam (F := ⟨"<lambda>", X.env.qual ++ "<lambda>", params, [], scope, cloFrom X.env.cells scope.names [], c'⟩) (body := body) (t' := tk) (pm := (X.mg "__name__").getD .none) (ctv := ctv) I1 rfl
    refine h h'.objs.size c' _ _ I2 (fun b o e n => ?_) (fun b e => upd_none e) (hT.ext fun b o e => ?_) nF upd_same ?_
    · exact (upd_ne (ne_of_none e nF)).trans e
    · exact (upd_ne (ne_of_none e nF)).trans e
    · exact (upd_ne (ne_of_none hco nF)).trans hco
theorem pe_lam {T : List (Addr × Str)} {c P : Addr} {params : Arguments} {body : Expr} {scope : Scope} {pos : Pos} (TB : TabB X.base X.mg c P) (hcode : X.env.code = .ref c) (hm : (P, X.env.qual ++ "<lambda>") ∈ T) (hu : ∀ p ∈ T, p.1 = P → p.2 = X.env.qual ++ "<lambda>")
    (hdef : defaultsOf params X.env = ([], [])) (hfree : ∀ y ∈ scope.names, y.2 = .free → X.env.scope.names.lookup y.1 = some .cell ∨ X.env.scope.names.lookup y.1 = some .free) :
    PE X (.Lambda params body scope pos) (tLamV T (fun c' => ⟨"<lambda>", X.env.qual ++ "<lambda>", params, [], scope, cloFrom X.env.cells scope.names [], c'⟩) body) := by
  refine ⟨fun pins s σ H Q I h => ?_⟩
  obtain ⟨hT, h⟩ := h
  exact lam_make3 I TB hcode hm hu hT hdef (fun y hy e => (hfree y hy e).elim (fun z => I.ok.has _ (.inl z)) fun z => I.ok.has _ (.inr z)) fun f c' H1 s' I1 eN nn T1 f0 f1 c1 => ⟨.ref f, H1, I1, rfl, h f c' H1 eN nn T1 f0 f1 c1⟩
end
/-! ### a lambda's promise, by its body -/
/-- how the tracked cells lie to a lambda's captured names -/
structure CapZ (cl : List (Str × Addr)) (fr : List Str) (ws : List V) (Z : Ov) : Prop where
  len : ws.length = fr.length
  froz : Froz Z
  of : ∀ b z, Z b = some z → ∃ y, cl.lookup y = some b
  all : ∀ y c, cl.lookup y = some c → ∃ z, Z c = some z
  inj : ∀ x y c, cl.lookup x = some c → cl.lookup y = some c → x = y
  at_ : ∀ (i : Nat) (y : Str), fr[i]? = some y → ∃ c, cl.lookup y = some c ∧ ∀ v, ws[i]? = some v → ∃ o, Z c = some (.frz o (CelO c v))
structure LOk (P : Program) (w : World) (K : PySem.W.Frag) (mg : Str → Option Value) (base : Heap) (k : Nat) (f : Addr) (F : NF) (body : Expr) (sp : Sp) : Prop where
  run : ∀ (A : Around) (outer : List Env) (s : Shared) (H : Hp) (us : List Value) (vs : List V) (Q : VK), Room k A → Env0 P w K mg base A outer s H → H f = some (LamO f F body) → H F.c = some (CodeO F.c F.qual) →
    Vals vs us → sp vs H Q E0 → codeAny (model P w) A (.call (.ref f) ⟨us, []⟩) (CR CX0 outer P w H s Q E0) s
section
variable {P : Program} {w : World} {K : PySem.W.Frag} {mg : Str → Option Value} {base : Heap} {N ps fr : List Str} {F : NF} {body : Expr} {f : Addr} {k : Nat} {sp : Sp}
theorem LOk.mono {j : Nat} (L : LOk P w K mg base j f F body sp) (h : j ≤ k) : LOk P w K mg base k f F body sp := ⟨fun A outer s H us vs Q hr => L.run A outer s H us vs Q (hr.mono h)⟩
theorem lok_of (S : NScope N ps fr F.scope) (hb : ∀ (pm ctv : Value) (us : List Value), us.length = ps.length → bindArgs (PySem.W.kla_fn "<lambda>" F.qual F.params body F.scope F.cl pm (.ref F.c) ctv) ⟨us, []⟩ = pure (ps.zip us)) (len : ∀ vs H Q E, sp vs H Q E → vs.length = ps.length)
    (hbody : ∀ (A : Around) (outer : List Env) (s : Shared) (H : Hp) (vs : List V) (Q : VK), Room k (A.deeper (envF F f s.heap.objs.size)) → sp vs H Q E0 →
      ∃ (Z : Ov) (ws : List V) (t : TE), CapZ F.cl fr ws Z ∧ (∀ b z, Z b = some z → H b = some z) ∧ PE (ncx CX0 P w K mg base N F f A outer s (cut Z H) E0).nox body t ∧ t (startF N vs (ws.map some)) (cut Z H) fun v H' => Q v (ovl Z H')) :
    LOk P w K mg base (k + 1) f F body sp := by
  refine ⟨fun A outer s H us vs Q hr e0 hf hc r hsp => ?_⟩
  have hl := len _ _ _ _ hsp
  have lim : s.heap.NoLimit := e0.mod.nolimit.keeps fun b o e => (e0.bs b o e).1
  obtain ⟨pm, ctv, ho⟩ := lamO_at e0.hok hf
  obtain ⟨Z, ws, t, cz, tz, ht, hq⟩ := hbody A outer s H vs Q (hr.deeper _) hsp
  have none_ : ∀ b, H b = none → cut Z H b = none := fun b e => by
    cases q : Z b with
    | some z => exact cut_some q
    | none => rw [cut_none q]; exact e
  have e1 : Env0 P w K mg base A outer s (cut Z H) := ⟨e0.frames, e0.mod, fun b o e => ⟨(e0.bs b o e).1, none_ b (e0.bs b o e).2⟩, e0.bsz, e0.funs, fun b hb' => none_ b (e0.frf b hb'), hok_cut cz.froz e0.hok tz, e0.bare⟩
  have C : CellsAt F.cl fr (ws.map some) s.heap (cut Z H) := by
    refine ⟨by rw [List.length_map]; exact cz.len, fun y c e => ?_, cz.inj, fun i y e => ?_⟩
    · obtain ⟨z, ez⟩ := cz.all y c e
      have x := e0.hok c z (tz c z ez)
      obtain ⟨o, v, rfl⟩ := cz.froz.fz c z ez
      obtain ⟨_, u, _, ic⟩ := cel_at x
      exact ⟨cut_some ez, _, ic⟩
    · obtain ⟨c, e2, hv⟩ := cz.at_ i y e
      refine ⟨c, e2, fun v ev => ?_⟩
      rw [List.getElem?_map] at ev
      cases ew : ws[i]? with
      | none => rw [ew] at ev; cases ev
      | some v' =>
        rw [ew] at ev
        have ev : v' = v := by
          have := Option.some.inj ev
          exact Option.some.inj this
        subst ev
        obtain ⟨o, ez⟩ := hv v' ew
        exact (cel_at (e0.hok c _ (tz c _ ez))).2
  refine PySem.W.kla_callFunE hr.depth ho rfl S.co S.gen rfl (codeO_at e0.hok hc) ?_
  rw [hb pm ctv us (by rw [← r.length]; exact hl)]
  refine wpAny_pure (wpAny_newFunctionEnv S.nocell (fun ⟨n, _⟩ hy => S.par n (List.of_mem_zip hy).1) (fun h₁ hns hsb => ⟨lim.fresh _ hsb, ?_⟩) S.kind)
  show codeAny _ _ (.expr body (envF F f s.heap.objs.size)) _ _
  have kp : ∀ b o, s.heap.get? b = some o → h₁.get? b = some o := fun b o e => hsb.extBut b o (Nat.ne_of_lt (Heap.lt_size e)) (Heap.get?_push_of_some _ e)
  have J0 := inv_startN (CX := CX0) (E := E0) (h₁ := h₁) (tk := s.toks + (ps.zip us).length) (f := f) S hr.hd e1 hl r C hns kp
  refine PySem.W.kla_codeExpr (wpAny_mono (ht.run [] _ _ _ _ (J0.wish fun _ _ => False) hq) (fun v s' hs => ?_) fun e s' hs => False.elim hs)
  obtain ⟨v', H', J, rv, q⟩ := hs
  have nfs : ∀ b z, Z b = some z → b ∉ frs outer := fun b z e hm => by
    have x := e0.frf b hm
    rw [tz b z e] at x
    cases x
  have nH : ∀ b z, Z b = some z → H' b = none := fun b z e => by
    obtain ⟨y, hy⟩ := cz.of b z e
    exact J.freeC y b hy
  obtain ⟨u1, u2⟩ := un_ovl cz.froz J.base tz nfs nH e0.hok J.hok
  exact ⟨v', ovl Z H', J.os, J.bare, u1, u2, rv, q⟩
end
/-! ### calls -/
section
variable {X : Cx} {ps fr : List Str} {js : List Nat} {i k : Nat} {f : Addr} {F : NF} {body : Expr} {x : Str} {sp : Sp} {t : TA} {e : Expr} {es : List Expr} {p pos : Pos} {cl : List (Str × Addr)}
/-- x(..), x a name that holds the lambda at f -/
def tCallLm (i : Nat) (f : Addr) (F : NF) (body : Expr) (sp : Sp) (t : TA) : TE := fun σ H Q => σ[i]? = some (some (.ref f)) ∧ H f = some (LamO f F body) ∧
  t σ H fun vs H1 => H1 f = some (LamO f F body) ∧ H1 F.c = some (CodeO F.c F.qual) ∧ sp vs H1 Q E0
theorem lam_fnAt {pins : List (Addr × Obj)} {σ : L2.St} {H : Hp} {s : Shared} (I : Inv X pins σ H s) (e : H f = some (LamO f F body)) : PySem.W.FnAt f s.heap := by
  obtain ⟨pm, ctv, ho⟩ := lamO_at I.hok e
  exact ⟨_, _, _, _, ho⟩
theorem pe_callLm (L : LOk X.prog X.w X.K X.mg X.base k f F body sp) (hr : Room k X.A) (hN : X.N[i]? = some x) (hv : Vis X.env.scope x) (ha : PA X (e :: es) t)
    (hd : (x == ("__debug__" : Str)) = false := by decide) (hcd : (x == ("__classdict__" : Str)) = false := by decide)
    (he : starEach (e :: es) X.env = (false, eval e X.env) :: starEach es X.env := by rfl) (hpl : (backTo pos (starEach es X.env)).any (·.1) = false := by rfl) :
    PE X (.Call (.Name x p) (e :: es) [] pos) (tCallLm i f F body sp t) := by
  refine ⟨fun pins s σ H Q I h => ?_⟩
  obtain ⟨hs, hf, ht⟩ := h
  refine wpAny_Call_Name_kw (thn ((pe_var (pos := p) hN hv hd hcd).run pins s σ H (fun v H1 => v = .ref f ∧ H1 = H) I ⟨.ref f, hs, rfl, rfl⟩) fun u s1 ⟨v, H1, I1, r1, q1⟩ => ?_)
  obtain ⟨ev, eH⟩ := q1
  subst ev
  rw [eH] at I1
  obtain rfl : u = Value.ref f := r1
  refine PySem.W.callWith_F (first := []) (lam_fnAt I1 hf) (thn (ha.run pos pins s1 σ H _ I1 ht) fun us s2 ⟨vs, H2, I2, r, h1, h2, q⟩ => ⟨lam_fnAt I2 h1, ?_⟩) he hpl
  show wpAny _ _ (call (.ref f) us) _ _ _
  refine wpAny_call (codeAny_mono (L.run X.A X.stack s2 H2 us vs Q hr I2.env0 h1 h2 r q) fun r s' hq => ?_)
  cases r with
  | error e => exact False.elim hq
  | ok fl =>
    cases fl with
    | ret u => exact I2.after hq
    | next => exact False.elim hq
    | brk => exact False.elim hq
    | cont => exact False.elim hq
/-- the cells of the running frame that a lambda captured, tracked -/
theorem capz_of {pins : List (Addr × Obj)} {σ : L2.St} {H : Hp} {s : Shared} {y1 y2 : Str} {j1 j2 : Nat} {v1 v2 : V} (I : Inv X pins σ H s) (c : Caps X cl [y1, y2] [j1, j2]) (only : ∀ y d, cl.lookup y = some d → y = y1 ∨ y = y2)
    (h1 : σ[j1]? = some (some v1)) (h2 : σ[j2]? = some (some v2)) : ∃ Z : Ov, CapZ cl [y1, y2] [v1, v2] Z ∧ (∀ b z, Z b = some z → H b = none) ∧ ∀ b z, Z b = some z → ObjOk X.prog X.w H s.heap b z := by
  have C := cells_of I c
  obtain ⟨c1, e1, g1⟩ := C.has 0 y1 rfl
  obtain ⟨c2, e2, g2⟩ := C.has 1 y2 rfl
  obtain ⟨u1, r1, o1, ho1, d1⟩ := g1 v1 (by show some (slotAt σ j1) = some (some v1); rw [slotAt_of h1])
  obtain ⟨u2, r2, o2, ho2, d2⟩ := g2 v2 (by show some (slotAt σ j2) = some (some v2); rw [slotAt_of h2])
  have n1 := (C.all y1 c1 e1).1
  have n2 := (C.all y2 c2 e2).1
  refine ⟨fun b => if b = c1 then some (.frz o1 (CelO c1 v1)) else if b = c2 then some (.frz o2 (CelO c2 v2)) else none, ⟨rfl, ⟨fun b z e => ?_⟩, fun b z e => ?_, fun y d e => ?_, C.inj, fun i y e => ?_⟩, fun b z e => ?_, fun b z e => ?_⟩
  · by_cases q1 : b = c1
    · simp only [if_pos q1] at e
      cases e
      exact ⟨o1, v1, by rw [q1]⟩
    · by_cases q2 : b = c2
      · simp only [if_neg q1, if_pos q2] at e
        cases e
        exact ⟨o2, v2, by rw [q2]⟩
      · simp only [if_neg q1, if_neg q2] at e
        cases e
  · by_cases q1 : b = c1
    · exact ⟨y1, by rw [q1]; exact e1⟩
    · by_cases q2 : b = c2
      · exact ⟨y2, by rw [q2]; exact e2⟩
      · simp only [if_neg q1, if_neg q2] at e
        cases e
  · rcases only y d e with z | z
    · rw [z, e1] at e
      cases e
      exact ⟨_, if_pos rfl⟩
    · rw [z, e2] at e
      cases e
      by_cases q1 : c2 = c1
      · exact ⟨_, if_pos q1⟩
      · exact ⟨_, (if_neg q1).trans (if_pos rfl)⟩
  · match i, e with
    | 0, e =>
      cases e
      exact ⟨c1, e1, fun v ev => by cases ev; exact ⟨o1, if_pos rfl⟩⟩
    | 1, e =>
      cases e
      refine ⟨c2, e2, fun v ev => ?_⟩
      cases ev
      by_cases q1 : c2 = c1
      · subst q1
        have ey := C.inj y1 y2 c2 e1 e2
        have ej : [j1, j2].map (fun j => X.N[j]?) = [some y1, some y2] := c.at_
        have hc1 : ho1 = ho1 := rfl
        rw [ho1] at ho2
        cases ho2
        rw [d1] at d2
        injection d2 with d3
        cases d3
        have ev2 := r1.inj r2
        subst ev2
        exact ⟨o1, if_pos rfl⟩
      · exact ⟨o2, (if_neg q1).trans (if_pos rfl)⟩
    | i + 2, e => simp at e
  · by_cases q1 : b = c1
    · rw [q1]; exact n1
    · by_cases q2 : b = c2
      · rw [q2]; exact n2
      · simp only [if_neg q1, if_neg q2] at e
        cases e
  · by_cases q1 : b = c1
    · simp only [if_pos q1] at e
      cases e
      rw [q1]
      exact cel_ok ho1 r1 d1
    · by_cases q2 : b = c2
      · simp only [if_neg q1, if_pos q2] at e
        cases e
        rw [q2]
        exact cel_ok ho2 r2 d2
      · simp only [if_neg q1, if_neg q2] at e
        cases e
/-- f(e, ..), the running frame's two captured cells tracked meanwhile -/
def tCallZ (cl : List (Str × Addr)) (y1 y2 : Str) (j1 j2 : Nat) (sp : Sp) (t : TA) : TE := fun σ H Q => ∃ v1 v2, σ[j1]? = some (some v1) ∧ σ[j2]? = some (some v2) ∧
  t σ H fun vs H1 => ∀ Z : Ov, CapZ cl [y1, y2] [v1, v2] Z → (∀ b z, Z b = some z → H1 b = none) → sp vs (ovl Z H1) (fun v H2 => Q v (cut Z H2)) E0
theorem pe_callZ {fd : FuncData} {y1 y2 : Str} {j1 j2 : Nat} (G : FnOk X.prog X.w X.K X.mg X.base CX0 k f fd ps sp) (hr : Room k X.A) (hg : Gl X x) (hm : X.mg x = some (.ref f)) (hk : PySem.W.keepIn X.K (.ref f) = true) (hb : Binds X.K fd ps [])
    (cp : X.Ok → Caps X cl [y1, y2] [j1, j2]) (only : ∀ y d, cl.lookup y = some d → y = y1 ∨ y = y2) (young : ∀ y d, cl.lookup y = some d → X.fn y = true) (ha : PA X (e :: es) t)
    (hdb : (x == ("__debug__" : Str)) = false := by decide) (he : starEach (e :: es) X.env = (false, eval e X.env) :: starEach es X.env := by rfl) (hpl : (backTo pos (starEach es X.env)).any (·.1) = false := by rfl) :
    PE X (.Call (.Name x p) (e :: es) [] pos) (tCallZ cl y1 y2 j1 j2 sp t) := by
  refine ⟨fun pins s σ H Q I h => ?_⟩
  obtain ⟨v1, v2, s1, s2, h⟩ := h
  refine wpAny_Call_Name_kw (ld_glob I hg hm ?_ hdb)
  refine PySem.W.callWith_K (h₀ := X.base) I.ok.mod.kin hk (thn (ha.run pos pins s σ H _ I h) fun us s1' ⟨vs, H1, I1, r, q⟩ => ⟨I1.kIn, ?_⟩) he hpl
  show wpAny _ _ (call (.ref f) us) _ _ _
  obtain ⟨Z, cz, nz, oz⟩ := capz_of I1 (cp I1.ok) only s1 s2
  have hq := q Z cz nz
  have e0 := I1.env0
  have old : ∀ b z, Z b = some z → X.s_0.heap.objs.size ≤ b := fun b z ez => by
    obtain ⟨y, hy⟩ := cz.of b z ez
    exact I1.ok.cab y b (young y b hy) ((cp I1.ok).sub y b hy)
  have none_ : ∀ b, H1 b = none → (∀ z, Z b ≠ some z) → ovl Z H1 b = none := fun b eb nb => by
    cases q : Z b with
    | some z => exact absurd q (nb z)
    | none => rw [ovl_none q]; exact eb
  have hok1 := hok_ovl cz.froz I1.hok nz oz
  have e1 : Env0 X.prog X.w X.K X.mg X.base X.A X.stack s1' (ovl Z H1) := by
    refine ⟨e0.frames, e0.mod, fun b o eb => ⟨(e0.bs b o eb).1, none_ b (e0.bs b o eb).2 fun z ez => ?_⟩, e0.bsz, e0.funs, fun b hb' => none_ b (e0.frf b hb') fun z ez => ?_, hok1, e0.bare⟩
    · have h1 := old b z ez
      have h2 := Heap.lt_size eb
      exact absurd (Nat.lt_of_lt_of_le h2 (Nat.le_trans I1.ok.bsz h1)) (Nat.lt_irrefl _)
    · rcases List.mem_cons.mp (I1.stkSub b hb') with z' | z'
      · obtain ⟨y, hy⟩ := cz.of b z ez
        exact I1.cne y b ((cp I1.ok).sub y b hy) z'
      · obtain ⟨_, o, ho, _⟩ := I1.ok.funs.mem z'
        exact absurd (Nat.lt_of_lt_of_le (Heap.lt_size ho) (old b z ez)) (Nat.lt_irrefl _)
  have hl : us.length = ps.length := by rw [← r.length]; exact G.len _ _ _ _ hq
  refine wpAny_call (codeAny_mono (G.run X.A X.stack s1' (ovl Z H1) ⟨us, []⟩ us vs _ E0 hr e1 (by
    have z := hb s1' us I1.kIn (by rw [List.append_nil]; exact hl)
    rw [List.append_nil] at z
    exact z) r hq) fun r s' hq' => ?_)
  cases r with
  | error e => exact False.elim hq'
  | ok fl =>
    cases fl with
    | ret u =>
      obtain ⟨v, H', os, bare, un, hok', rv, qv⟩ := hq'
      obtain ⟨u1, st⟩ := un_cut cz.froz un nz hok1 hok'
      exact ⟨v, cut Z H', I1.call' (ch := []) os u1 (hok_cut cz.froz hok' st) bare (fun b z => absurd z (by simp)), rv, qv⟩
    | next => exact False.elim hq'
    | brk => exact False.elim hq'
    | cont => exact False.elim hq'
end
end K12
/-! an own error whose first line is super().__init__(part), then self.part = part -/
namespace K12
open PySem PySem.W PySem.Calls PyProof.Rows PySem.HandSPX
/-- the seventh row of the top is the class BadPart; its first def is __init__ -/
def bpI : Stmt := L2.inClass (PySem.Challenge.pw_endlessplane_k12_whole_parting_and_break.main.body.getD 7 (.Pass ⟨0, 0, 0, 0⟩)) 0
def bpA : Arguments := L2.defArgs bpI
def bpB : List Stmt := L2.defBody bpI
def bpS : Scope := L2.defScope bpI
/-- what the written part says of BadPart, at C, and of its __init__, at fI -/
structure BpTxt (P : Program) (K : Frag) (mg : Str → Option Value) (C fI : Addr) : Prop where
  gC : mg "BadPart" = some (.ref C)
  gS : mg "super" = none
  cls : ∃ nm q N bs bm sn sub ab col dd k0 k1 k2 k3 k5, K.lookup C = some (excClassObj nm q C N bs bm true sn sub ab col dd k0 k1 k2 k3 k5 "ValueError.__new__") ∧ refsVE bm = true
  sa : findIn K (.ref C) "__setattr__" = some (some (.builtin "object.__setattr__"))
  ga : findIn K (.ref C) "__getattribute__" = some (some (.builtin "BaseException.__getattribute__"))
  gg : findIn K (.ref C) "__getattr__" = some none
  noN : findIn K (.ref C) "part" = some none
  iC : findIn K (.ref C) "__init__" = some (some (.ref fI))
  tC : typeIn K (.ref fI) = some (.type "function")
  kC : keepIn K (.ref C) = true
  exC : subIn K (.ref C) (.type "BaseException") = some true
  veC : subIn K (.ref C) (.type "ValueError") = some true
  tyC : typeIn K (.ref C) = some (.type "type")
  hdC : hasDictIn K C = true
  te : exmOne K (.ref C) (.ref C) = some true
  mr : mroIn K C (.ref C) = some true
  su : ks_superIn K C C "__init__" = some (some (.builtin "ValueError.__init__"))
  op : nsIn K cStatics "thirdparty.any" = some none
  tp : (P.main.scope.names.lookup ("super" : Str)).isSome = false
  fn : ∃ (oc : Value) (od : Option Addr) (kV doc pm : Value) (an : Option Addr) (cda cc : Addr) (ct : Value) (osl : Array (Option Value)) (ccl : Value) (cdd : Option Addr) (vs : Array Value) (ccs : Array (Option Value)) (file : Str) (tf : Tok) (cl : Value) (cld : Option Addr) (csl : Array (Option Value)),
    K.lookup fI = some ⟨oc, od, .func (fnX "__init__" "BadPart.__init__" bpA bpB bpS [("__class__", cc)] .none kV doc pm an (.ref cda) ct), osl⟩ ∧ codeIn K (.ref cda) "BadPart.__init__" = true ∧
    K.lookup cda = some ⟨ccl, cdd, .fields vs, ccs⟩ ∧ vs[2]? = some (.str file tf) ∧ ((P.main.file : Str) == file) = true ∧ K.lookup cc = some ⟨cl, cld, .cell (some (.ref C)), csl⟩
theorem one_size (v : Value) : [v].length ≤ sizeLine := by
  rw [sizeLine_eq]
  exact (by decide : 1 ≤ 16777216)
/-- what __init__ leaves of a fresh exception at x -/
structure BpEnd (h h' : Heap) (x C dx : Addr) (v : Value) : Prop where
  keep : ∀ b o, b ≠ x → h.get? b = some o → h'.get? b = some o
  obj : ∃ t1, h'.get? x = some { cls := .ref C, dict := some dx, data := .fields #[.ref t1, .none, .none, .none, .bool false, .none] }
  dbig : h.objs.size ≤ dx
  dne : dx ≠ x
  ns : h'.Ns1 dx (fun y => if y = "part" then some v else none)
/-- a made BadPart -/
structure BpMade (h h' : Heap) (e C d : Addr) (v : Value) : Prop where
  keep : ∀ b o, h.get? b = some o → h'.get? b = some o
  new : h.objs.size ≤ e
  obj : ∃ oe vs, h'.get? e = some oe ∧ oe.cls = .ref C ∧ oe.dict = some d ∧ oe.data = .fields vs ∧ vs[1]? = some .none
  dbig : h.objs.size ≤ d
  dne : d ≠ e
  ns : h'.Ns1 d (fun y => if y = "part" then some v else none)
section
variable {prog : Program} {w : World} {A : Around} {E : Value → Shared → Prop} {R : Result → Shared → Prop} {s : Shared} {K : Frag} {mg mb : Str → Option Value} {C fI : Addr}
/-- ValueError.__init__ bound to the object, called -/
theorem mw_call {u e t0 : Addr} {rest : List Value} {nm q : Str} {N : Addr} {bs bm : List Value} {hdct : Bool} {sn : List Str} {sub : List Value} {ab : Bool} {col : Option Bool} {dd : Option Addr} {k0 k1 k2 k3 k5 : Option Value} {Q : Value → Shared → Prop}
    (hC : s.heap.get? C = some (excClassObj nm q C N bs bm hdct sn sub ab col dd k0 k1 k2 k3 k5 "ValueError.__new__")) (he : s.heap.get? e = some (excO C t0)) (hu : s.heap.get? u = some (kxs_mw "ValueError.__init__" e)) (hrest : rest.length ≤ sizeLine)
    (hq : ∀ h' t1, (∀ b o, b ≠ e → s.heap.get? b = some o → h'.get? b = some o) → h'.get? e = some (excO C t1) → Q .none { s with heap := h' }) :
    wpAny (model prog w) A (call (.ref u) rest) Q E s := by
  obtain ⟨h, g, d, t, os⟩ := s
  refine wpAny_call (codeAny_of_tree ?_)
  show wpAny _ A.in1 (callAny (.ref u) ⟨rest, []⟩) _ _ _
  simp only [callAny]
  refine wpAny_bind (wpAny_load hu ?_)
  simp only [kxs_mw, show (Value.type "method-wrapper" == Value.type "method" || Value.type "method-wrapper" == Value.type "builtin_function_or_method" || Value.type "method-wrapper" == Value.type "method-wrapper") = true by decide, if_true]
  refine KFB.if_so (by decide) ?_
  refine wpAny_bind (check_bound_init F.excBase_ValueError.toExcCallFacts hC he rfl ?_)
  refine wpAny_bind (wpAny_pure (wpAny_pure ?_))
  refine ⟨plainId_quiet F.excBase_ValueError.init.plain _, codeAny_builtin F.excBase_ValueError.initEntry ?_⟩
  rw [Around.under_plainId F.excBase_ValueError.init.plain _]
  wp_walk
  refine hq _ h.objs.size (fun b o hb ho => ?_) ?_
  · rw [Heap.get?_update_other _ _ (Ne.symm hb)]
    exact Heap.get?_push_of_some _ ho
  · rw [Heap.get?_update_self _ (Heap.get?_push_of_some _ he) rfl]
    rfl
theorem bp_init (T : BpTxt prog K mg C fI) {x t0 : Addr} {v : Value} (X : K.In s.heap) (G : s.heap.Ns mainGlobals mg) (B : s.heap.Ns builtinsNs mb) (hB : mb "super" = some (.type "super")) (hlim : s.heap.NoLimit) (hx : s.heap.get? x = some (excO C t0)) (hxC : x ≠ C) (hnx : K.lookup x = none) (hroom : A.depth < recursionLimit)
    (hq : ∀ h' tk dx, BpEnd s.heap h' x C dx v → R (.ok (.ret .none)) { s with heap := h', toks := tk }) :
    codeAny (model prog w) A (.call (.ref fI) ⟨[.ref x, v], []⟩) R s := by
  obtain ⟨oc, od, kV, doc, pm, an, cda, cc, ct, osl, ccl, cdd, vs, ccs, file, tf, cl, cld, csl, ho, hcd, hcode, hvs, hfile, hcell⟩ := T.fn
  obtain ⟨nm, q, N, bs, bm, sn, sub, ab, col, dd, k0, k1, k2, k3, k5, hC, hbm⟩ := T.cls
  have hcl : clsIn K C = some { name := nm, bases := bs, mro := .ref C :: bm, ns := N, qualname := q, hasDict := true, slotNames := sn, subclasses := sub, abstract := ab, collection := col, hasDel := false } := by unfold clsIn; rw [hC] <;> rfl
  refine ks_codeAny_call_defAt (body := bpB) (binds := [("self", .ref x), ("part", v)]) hroom (X _ _ ho) rfl hlim (codeRec_of X hcd) rfl (BindsTo.of_eq rfl) (show ∀ x ∈ bpS.names, x.2 ≠ .cell by decide) (fun y hy => by
    rcases List.mem_cons.mp hy with rfl | hy
    · rfl
    rcases List.mem_cons.mp hy with rfl | hy
    · rfl
    · cases hy) (fun h₁ hns k => ?_) rfl rfl rfl
  have hxL : s.heap.objs.size ≠ x := Nat.ne_of_gt (Heap.lt_size hx)
  have X₁ : K.In h₁ := X.keeps k
  have hx₁ := k _ _ hx
  have hC₁ := X₁ _ _ hC
  have hL : s.heap.objs.size < h₁.objs.size := hns.lt
  have I1 : InstAt h₁ x (excO C t0) C none := ⟨hx₁, rfl, rfl, trivial⟩
  refine ks_wpAt_execs_cons (ks_wpAt_Expr_any (ks_wpAt_MethodCall ?_ rfl) rfl rfl)
  refine ks_wpAt_super_base (env := ksEnv "BadPart.__init__" bpS s.heap.objs.size fI (.ref cda) cc) rfl rfl (by decide) rfl (X₁ _ _ ho) rfl rfl rfl (X₁ _ _ hcode) rfl hvs hfile T.tp ?_
  refine ks_loadName_global rfl rfl (loadGlobal_builtin (env := ksEnv "BadPart.__init__" bpS s.heap.objs.size fI (.ref cda) cc) (G.keeps k) T.gS (B.keeps k) hB ⟨rfl, ?_⟩)
  refine wpAny_loadName_free rfl rfl rfl ⟨_, X₁ _ _ hcell, rfl⟩ ?_
  refine wpAny_loadName_local rfl rfl hns (v := .ref x) rfl ?_
  refine ks_wpAny_isType_cls hC₁ rfl ⟨rfl, ?_⟩
  refine ks_wpAny_call_super hC₁ rfl hx₁ rfl (fun c e => by cases e) (looks_mroIn X₁ T.mr) (fun h₂ e₂ k₂ => ?_)
  have X₂ : K.In h₂ := X₁.keeps k₂
  have hL₂ : h₁.objs.size < h₂.objs.size := Heap.lt_size e₂
  refine kxs_getMethod kxs_ValueError e₂ (looks_opaque X₂ T.op) (l₀ := .ref C :: bm) (fun A Q E s k q => wpAny_bind ((looks_clsIn X₂ hcl) A _ E s k (wpAny_pure q))) rfl X₂ (by
    have z := T.su
    unfold ks_superIn at z
    rw [hcl] at z
    exact z) ((show InstAt h₂ x (excO C t0) C none from ⟨k₂ _ _ hx₁, rfl, rfl, trivial⟩).type.andThen (looks_subIn X₂ T.veC)) hxC (by decide) ?_
  have k₃ : ∀ b o, h₂.get? b = some o → (h₂.push (kxs_mw "ValueError.__init__" x)).get? b = some o := fun b o e => Heap.get?_push_of_some _ e
  refine kxs_callWith (i := "ValueError.__init__") (x := x) rfl (evalArgs_plain ?_)
  have k₄ : ∀ b o, s.heap.get? b = some o → (h₂.push (kxs_mw "ValueError.__init__" x)).get? b = some o := fun b o e => k₃ _ _ (k₂ _ _ (k _ _ e))
  obtain ⟨oL, es, ep, hLo, hLr⟩ := id hns
  have hns₃ : (h₂.push (kxs_mw "ValueError.__init__" x)).Ns s.heap.objs.size (fun x_1 => List.lookup x_1 [(Str.ofString "self", Value.ref x), (Str.ofString "part", v)].reverse) := ⟨oL, es, ep, k₃ _ _ (k₂ _ _ hLo), hLr⟩
  have e₃ : (h₂.push (kxs_mw "ValueError.__init__" x)).get? h₂.objs.size = some (kxs_mw "ValueError.__init__" x) := Heap.get?_push_at rfl rfl
  refine Calls.spliced_cons (ESX.ldL hns₃ rfl (Calls.spliced_nil ⟨e₃, ?_⟩))
  refine mw_call (k₃ _ _ (k₂ _ _ hC₁)) (k₃ _ _ (k₂ _ _ hx₁)) e₃ (one_size v) (fun h₄ t1 k₅ hx₄ => ?_)
  have lt4 : ∀ b o, b ≠ x → s.heap.get? b = some o → h₄.get? b = some o := fun b o hb e => k₅ b o hb (k₄ b o e)
  have X₄ : K.In h₄ := fun a o e => by
    by_cases z : a = x
    · rw [z, hnx] at e
      cases e
    · exact lt4 a o z (X a o e)
  have hns₄ : h₄.Ns s.heap.objs.size (fun x_1 => List.lookup x_1 [(Str.ofString "self", Value.ref x), (Str.ofString "part", v)].reverse) := ⟨oL, es, ep, k₅ _ _ hxL (k₃ _ _ (k₂ _ _ hLo)), hLr⟩
  refine wpAt_of_wpAny (wpAny_execs_cons (plainObj_wpAny_Assign_Attribute ?_))
  refine ESX.ldL hns₄ (v := v) rfl (ESX.ldL hns₄ (v := .ref x) rfl ?_)
  refine set_plain X₄ (ox := excO C t1) (od := none) ⟨hx₄, rfl, rfl, trivial⟩ T.sa ?_
  refine exc_osa X₄ hx₄ hcl (show refsVE (.ref C :: bm) = true from hbm) rfl T.noN (fun h₅ tk₅ dx k₆ dn dne hx₅ hn₅ => ?_)
  have z : s.heap.objs.size ≤ dx := by
    have y : s.heap.objs.size < h₄.objs.size := hns₄.lt
    have dn' : h₄.objs.size ≤ dx := dn
    exact Nat.le_of_lt (Nat.lt_of_lt_of_le y dn')
  exact wpAny_execs_nil (hq h₅ _ dx ⟨fun b o hb e => k₆ b o hb (lt4 b o hb e), ⟨t1, hx₅⟩, z, dne, hn₅⟩)
theorem bp_made (T : BpTxt prog K mg C fI) {v : Value} (X : K.In s.heap) (G : s.heap.Ns mainGlobals mg) (B : s.heap.Ns builtinsNs mb) (hB : mb "super" = some (.type "super")) (hlim : s.heap.NoLimit) (hroom : A.depth + 1 < recursionLimit)
    (hq : ∀ h' tk e d, BpMade s.heap h' e C d v → R (.ok (.ret (.ref e))) { s with heap := h', toks := tk }) :
    codeAny (model prog w) A (.call (.ref C) ⟨[v], []⟩) R s := by
  obtain ⟨nm, q, N, bs, bm, sn, sub, ab, col, dd, k0, k1, k2, k3, k5, hC, hbm⟩ := T.cls
  obtain ⟨hp, g, dr, tk, os⟩ := s
  have k : ∀ b o, hp.get? b = some o → ((hp.push (kdv_tup [v])).push (excO C hp.objs.size)).get? b = some o := fun b o e => Heap.get?_push_of_some _ (Heap.get?_push_of_some _ e)
  have hget : ((hp.push (kdv_tup [v])).push (excO C hp.objs.size)).get? (hp.objs.size + 1) = some (excO C hp.objs.size) := by heap_get
  have hnx : K.lookup (hp.objs.size + 1) = none := by
    cases e : K.lookup (hp.objs.size + 1) with
    | none => rfl
    | some o =>
      have z : hp.get? (hp.objs.size + 1) = some o := X _ _ e
      exact absurd (Nat.lt_of_succ_lt (Heap.lt_size z)) (Nat.lt_irrefl _)
  have hxC : hp.objs.size + 1 ≠ C := fun e => by
    rw [e] at hnx
    rw [hnx] at hC
    cases hC
  refine call_own F.excBase_ValueError (fun X => refsVE_contains X bm hbm) (X _ _ hC) (looks_findIn X T.iC) (fun self => bind_fn X self T.tC) (one_size v) ?_
  refine bp_init (s := ⟨(hp.push (kdv_tup [v])).push (excO C hp.objs.size), g, dr, tk, os⟩) T (X.keeps k) (G.keeps k) (B.keeps k) hB (hlim.keeps k) hget hxC hnx ?_ fun h' tk' dx ⟨k', ⟨t1, hx⟩, dn, dne, hns⟩ => ?_
  · show A.depth + 1 < recursionLimit
    exact hroom
  · have old : ∀ b o, hp.get? b = some o → h'.get? b = some o := fun b o e => k' b o (Nat.ne_of_lt (Nat.lt_succ_of_lt (Heap.lt_size e))) (k b o e)
    have z : hp.objs.size ≤ dx := by
      have q := dn
      simp only [Heap.size_push] at q
      omega
    exact ⟨rfl, hq h' tk' (hp.objs.size + 1) dx ⟨old, Nat.le_succ _, ⟨_, _, hx, rfl, rfl, rfl, rfl⟩, z, dne, hns⟩⟩
end
end K12
namespace K12
open PySem PySem.Spec PyProof.Rows L2
theorem relO_bp {v : V} {v' : Value} (r : RelV v v') (f : Str) : RelO (List.lookup f [(("part" : Str), v)]) (if f = "part" then some v' else none) := by
  by_cases hw : f = "part"
  · subst hw
    rw [if_pos rfl]
    have q : List.lookup ("part" : Str) [(("part" : Str), v)] = some v := by simp [List.lookup]
    rw [q]
    exact r
  · rw [if_neg hw]
    have qw : (f == ("part" : Str)) = false := by simpa using hw
    have q2 : List.lookup f [(("part" : Str), v)] = none := by simp [List.lookup, qw]
    rw [q2]
    trivial
section
variable {X : Cx} {C fI : Addr}
/-- BadPart(e) -/
def tMkBp (C : Addr) (ta : TA) : L2.St → Hp → XK → Prop := fun σ H Q => ta σ H fun vs H1 => ∃ v, vs = [v] ∧ ∀ d, H1 d = none → Q (.ref C) (some d) (upd H1 d (.xd [(("part" : Str), v)]))
theorem pmk_bp {a : Expr} {ta : TA} {p pos : Pos} {k : Nat} (T : BpTxt X.prog X.K X.mg C fI) (hr : Room k X.A) (ha : PA X [a] ta) (hg : Gl X "BadPart" := by rfl)
    (he : starEach (a :: []) X.env = (false, eval a X.env) :: starEach [] X.env := by rfl) (hpl : (backTo pos (starEach [] X.env)).any (·.1) = false := by rfl) :
    PMk X (.Call (.Name "BadPart" p) [a] [] pos) (tMkBp C ta) := by
  intro pins s σ H Q I h
  refine wpAny_Call_Name_kw (ld_glob I hg T.gC ?_)
  refine PySem.W.callWith_K (h₀ := X.base) I.ok.mod.kin T.kC (thn (ha.run pos pins s σ H _ I h) fun us s1 hh => ?_) he hpl
  obtain ⟨vs, H1, I1, r1, v, ev, q1⟩ := hh
  subst ev
  refine ⟨I1.kIn, ?_⟩
  cases r1 with
  | cons rv rn =>
    rename_i v' us'
    cases rn
    show wpAny _ _ (call (.ref C) [v']) _ _ _
    have hlim := I1.nolimit
    obtain ⟨mb, hb1, hb2⟩ := I1.mod.blt
    have hG := I1.mod.glob.keeps I1.bk
    have hB := hb1.keeps I1.bk
    have hS : mb "super" = some (.type "super") := (hb2 "super" (by decide)).trans (by decide +kernel)
    obtain ⟨hp, g, dr, tk, os⟩ := s1
    refine wpAny_call (bp_made T I1.kIn hG hB hS hlim (by have := hr.dp; omega) fun h' tk' e d M => ?_)
    show MkP X pins σ Q (.ref e) ⟨h', g, dr, tk', os⟩
    obtain ⟨oe, fv, hoe, hc, hd, hdat, h1⟩ := M.obj
    have hns := M.ns
    obtain ⟨G', g1, g2⟩ := restrict h' fun b => decide (b ≠ e)
    have gk : ∀ b, b ≠ e → G'.get? b = h'.get? b := fun b hb => g1 b (decide_eq_true hb)
    have ge : G'.get? e = none := g2 e (by simp)
    have old : ∀ b o, hp.get? b = some o → G'.get? b = some o := fun b o q => (gk b (Nat.ne_of_lt (Nat.lt_of_lt_of_le (Heap.lt_size q) M.new))).trans (M.keep b o q)
    have ob : ObjOk X.prog X.w (upd H1 d (.xd [(("part" : Str), v)])) G' d (.xd [(("part" : Str), v)]) :=
      ⟨_, hns.at (fun o q => (gk d M.dne).trans q), fun f => relO_bp rv f⟩
    have J : Inv X pins σ (upd H1 d (.xd [(("part" : Str), v)])) ⟨G', g, dr, tk', os⟩ := I1.laid (t' := tk') old M.dbig ob
    refine ⟨e, oe, fv, ⟨G', g, dr, tk', os⟩, _, .ref C, some d, rfl, J, fun b o q => ?_, ge, hoe, ⟨hc, hd⟩, hdat, h1, ?_, rfl, I1.bare, raises_own T.exC T.tyC, q1 d (I1.hok.fresh M.dbig)⟩
    · by_cases hb : b = e
      · have q' : G'.get? b = some o := q
        rw [hb, ge] at q'; cases q'
      · exact (gk b hb).symm.trans q
    · rw [upd_ne (Ne.symm M.dne)]
      exact I1.hok.fresh M.new
/-- raise BadPart(e) -/
def tRaiseBp (C : Addr) (W : WX) (ta : TA) : TS := fun _ σ H => tMkBp C ta σ H fun cls d H' => W cls d σ H'
theorem ps_raiseBp {a : Expr} {ta : TA} {W : WX} {p pos pos2 : Pos} {k : Nat} (hc : X.calm = true) (T : BpTxt X.prog X.K X.mg C fI) (hr : Room k X.A) (tk : Takes X W) (ha : PA X [a] ta) (hg : Gl X "BadPart" := by rfl)
    (he : starEach (a :: []) X.env = (false, eval a X.env) :: starEach [] X.env := by rfl) (hpl : (backTo pos (starEach [] X.env)).any (·.1) = false := by rfl) :
    PS X (.Raise (some (.Call (.Name "BadPart" p) [a] [] pos)) none pos2) (tRaiseBp C W ta) := ps_raise hc tk (pmk_bp T hr ha hg he hpl)
theorem BpTxt.xf {P : Program} {K : PySem.W.Frag} {mg : Str → Option Value} (T : BpTxt P K mg C fI) : XfC K C := ⟨T.ga, T.gg, T.exC, T.hdC⟩
end
end K12
namespace K12
open PySem PySem.Spec PyProof.Rows L2
/-! ### what else the head reads -/
def bpClsB (K : PySem.W.Frag) (C : Addr) : Bool := match K.lookup C with
  | some ⟨.type t, _, .cls cd, sl⟩ => decide (t = "type") && (match cd.mro, sl.toList with
    | .ref C' :: bm, [_, _, _, _, some (.builtin n), _] => decide (C' = C) && (decide (n = "ValueError.__new__") && (!cd.hasDel && (cd.hasDict && HandSPX.refsVE bm)))
    | _, _ => false)
  | _ => false
theorem bpClsB_ok {K : PySem.W.Frag} {C : Addr} (h : bpClsB K C = true) : ∃ nm q N bs bm sn sub ab col dd k0 k1 k2 k3 k5, K.lookup C = some (excClassObj nm q C N bs bm true sn sub ab col dd k0 k1 k2 k3 k5 "ValueError.__new__") ∧ HandSPX.refsVE bm = true := by
  unfold bpClsB at h
  split at h
  · rename_i t dd cd sl ho
    obtain ⟨ht, ha⟩ := He.ba h
    clear h
    have et : t = "type" := of_decide_eq_true ht
    subst et
    split at ha
    · rename_i C' bm k0 k1 k2 k3 n k5 hm hs
      obtain ⟨h1, hb⟩ := He.ba ha
      obtain ⟨h2, hc⟩ := He.ba hb
      obtain ⟨h3, hd⟩ := He.ba hc
      obtain ⟨h4, h5⟩ := He.ba hd
      clear ha hb hc hd
      have e1 : C' = C := of_decide_eq_true h1
      have e2 : n = "ValueError.__new__" := of_decide_eq_true h2
      subst e1 e2
      obtain ⟨nm, bs, mro, ns, qn, hd, sn, sub, ab, col, del⟩ := cd
      dsimp only at hm h3 h4
      subst hm h4
      have e3 : del = false := by simpa using h3
      subst e3
      have hsl : sl = #[k0, k1, k2, k3, some (.builtin "ValueError.__new__"), k5] := by
        obtain ⟨l⟩ := sl
        simp only at hs
        rw [hs]
      subst hsl
      exact ⟨_, _, _, _, bm, _, _, _, _, _, _, _, _, _, _, ho, h5⟩
    · cases ha
  · cases h
def bpFnB (K : PySem.W.Frag) (C fI : Addr) : Bool := match K.lookup fI with
  | some ⟨_, _, .func fd, _⟩ => (match fd.closure, fd.code with
    | [(n, cc)], .ref cda => decide (n = "__class__") && (PySem.W.codeIn K (.ref cda) "BadPart.__init__" && ((match K.lookup cda with
      | some ⟨_, _, .fields vs, _⟩ => (match (vs[2]? : Option Value) with
        | some (Value.str file _) => decide (file = "/claim/cut.py")
        | _ => false)
      | _ => false) && (match K.lookup cc with
      | some ⟨_, _, .cell (some (.ref D)), _⟩ => decide (D = C)
      | _ => false)))
    | _, _ => false)
  | _ => false
theorem bpFnB_ok {K : PySem.W.Frag} {C fI : Addr} (h : bpFnB K C fI = true) : ∃ oc od fd osl cc cda, K.lookup fI = some ⟨oc, od, .func fd, osl⟩ ∧ fd.closure = [(("__class__" : Str), cc)] ∧ fd.code = .ref cda ∧ PySem.W.codeIn K (.ref cda) "BadPart.__init__" = true ∧
    (∃ ccl cdd vs ccs tf, K.lookup cda = some ⟨ccl, cdd, .fields vs, ccs⟩ ∧ vs[2]? = some (.str "/claim/cut.py" tf)) ∧ ∃ cl cld csl, K.lookup cc = some ⟨cl, cld, .cell (some (.ref C)), csl⟩ := by
  unfold bpFnB at h
  split at h
  · rename_i oc od fd osl ho
    split at h
    · rename_i n cc cda hc hd
      obtain ⟨h1, ha⟩ := He.ba h
      obtain ⟨h2, hb⟩ := He.ba ha
      obtain ⟨h3, h4⟩ := He.ba hb
      clear h ha hb
      have e1 : n = "__class__" := of_decide_eq_true h1
      subst e1
      refine ⟨oc, od, fd, osl, cc, cda, ho, hc, hd, h2, ?_, ?_⟩
      · split at h3
        · rename_i ccl cdd vs ccs hco
          split at h3
          · rename_i file tf hv
            have e : file = "/claim/cut.py" := of_decide_eq_true h3
            subst e
            exact ⟨ccl, cdd, vs, ccs, tf, hco, hv⟩
          · cases h3
        · cases h3
      · split at h4
        · rename_i cl cld D csl hce
          have e : D = C := of_decide_eq_true h4
          subst e
          exact ⟨cl, cld, csl, hce⟩
        · cases h4
    · cases h
  · cases h
abbrev FnZ : Type := Option (Str × Str × Arguments × FuncBody × Scope × Addr × Value × Addr)
def fnZ (K : PySem.W.Frag) (f : Addr) : FnZ := match K.lookup f with
  | some ⟨_, _, .func fd, _⟩ => some (fd.name, fd.qualname, fd.params, fd.body, fd.scope, fd.globals, fd.defaults, fd.builtins)
  | _ => none
def valZ : FnZ := some ("__init__", "BadPart.__init__", bpA, .stmts bpB, bpS, mainGlobals, .none, builtinsNs)
def isoB (K : PySem.W.Frag) (C : Addr) : Bool := He.eqO (PySem.W.findIn K (.ref C) "__class__") (some (some (.builtin "object.__class__"))) && decide (PySem.W.mroIn K C (.type "object") = some true)
def noisB (K : PySem.W.Frag) (C : Addr) (t : String) : Bool := decide (PySem.W.kitOne K (.type t) (.ref C) = some false)
def tf : List He.Defn := [("law", none), ("Carpet", some "moved_by")]
def exB (K : PySem.W.Frag) : Bool :=
  let C := He.ga K "BadPart"
  let fI := He.ma K C "__init__"
  let D := He.ga K "Carpet"
  bpClsB K C && (bpFnB K C fI && (He.eqO (PySem.W.findIn K (.ref C) "__setattr__") (some (some (.builtin "object.__setattr__"))) && (He.eqO (PySem.W.findIn K (.ref C) "__getattribute__") (some (some (.builtin "BaseException.__getattribute__"))) &&
    (He.eqO (PySem.W.findIn K (.ref C) "__getattr__") (some none) && (He.eqO (PySem.W.findIn K (.ref C) "part") (some none) && (He.eqO (PySem.W.findIn K (.ref C) "__init__") (some (some (.ref fI))) && (decide (PySem.W.typeIn K (.ref fI) = some (.type "function")) &&
    (PySem.W.keepIn K (.ref C) && (decide (PySem.W.subIn K (.ref C) (.type "BaseException") = some true) && (decide (PySem.W.subIn K (.ref C) (.type "ValueError") = some true) && (decide (PySem.W.typeIn K (.ref C) = some (.type "type")) && (PySem.W.hasDictIn K C &&
    (decide (PySem.W.exmOne K (.ref C) (.ref C) = some true) && (decide (PySem.W.mroIn K C (.ref C) = some true) && (He.eqO (PySem.W.ks_superIn K C C "__init__") (some (some (.builtin "ValueError.__init__"))) && (He.eqO (PySem.W.nsIn K cStatics "thirdparty.any") (some none) &&
    (isoB K (He.ga K "Lattice") && (isoB K D && (He.eqO (PySem.W.specialIn K (.builtin "object.__class__") "__get__") (some (some (.builtin "getset_descriptor.__get__"))) && (decide (PySem.W.takesIn K (.builtin "object.__class__") = some true) &&
    (noisB K D "NoneType" && (noisB K D "int" && (noisB K D "list" && (noisB K D "str" && !decide ((He.cT K ("law", none)).2 = (He.cT K ("Carpet", some "moved_by")).2)))))))))))))))))))))))))
structure Ex (K : PySem.W.Frag) : Prop where
  cls : ∃ nm q N bs bm sn sub ab col dd k0 k1 k2 k3 k5, K.lookup (He.ga K "BadPart") = some (excClassObj nm q (He.ga K "BadPart") N bs bm true sn sub ab col dd k0 k1 k2 k3 k5 "ValueError.__new__") ∧ HandSPX.refsVE bm = true
  fn : ∃ oc od fd osl cc cda, K.lookup (He.ma K (He.ga K "BadPart") "__init__") = some ⟨oc, od, .func fd, osl⟩ ∧ fd.closure = [(("__class__" : Str), cc)] ∧ fd.code = .ref cda ∧ PySem.W.codeIn K (.ref cda) "BadPart.__init__" = true ∧
    (∃ ccl cdd vs ccs tf, K.lookup cda = some ⟨ccl, cdd, .fields vs, ccs⟩ ∧ vs[2]? = some (.str "/claim/cut.py" tf)) ∧ ∃ cl cld csl, K.lookup cc = some ⟨cl, cld, .cell (some (.ref (He.ga K "BadPart"))), csl⟩
  sa : PySem.W.findIn K (.ref (He.ga K "BadPart")) "__setattr__" = some (some (.builtin "object.__setattr__"))
  ga : PySem.W.findIn K (.ref (He.ga K "BadPart")) "__getattribute__" = some (some (.builtin "BaseException.__getattribute__"))
  gg : PySem.W.findIn K (.ref (He.ga K "BadPart")) "__getattr__" = some none
  noN : PySem.W.findIn K (.ref (He.ga K "BadPart")) "part" = some none
  iC : PySem.W.findIn K (.ref (He.ga K "BadPart")) "__init__" = some (some (.ref (He.ma K (He.ga K "BadPart") "__init__")))
  tC : PySem.W.typeIn K (.ref (He.ma K (He.ga K "BadPart") "__init__")) = some (.type "function")
  kC : PySem.W.keepIn K (.ref (He.ga K "BadPart")) = true
  exC : PySem.W.subIn K (.ref (He.ga K "BadPart")) (.type "BaseException") = some true
  veC : PySem.W.subIn K (.ref (He.ga K "BadPart")) (.type "ValueError") = some true
  tyC : PySem.W.typeIn K (.ref (He.ga K "BadPart")) = some (.type "type")
  hdC : PySem.W.hasDictIn K (He.ga K "BadPart") = true
  te : PySem.W.exmOne K (.ref (He.ga K "BadPart")) (.ref (He.ga K "BadPart")) = some true
  mr : PySem.W.mroIn K (He.ga K "BadPart") (.ref (He.ga K "BadPart")) = some true
  su : PySem.W.ks_superIn K (He.ga K "BadPart") (He.ga K "BadPart") "__init__" = some (some (.builtin "ValueError.__init__"))
  op : PySem.W.nsIn K cStatics "thirdparty.any" = some none
  iL : PySem.W.findIn K (.ref (He.ga K "Lattice")) "__class__" = some (some (.builtin "object.__class__")) ∧ PySem.W.mroIn K (He.ga K "Lattice") (.type "object") = some true
  iD : PySem.W.findIn K (.ref (He.ga K "Carpet")) "__class__" = some (some (.builtin "object.__class__")) ∧ PySem.W.mroIn K (He.ga K "Carpet") (.type "object") = some true
  hn : PySem.W.specialIn K (.builtin "object.__class__") "__get__" = some (some (.builtin "getset_descriptor.__get__"))
  tk : PySem.W.takesIn K (.builtin "object.__class__") = some true
  no1 : PySem.W.kitOne K (.type "NoneType") (.ref (He.ga K "Carpet")) = some false
  no2 : PySem.W.kitOne K (.type "int") (.ref (He.ga K "Carpet")) = some false
  no3 : PySem.W.kitOne K (.type "list") (.ref (He.ga K "Carpet")) = some false
  no4 : PySem.W.kitOne K (.type "str") (.ref (He.ga K "Carpet")) = some false
  tn : (He.cT K ("law", none)).2 ≠ (He.cT K ("Carpet", some "moved_by")).2
theorem ex_ok {K : PySem.W.Frag} (h : exB K = true) : Ex K := by
  unfold exB at h
  obtain ⟨h1, h⟩ := He.ba h
  obtain ⟨h2, h⟩ := He.ba h
  obtain ⟨h3, h⟩ := He.ba h
  obtain ⟨h4, h⟩ := He.ba h
  obtain ⟨h5, h⟩ := He.ba h
  obtain ⟨h6, h⟩ := He.ba h
  obtain ⟨h7, h⟩ := He.ba h
  obtain ⟨h8, h⟩ := He.ba h
  obtain ⟨h9, h⟩ := He.ba h
  obtain ⟨h10, h⟩ := He.ba h
  obtain ⟨h11, h⟩ := He.ba h
  obtain ⟨h12, h⟩ := He.ba h
  obtain ⟨h13, h⟩ := He.ba h
  obtain ⟨h14, h⟩ := He.ba h
  obtain ⟨h15, h⟩ := He.ba h
  obtain ⟨h16, h⟩ := He.ba h
  obtain ⟨h17, h⟩ := He.ba h
  obtain ⟨h18, h⟩ := He.ba h
  obtain ⟨h19, h⟩ := He.ba h
  obtain ⟨h20, h⟩ := He.ba h
  obtain ⟨h21, h⟩ := He.ba h
  obtain ⟨h22, h⟩ := He.ba h
  obtain ⟨h23, h⟩ := He.ba h
  obtain ⟨h24, h⟩ := He.ba h
  obtain ⟨h25, h26⟩ := He.ba h
  obtain ⟨a1, a2⟩ := He.ba h18
  obtain ⟨b1, b2⟩ := He.ba h19
  exact ⟨bpClsB_ok h1, bpFnB_ok h2, He.eqO_ok h3, He.eqO_ok h4, He.eqO_ok h5, He.eqO_ok h6, He.eqO_ok h7, of_decide_eq_true h8, h9, of_decide_eq_true h10, of_decide_eq_true h11, of_decide_eq_true h12, h13, of_decide_eq_true h14, of_decide_eq_true h15, He.eqO_ok h16,
    He.eqO_ok h17, ⟨He.eqO_ok a1, of_decide_eq_true a2⟩, ⟨He.eqO_ok b1, of_decide_eq_true b2⟩, He.eqO_ok h20, of_decide_eq_true h21, of_decide_eq_true h22, of_decide_eq_true h23, of_decide_eq_true h24, of_decide_eq_true h25, by simpa using h26⟩
theorem Ex.bp {P : Program} {K : PySem.W.Frag} {mg : Str → Option Value} (x : Ex K) (z : fnZ K (He.ma K (He.ga K "BadPart") "__init__") = valZ) (gC : mg "BadPart" = some (.ref (He.ga K "BadPart"))) (gS : mg "super" = none)
    (hP : (P.main.file : Str) = "/claim/cut.py") (hs : (P.main.scope.names.lookup ("super" : Str)).isSome = false) : BpTxt P K mg (He.ga K "BadPart") (He.ma K (He.ga K "BadPart") "__init__") := by
  refine ⟨gC, gS, x.cls, x.sa, x.ga, x.gg, x.noN, x.iC, x.tC, x.kC, x.exC, x.veC, x.tyC, x.hdC, x.te, x.mr, x.su, x.op, hs, ?_⟩
  obtain ⟨oc, od, fd, osl, cc, cda, ho, hc, hd, hcd, ⟨ccl, cdd, vs, ccs, tf, h1, h2⟩, ⟨cl, cld, csl, h3⟩⟩ := x.fn
  unfold fnZ at z
  rw [ho] at z
  obtain ⟨n1, n2, n3, n4, n5, n6, n7, n8, n9, n10, n11, n12, n13, n14, n15⟩ := fd
  have e2 : (some (n1, n2, n3, n4, n5, n6, n8, n15) : FnZ) = (some ("__init__", "BadPart.__init__", bpA, .stmts bpB, bpS, mainGlobals, .none, builtinsNs) : FnZ) := z
  simp only [Option.some.injEq, Prod.mk.injEq] at e2
  obtain ⟨i1, i2, i3, i4, i5, i6, i8, i15⟩ := e2
  dsimp only at hc hd
  subst i1 i2 i3 i4 i5 i6 i8 i15 hc hd
  exact ⟨oc, od, n9, n10, n11, n12, cda, cc, n14, osl, ccl, cdd, vs, ccs, "/claim/cut.py", tf, cl, cld, csl, ho, hcd, h1, h2, by rw [hP]; decide, h3⟩
/-! ### the head's looks -/
def asZ (g : Addr → Option Obj) : List Addr := cStatics :: He.asD g 5
abbrev AlZ : Type := He.AlX × FnZ
def obsK (fa : List He.Fa) (fn : List He.DefD) (tf : List He.Defn) (g : Addr → Option Obj) (K : PySem.W.Frag) : AlZ := ((He.obsT fa fn [] K, exB K && He.tabsB g tf K), fnZ K (He.ma K (He.ga K "BadPart") "__init__"))
def obsZ (fa : List He.Fa) (fn : List He.DefD) (tf : List He.Defn) (g : Addr → Option Obj) : AlZ := obsK fa fn tf g (He.frT g (asZ g))
theorem saysZ_of {fa : List He.Fa} {fn : List He.DefD} {tf : List He.Defn} {w : World} {h : Heap} (e : obsZ fa fn tf h.get? = (He.valX fn [] w, valZ)) : He.SaysX fa fn [] tf exB w h (He.frT h.get? (asZ h.get?)) ∧ fnZ (He.frT h.get? (asZ h.get?)) (He.ma (He.frT h.get? (asZ h.get?)) (He.ga (He.frT h.get? (asZ h.get?)) "BadPart") "__init__") = valZ := by
  have e1 : He.obsT fa fn [] (He.frT h.get? (asZ h.get?)) = He.valT fn [] w := congrArg (fun z : AlZ => z.1.1) e
  have e2 : (exB (He.frT h.get? (asZ h.get?)) && He.tabsB h.get? tf (He.frT h.get? (asZ h.get?))) = true := congrArg (fun z : AlZ => z.1.2) e
  obtain ⟨h1, h2⟩ := He.ba e2
  have key : ∀ p ∈ tf, PySem.W.codeHdIn (He.frT h.get? (asZ h.get?)) (He.cT (He.frT h.get? (asZ h.get?)) p).1 (He.cT (He.frT h.get? (asZ h.get?)) p).2 = true ∧ ∃ o, h.get? (He.cT (He.frT h.get? (asZ h.get?)) p).2 = some o ∧ He.emptyTab o = true := fun p hp => by
    obtain ⟨h3, h4⟩ := He.ba (List.all_eq_true.mp h2 p hp)
    refine ⟨h3, ?_⟩
    cases q : h.get? (He.cT (He.frT h.get? (asZ h.get?)) p).2 with
    | none =>
      rw [q] at h4
      cases h4
    | some o =>
      rw [q] at h4
      exact ⟨o, rfl, h4⟩
  refine ⟨⟨e1, h1, fun p hp => (key p hp).1, fun p hp => ?_, fun p hp => ?_⟩, congrArg (fun z : AlZ => z.2) e⟩
  · obtain ⟨_, o, q, z⟩ := key p hp
    exact He.frT_none q z
  · obtain ⟨_, o, q, z⟩ := key p hp
    rw [q, He.emptyTab_eq z]
def hookZ (fa : List He.Fa) (fn : List He.DefD) (tf : List He.Defn) : PySem.W.Hook where
  α := AlZ
  obs := fun s => obsZ fa fn tf s.heap.get?
  val := fun w => (He.valX fn [] w, valZ)
  says := fun w h => ∃ K : PySem.W.Frag, K.In h ∧ He.SaysX fa fn [] tf exB w h K ∧ fnZ K (He.ma K (He.ga K "BadPart") "__init__") = valZ
  of := fun _ _ e => ⟨_, He.frT_in, saysZ_of e⟩
  keeps := fun _ _ _ ⟨K, hK, c, z⟩ k => ⟨K, PySem.W.Frag.In.keeps hK k, ⟨c.t, c.more, c.hd, c.out, fun p hp => k _ _ (c.empty p hp)⟩, z⟩
theorem obsZ_eq {fa : List He.Fa} {fn : List He.DefD} {tf : List He.Defn} {g : Addr → Option Obj} {s : Shared} (h : ∀ a, g a = s.heap.get? a) : obsZ fa fn tf g = (hookZ fa fn tf).obs s := by
  have e : g = s.heap.get? := funext h
  rw [e] <;> rfl
end K12
namespace K12
open PySem PySem.Spec PyProof.Rows L2
def top (i : Nat) : Stmt := PySem.Challenge.pw_endlessplane_k12_whole_parting_and_break.main.body.getD i (.Pass ⟨0, 0, 0, 0⟩)
abbrev s_is_integer : Stmt := top 2
abbrev s_is_between : Stmt := top 3
abbrev s_is_list : Stmt := top 4
abbrev s_BadPart___init__ : Stmt := inClass (top 7) 0
abbrev s_check_integer : Stmt := top 13
abbrev s_check_remainder : Stmt := top 14
abbrev s_greatest_divisor : Stmt := top 16
abbrev s_least_multiple : Stmt := top 17
abbrev s_inverse : Stmt := top 18
abbrev s_remainder_of : Stmt := top 19
abbrev s_is_remainder : Stmt := top 20
abbrev s_both_remainders : Stmt := top 21
abbrev s_is_shift : Stmt := top 23
abbrev s_check_shift : Stmt := top 24
abbrev s_check_cell : Stmt := top 25
abbrev s_check_basis : Stmt := top 26
abbrev s_Lattice___init__ : Stmt := inClass (top 27) 0
abbrev s_Lattice___contains__ : Stmt := inClass (top 27) 2
abbrev s_Lattice_place : Stmt := inClass (top 27) 5
abbrev s_Lattice_places : Stmt := inClass (top 27) 7
abbrev s_check_lattice : Stmt := top 28
abbrev s_common_lattice : Stmt := top 29
abbrev s_is_row : Stmt := top 33
abbrev s_check_rows : Stmt := top 34
abbrev s_check_size : Stmt := top 35
abbrev s_sign_at : Stmt := top 36
abbrev s_is_period_of : Stmt := top 37
abbrev s_divisors_of : Stmt := top 38
abbrev s_level_period : Stmt := top 39
abbrev s_least_lattice : Stmt := top 40
abbrev s_normal_rows : Stmt := top 41
abbrev s_rows_by : Stmt := top 42
abbrev s_Carpet___init__ : Stmt := inClass (top 43) 0
abbrev s_Carpet___eq__ : Stmt := inClass (top 43) 1
abbrev s_Carpet_sign : Stmt := inClass (top 43) 2
abbrev s_Carpet_lattice : Stmt := inClass (top 43) 4
abbrev s_Carpet_least : Stmt := inClass (top 43) 5
abbrev s_Carpet_moved_by : Stmt := inClass (top 43) 9
abbrev s_Carpet_is_period : Stmt := inClass (top 43) 10
abbrev s_check_carpet : Stmt := top 44
abbrev s_signs_of_row : Stmt := top 46
abbrev s_parting_of : Stmt := top 47
abbrev s_parting_cell : Stmt := top 48
abbrev s_breaking_of : Stmt := top 49
abbrev s_breaking_cell : Stmt := top 50
abbrev s__law_opened : Stmt := top 52
abbrev s__law_draw : Stmt := top 53
abbrev s__law_pick : Stmt := top 54
abbrev s__law_three : Stmt := top 55
abbrev s__law_place : Stmt := top 56
abbrev s__law_rows : Stmt := top 57
abbrev s__law_colour : Stmt := top 58
abbrev s__law_coarser : Stmt := top 59
abbrev s__law_parting : Stmt := top 60
abbrev s__law_bent : Stmt := top 61
abbrev s__law_refused : Stmt := top 62
abbrev s__law_made : Stmt := top 63
abbrev s__law_window : Stmt := top 64
abbrev s__law_pair_right : Stmt := top 65
abbrev s__law_breaking_right : Stmt := top 66
abbrev s_law : Stmt := top 67
def d_is_integer : He.DefD := ⟨("is_integer", none), "is_integer", "is_integer", defArgs s_is_integer, defBody s_is_integer, defScope s_is_integer, [], []⟩
def d_is_between : He.DefD := ⟨("is_between", none), "is_between", "is_between", defArgs s_is_between, defBody s_is_between, defScope s_is_between, [], []⟩
def d_is_list : He.DefD := ⟨("is_list", none), "is_list", "is_list", defArgs s_is_list, defBody s_is_list, defScope s_is_list, [], []⟩
def d_BadPart___init__ : He.DefD := ⟨("BadPart", some "__init__"), "__init__", "BadPart.__init__", defArgs s_BadPart___init__, defBody s_BadPart___init__, defScope s_BadPart___init__, [], []⟩
def d_check_integer : He.DefD := ⟨("check_integer", none), "check_integer", "check_integer", defArgs s_check_integer, defBody s_check_integer, defScope s_check_integer, [], []⟩
def d_check_remainder : He.DefD := ⟨("check_remainder", none), "check_remainder", "check_remainder", defArgs s_check_remainder, defBody s_check_remainder, defScope s_check_remainder, [], []⟩
def d_greatest_divisor : He.DefD := ⟨("greatest_divisor", none), "greatest_divisor", "greatest_divisor", defArgs s_greatest_divisor, defBody s_greatest_divisor, defScope s_greatest_divisor, [], []⟩
def d_least_multiple : He.DefD := ⟨("least_multiple", none), "least_multiple", "least_multiple", defArgs s_least_multiple, defBody s_least_multiple, defScope s_least_multiple, [], []⟩
def d_inverse : He.DefD := ⟨("inverse", none), "inverse", "inverse", defArgs s_inverse, defBody s_inverse, defScope s_inverse, [], []⟩
def d_remainder_of : He.DefD := ⟨("remainder_of", none), "remainder_of", "remainder_of", defArgs s_remainder_of, defBody s_remainder_of, defScope s_remainder_of, [], []⟩
def d_is_remainder : He.DefD := ⟨("is_remainder", none), "is_remainder", "is_remainder", defArgs s_is_remainder, defBody s_is_remainder, defScope s_is_remainder, [], []⟩
def d_both_remainders : He.DefD := ⟨("both_remainders", none), "both_remainders", "both_remainders", defArgs s_both_remainders, defBody s_both_remainders, defScope s_both_remainders, [], []⟩
def d_is_shift : He.DefD := ⟨("is_shift", none), "is_shift", "is_shift", defArgs s_is_shift, defBody s_is_shift, defScope s_is_shift, [], []⟩
def d_check_shift : He.DefD := ⟨("check_shift", none), "check_shift", "check_shift", defArgs s_check_shift, defBody s_check_shift, defScope s_check_shift, [], []⟩
def d_check_cell : He.DefD := ⟨("check_cell", none), "check_cell", "check_cell", defArgs s_check_cell, defBody s_check_cell, defScope s_check_cell, [], []⟩
def d_check_basis : He.DefD := ⟨("check_basis", none), "check_basis", "check_basis", defArgs s_check_basis, defBody s_check_basis, defScope s_check_basis, [], []⟩
def d_Lattice___init__ : He.DefD := ⟨("Lattice", some "__init__"), "__init__", "Lattice.__init__", defArgs s_Lattice___init__, defBody s_Lattice___init__, defScope s_Lattice___init__, [], []⟩
def d_Lattice___contains__ : He.DefD := ⟨("Lattice", some "__contains__"), "__contains__", "Lattice.__contains__", defArgs s_Lattice___contains__, defBody s_Lattice___contains__, defScope s_Lattice___contains__, [], []⟩
def d_Lattice_place : He.DefD := ⟨("Lattice", some "place"), "place", "Lattice.place", defArgs s_Lattice_place, defBody s_Lattice_place, defScope s_Lattice_place, [], []⟩
def d_Lattice_places : He.DefD := ⟨("Lattice", some "places"), "places", "Lattice.places", defArgs s_Lattice_places, defBody s_Lattice_places, defScope s_Lattice_places, [], []⟩
def d_check_lattice : He.DefD := ⟨("check_lattice", none), "check_lattice", "check_lattice", defArgs s_check_lattice, defBody s_check_lattice, defScope s_check_lattice, [], []⟩
def d_common_lattice : He.DefD := ⟨("common_lattice", none), "common_lattice", "common_lattice", defArgs s_common_lattice, defBody s_common_lattice, defScope s_common_lattice, [], []⟩
def d_is_row : He.DefD := ⟨("is_row", none), "is_row", "is_row", defArgs s_is_row, defBody s_is_row, defScope s_is_row, [], []⟩
def d_check_rows : He.DefD := ⟨("check_rows", none), "check_rows", "check_rows", defArgs s_check_rows, defBody s_check_rows, defScope s_check_rows, [], []⟩
def d_check_size : He.DefD := ⟨("check_size", none), "check_size", "check_size", defArgs s_check_size, defBody s_check_size, defScope s_check_size, [], []⟩
def d_sign_at : He.DefD := ⟨("sign_at", none), "sign_at", "sign_at", defArgs s_sign_at, defBody s_sign_at, defScope s_sign_at, [], []⟩
def d_is_period_of : He.DefD := ⟨("is_period_of", none), "is_period_of", "is_period_of", defArgs s_is_period_of, defBody s_is_period_of, defScope s_is_period_of, [], []⟩
def d_divisors_of : He.DefD := ⟨("divisors_of", none), "divisors_of", "divisors_of", defArgs s_divisors_of, defBody s_divisors_of, defScope s_divisors_of, [], []⟩
def d_level_period : He.DefD := ⟨("level_period", none), "level_period", "level_period", defArgs s_level_period, defBody s_level_period, defScope s_level_period, [], []⟩
def d_least_lattice : He.DefD := ⟨("least_lattice", none), "least_lattice", "least_lattice", defArgs s_least_lattice, defBody s_least_lattice, defScope s_least_lattice, [], []⟩
def d_normal_rows : He.DefD := ⟨("normal_rows", none), "normal_rows", "normal_rows", defArgs s_normal_rows, defBody s_normal_rows, defScope s_normal_rows, [], []⟩
def d_rows_by : He.DefD := ⟨("rows_by", none), "rows_by", "rows_by", defArgs s_rows_by, defBody s_rows_by, defScope s_rows_by, [], []⟩
def d_Carpet___init__ : He.DefD := ⟨("Carpet", some "__init__"), "__init__", "Carpet.__init__", defArgs s_Carpet___init__, defBody s_Carpet___init__, defScope s_Carpet___init__, [], []⟩
def d_Carpet___eq__ : He.DefD := ⟨("Carpet", some "__eq__"), "__eq__", "Carpet.__eq__", defArgs s_Carpet___eq__, defBody s_Carpet___eq__, defScope s_Carpet___eq__, [], []⟩
def d_Carpet_sign : He.DefD := ⟨("Carpet", some "sign"), "sign", "Carpet.sign", defArgs s_Carpet_sign, defBody s_Carpet_sign, defScope s_Carpet_sign, [], []⟩
def d_Carpet_lattice : He.DefD := ⟨("Carpet", some "lattice"), "lattice", "Carpet.lattice", defArgs s_Carpet_lattice, defBody s_Carpet_lattice, defScope s_Carpet_lattice, [], []⟩
def d_Carpet_least : He.DefD := ⟨("Carpet", some "least"), "least", "Carpet.least", defArgs s_Carpet_least, defBody s_Carpet_least, defScope s_Carpet_least, [], []⟩
def d_Carpet_moved_by : He.DefD := ⟨("Carpet", some "moved_by"), "moved_by", "Carpet.moved_by", defArgs s_Carpet_moved_by, defBody s_Carpet_moved_by, defScope s_Carpet_moved_by, [], []⟩
def d_Carpet_is_period : He.DefD := ⟨("Carpet", some "is_period"), "is_period", "Carpet.is_period", defArgs s_Carpet_is_period, defBody s_Carpet_is_period, defScope s_Carpet_is_period, [], []⟩
def d_check_carpet : He.DefD := ⟨("check_carpet", none), "check_carpet", "check_carpet", defArgs s_check_carpet, defBody s_check_carpet, defScope s_check_carpet, [], []⟩
def d_signs_of_row : He.DefD := ⟨("signs_of_row", none), "signs_of_row", "signs_of_row", defArgs s_signs_of_row, defBody s_signs_of_row, defScope s_signs_of_row, [], []⟩
def d_parting_of : He.DefD := ⟨("parting_of", none), "parting_of", "parting_of", defArgs s_parting_of, defBody s_parting_of, defScope s_parting_of, [], []⟩
def d_parting_cell : He.DefD := ⟨("parting_cell", none), "parting_cell", "parting_cell", defArgs s_parting_cell, defBody s_parting_cell, defScope s_parting_cell, [], []⟩
def d_breaking_of : He.DefD := ⟨("breaking_of", none), "breaking_of", "breaking_of", defArgs s_breaking_of, defBody s_breaking_of, defScope s_breaking_of, [], []⟩
def d_breaking_cell : He.DefD := ⟨("breaking_cell", none), "breaking_cell", "breaking_cell", defArgs s_breaking_cell, defBody s_breaking_cell, defScope s_breaking_cell, [], []⟩
def d__law_opened : He.DefD := ⟨("_law_opened", none), "_law_opened", "_law_opened", defArgs s__law_opened, defBody s__law_opened, defScope s__law_opened, [], []⟩
def d__law_draw : He.DefD := ⟨("_law_draw", none), "_law_draw", "_law_draw", defArgs s__law_draw, defBody s__law_draw, defScope s__law_draw, [], []⟩
def d__law_pick : He.DefD := ⟨("_law_pick", none), "_law_pick", "_law_pick", defArgs s__law_pick, defBody s__law_pick, defScope s__law_pick, [], []⟩
def d__law_three : He.DefD := ⟨("_law_three", none), "_law_three", "_law_three", defArgs s__law_three, defBody s__law_three, defScope s__law_three, [], []⟩
def d__law_place : He.DefD := ⟨("_law_place", none), "_law_place", "_law_place", defArgs s__law_place, defBody s__law_place, defScope s__law_place, [], []⟩
def d__law_rows : He.DefD := ⟨("_law_rows", none), "_law_rows", "_law_rows", defArgs s__law_rows, defBody s__law_rows, defScope s__law_rows, [], []⟩
def d__law_colour : He.DefD := ⟨("_law_colour", none), "_law_colour", "_law_colour", defArgs s__law_colour, defBody s__law_colour, defScope s__law_colour, [], []⟩
def d__law_coarser : He.DefD := ⟨("_law_coarser", none), "_law_coarser", "_law_coarser", defArgs s__law_coarser, defBody s__law_coarser, defScope s__law_coarser, [], []⟩
def d__law_parting : He.DefD := ⟨("_law_parting", none), "_law_parting", "_law_parting", defArgs s__law_parting, defBody s__law_parting, defScope s__law_parting, [], []⟩
def d__law_bent : He.DefD := ⟨("_law_bent", none), "_law_bent", "_law_bent", defArgs s__law_bent, defBody s__law_bent, defScope s__law_bent, [], []⟩
def d__law_refused : He.DefD := ⟨("_law_refused", none), "_law_refused", "_law_refused", defArgs s__law_refused, defBody s__law_refused, defScope s__law_refused, [], []⟩
def d__law_made : He.DefD := ⟨("_law_made", none), "_law_made", "_law_made", defArgs s__law_made, defBody s__law_made, defScope s__law_made, [], []⟩
def d__law_window : He.DefD := ⟨("_law_window", none), "_law_window", "_law_window", defArgs s__law_window, defBody s__law_window, defScope s__law_window, [], []⟩
def d__law_pair_right : He.DefD := ⟨("_law_pair_right", none), "_law_pair_right", "_law_pair_right", defArgs s__law_pair_right, defBody s__law_pair_right, defScope s__law_pair_right, [], []⟩
def d__law_breaking_right : He.DefD := ⟨("_law_breaking_right", none), "_law_breaking_right", "_law_breaking_right", defArgs s__law_breaking_right, defBody s__law_breaking_right, defScope s__law_breaking_right, [], []⟩
def d_law : He.DefD := ⟨("law", none), "law", "law", defArgs s_law, defBody s_law, defScope s_law, [], []⟩
def fn : List He.DefD := [d_is_integer, d_is_between, d_is_list, d_check_integer, d_check_remainder, d_greatest_divisor, d_least_multiple, d_inverse, d_remainder_of, d_is_remainder, d_both_remainders, d_is_shift, d_check_shift, d_check_cell, d_check_basis, d_Lattice___init__, d_Lattice___contains__, d_Lattice_place, d_Lattice_places, d_check_lattice, d_common_lattice, d_is_row, d_check_rows, d_check_size, d_sign_at, d_is_period_of, d_divisors_of, d_level_period, d_least_lattice, d_normal_rows, d_rows_by, d_Carpet___init__, d_Carpet___eq__, d_Carpet_sign, d_Carpet_lattice, d_Carpet_least, d_Carpet_moved_by, d_Carpet_is_period, d_check_carpet, d_signs_of_row, d_parting_of, d_parting_cell, d_breaking_of, d_breaking_cell, d__law_opened, d__law_draw, d__law_pick, d__law_three, d__law_place, d__law_rows, d__law_colour, d__law_coarser, d__law_parting, d__law_bent, d__law_refused, d__law_made, d__law_window, d__law_pair_right, d__law_breaking_right, d_law]
def names1 : List Str := ["_wall", "is_integer", "is_between", "is_list", "PlaneError", "BadPart", "BadNumber", "BadIndex", "NotSo", "TooMany", "check_integer", "check_remainder", "greatest_divisor", "least_multiple", "inverse", "remainder_of", "is_remainder", "both_remainders", "is_shift", "check_shift", "check_cell", "check_basis", "Lattice", "check_lattice", "common_lattice", "MOST_CELLS", "FIGURES", "is_row", "check_rows", "check_size"]
def names2 : List Str := ["sign_at", "is_period_of", "divisors_of", "level_period", "least_lattice", "normal_rows", "rows_by", "Carpet", "check_carpet", "signs_of_row", "parting_of", "parting_cell", "breaking_of", "breaking_cell", "_law_opened", "_law_draw", "_law_pick", "_law_three", "_law_place", "_law_rows", "_law_colour", "_law_coarser", "_law_parting", "_law_bent", "_law_refused", "_law_made", "_law_window", "_law_pair_right", "_law_breaking_right"]
def fa : List He.Fa := [.glo "is_integer", .glo "is_between", .glo "is_list", .glo "BadPart", .glo "check_integer", .glo "check_remainder", .glo "greatest_divisor", .glo "least_multiple", .glo "inverse", .glo "remainder_of", .glo "is_remainder", .glo "both_remainders", .glo "is_shift", .glo "check_shift", .glo "check_cell", .glo "check_basis", .glo "Lattice", .glo "check_lattice", .glo "common_lattice", .glo "is_row", .glo "check_rows", .glo "check_size", .glo "sign_at", .glo "is_period_of", .glo "divisors_of", .glo "level_period", .glo "least_lattice", .glo "normal_rows", .glo "rows_by", .glo "Carpet", .glo "check_carpet", .glo "signs_of_row", .glo "parting_of", .glo "parting_cell", .glo "breaking_of", .glo "breaking_cell", .glo "_law_opened", .glo "_law_draw", .glo "_law_pick", .glo "_law_three", .glo "_law_place", .glo "_law_rows", .glo "_law_colour", .glo "_law_coarser", .glo "_law_parting", .glo "_law_bent", .glo "_law_refused", .glo "_law_made", .glo "_law_window", .glo "_law_pair_right", .glo "_law_breaking_right", .glo "law", .free "isinstance", .free "int", .free "bool", .free "list", .free "tuple", .free "str", .free "len", .free "all", .free "abs", .free "range", .free "enumerate", .free "min", .free "max", .free "super", .int "MOST_CELLS" 144, .str "FIGURES" "0123456789", .cls "Lattice", .cls "Carpet", .mkr "Lattice", .mkr "Carpet", .noat "Lattice" "a", .noat "Lattice" "b", .noat "Lattice" "d", .noat "Carpet" "a", .noat "Carpet" "b", .noat "Carpet" "d", .noat "Carpet" "rows", .noat "Carpet" "basis", .noat "Carpet" "shape", .meth "Lattice" "__contains__", .meth "Lattice" "place", .meth "Lattice" "places", .meth "Carpet" "__eq__", .meth "Carpet" "sign", .meth "Carpet" "lattice", .meth "Carpet" "least", .meth "Carpet" "moved_by", .meth "Carpet" "is_period", .keep "is_integer", .keep "is_between", .keep "is_list", .keep "BadPart", .keep "check_integer", .keep "check_remainder", .keep "greatest_divisor", .keep "least_multiple", .keep "inverse", .keep "remainder_of", .keep "is_remainder", .keep "both_remainders", .keep "is_shift", .keep "check_shift", .keep "check_cell", .keep "check_basis", .keep "check_lattice", .keep "common_lattice", .keep "is_row", .keep "check_rows", .keep "check_size", .keep "sign_at", .keep "is_period_of", .keep "divisors_of", .keep "level_period", .keep "least_lattice", .keep "normal_rows", .keep "rows_by", .keep "check_carpet", .keep "signs_of_row", .keep "parting_of", .keep "parting_cell", .keep "breaking_of", .keep "breaking_cell", .keep "_law_opened", .keep "_law_draw", .keep "_law_pick", .keep "_law_three", .keep "_law_place", .keep "_law_rows", .keep "_law_colour", .keep "_law_coarser", .keep "_law_parting", .keep "_law_bent", .keep "_law_refused", .keep "_law_made", .keep "_law_window", .keep "_law_pair_right", .keep "_law_breaking_right", .keep "law"]
end K12
namespace K12
open PySem PySem.Spec PyProof.Rows L2
structure Tx (P : Program) (w : World) (K : PySem.W.Frag) (mg : Str → Option Value) (base : Heap) : Prop where
  d : He.SaysD fa fn K
  nsm : ∃ h, K.In h ∧ h.Ns mainGlobals mg
  ex : Ex K
  tb : ∀ p ∈ tf, LamX.TabB base mg (He.cT K p).1 (He.cT K p).2
  bp : BpTxt P K mg (He.ga K "BadPart") (He.ma K (He.ga K "BadPart") "__init__")
section
variable {P : Program} {w : World} {K : PySem.W.Frag} {mg : Str → Option Value} {base : Heap}
theorem Tx.g_is_integer (T : Tx P w K mg base) : mg "is_integer" = some (.ref (He.ga K "is_integer")) := by
  obtain ⟨h, X, G⟩ := T.nsm
  exact He.glo_ok X G (T.d.fact 0 (f := .glo "is_integer") rfl)
theorem Tx.g_is_between (T : Tx P w K mg base) : mg "is_between" = some (.ref (He.ga K "is_between")) := by
  obtain ⟨h, X, G⟩ := T.nsm
  exact He.glo_ok X G (T.d.fact 1 (f := .glo "is_between") rfl)
theorem Tx.g_is_list (T : Tx P w K mg base) : mg "is_list" = some (.ref (He.ga K "is_list")) := by
  obtain ⟨h, X, G⟩ := T.nsm
  exact He.glo_ok X G (T.d.fact 2 (f := .glo "is_list") rfl)
theorem Tx.g_BadPart (T : Tx P w K mg base) : mg "BadPart" = some (.ref (He.ga K "BadPart")) := by
  obtain ⟨h, X, G⟩ := T.nsm
  exact He.glo_ok X G (T.d.fact 3 (f := .glo "BadPart") rfl)
theorem Tx.g_check_integer (T : Tx P w K mg base) : mg "check_integer" = some (.ref (He.ga K "check_integer")) := by
  obtain ⟨h, X, G⟩ := T.nsm
  exact He.glo_ok X G (T.d.fact 4 (f := .glo "check_integer") rfl)
theorem Tx.g_check_remainder (T : Tx P w K mg base) : mg "check_remainder" = some (.ref (He.ga K "check_remainder")) := by
  obtain ⟨h, X, G⟩ := T.nsm
  exact He.glo_ok X G (T.d.fact 5 (f := .glo "check_remainder") rfl)
theorem Tx.g_greatest_divisor (T : Tx P w K mg base) : mg "greatest_divisor" = some (.ref (He.ga K "greatest_divisor")) := by
  obtain ⟨h, X, G⟩ := T.nsm
  exact He.glo_ok X G (T.d.fact 6 (f := .glo "greatest_divisor") rfl)
theorem Tx.g_least_multiple (T : Tx P w K mg base) : mg "least_multiple" = some (.ref (He.ga K "least_multiple")) := by
  obtain ⟨h, X, G⟩ := T.nsm
  exact He.glo_ok X G (T.d.fact 7 (f := .glo "least_multiple") rfl)
theorem Tx.g_inverse (T : Tx P w K mg base) : mg "inverse" = some (.ref (He.ga K "inverse")) := by
  obtain ⟨h, X, G⟩ := T.nsm
  exact He.glo_ok X G (T.d.fact 8 (f := .glo "inverse") rfl)
theorem Tx.g_remainder_of (T : Tx P w K mg base) : mg "remainder_of" = some (.ref (He.ga K "remainder_of")) := by
  obtain ⟨h, X, G⟩ := T.nsm
  exact He.glo_ok X G (T.d.fact 9 (f := .glo "remainder_of") rfl)
theorem Tx.g_is_remainder (T : Tx P w K mg base) : mg "is_remainder" = some (.ref (He.ga K "is_remainder")) := by
  obtain ⟨h, X, G⟩ := T.nsm
  exact He.glo_ok X G (T.d.fact 10 (f := .glo "is_remainder") rfl)
theorem Tx.g_both_remainders (T : Tx P w K mg base) : mg "both_remainders" = some (.ref (He.ga K "both_remainders")) := by
  obtain ⟨h, X, G⟩ := T.nsm
  exact He.glo_ok X G (T.d.fact 11 (f := .glo "both_remainders") rfl)
theorem Tx.g_is_shift (T : Tx P w K mg base) : mg "is_shift" = some (.ref (He.ga K "is_shift")) := by
  obtain ⟨h, X, G⟩ := T.nsm
  exact He.glo_ok X G (T.d.fact 12 (f := .glo "is_shift") rfl)
theorem Tx.g_check_shift (T : Tx P w K mg base) : mg "check_shift" = some (.ref (He.ga K "check_shift")) := by
  obtain ⟨h, X, G⟩ := T.nsm
  exact He.glo_ok X G (T.d.fact 13 (f := .glo "check_shift") rfl)
theorem Tx.g_check_cell (T : Tx P w K mg base) : mg "check_cell" = some (.ref (He.ga K "check_cell")) := by
  obtain ⟨h, X, G⟩ := T.nsm
  exact He.glo_ok X G (T.d.fact 14 (f := .glo "check_cell") rfl)
theorem Tx.g_check_basis (T : Tx P w K mg base) : mg "check_basis" = some (.ref (He.ga K "check_basis")) := by
  obtain ⟨h, X, G⟩ := T.nsm
  exact He.glo_ok X G (T.d.fact 15 (f := .glo "check_basis") rfl)
theorem Tx.g_Lattice (T : Tx P w K mg base) : mg "Lattice" = some (.ref (He.ga K "Lattice")) := by
  obtain ⟨h, X, G⟩ := T.nsm
  exact He.glo_ok X G (T.d.fact 16 (f := .glo "Lattice") rfl)
theorem Tx.g_check_lattice (T : Tx P w K mg base) : mg "check_lattice" = some (.ref (He.ga K "check_lattice")) := by
  obtain ⟨h, X, G⟩ := T.nsm
  exact He.glo_ok X G (T.d.fact 17 (f := .glo "check_lattice") rfl)
theorem Tx.g_common_lattice (T : Tx P w K mg base) : mg "common_lattice" = some (.ref (He.ga K "common_lattice")) := by
  obtain ⟨h, X, G⟩ := T.nsm
  exact He.glo_ok X G (T.d.fact 18 (f := .glo "common_lattice") rfl)
theorem Tx.g_is_row (T : Tx P w K mg base) : mg "is_row" = some (.ref (He.ga K "is_row")) := by
  obtain ⟨h, X, G⟩ := T.nsm
  exact He.glo_ok X G (T.d.fact 19 (f := .glo "is_row") rfl)
theorem Tx.g_check_rows (T : Tx P w K mg base) : mg "check_rows" = some (.ref (He.ga K "check_rows")) := by
  obtain ⟨h, X, G⟩ := T.nsm
  exact He.glo_ok X G (T.d.fact 20 (f := .glo "check_rows") rfl)
theorem Tx.g_check_size (T : Tx P w K mg base) : mg "check_size" = some (.ref (He.ga K "check_size")) := by
  obtain ⟨h, X, G⟩ := T.nsm
  exact He.glo_ok X G (T.d.fact 21 (f := .glo "check_size") rfl)
theorem Tx.g_sign_at (T : Tx P w K mg base) : mg "sign_at" = some (.ref (He.ga K "sign_at")) := by
  obtain ⟨h, X, G⟩ := T.nsm
  exact He.glo_ok X G (T.d.fact 22 (f := .glo "sign_at") rfl)
theorem Tx.g_is_period_of (T : Tx P w K mg base) : mg "is_period_of" = some (.ref (He.ga K "is_period_of")) := by
  obtain ⟨h, X, G⟩ := T.nsm
  exact He.glo_ok X G (T.d.fact 23 (f := .glo "is_period_of") rfl)
theorem Tx.g_divisors_of (T : Tx P w K mg base) : mg "divisors_of" = some (.ref (He.ga K "divisors_of")) := by
  obtain ⟨h, X, G⟩ := T.nsm
  exact He.glo_ok X G (T.d.fact 24 (f := .glo "divisors_of") rfl)
theorem Tx.g_level_period (T : Tx P w K mg base) : mg "level_period" = some (.ref (He.ga K "level_period")) := by
  obtain ⟨h, X, G⟩ := T.nsm
  exact He.glo_ok X G (T.d.fact 25 (f := .glo "level_period") rfl)
theorem Tx.g_least_lattice (T : Tx P w K mg base) : mg "least_lattice" = some (.ref (He.ga K "least_lattice")) := by
  obtain ⟨h, X, G⟩ := T.nsm
  exact He.glo_ok X G (T.d.fact 26 (f := .glo "least_lattice") rfl)
theorem Tx.g_normal_rows (T : Tx P w K mg base) : mg "normal_rows" = some (.ref (He.ga K "normal_rows")) := by
  obtain ⟨h, X, G⟩ := T.nsm
  exact He.glo_ok X G (T.d.fact 27 (f := .glo "normal_rows") rfl)
theorem Tx.g_rows_by (T : Tx P w K mg base) : mg "rows_by" = some (.ref (He.ga K "rows_by")) := by
  obtain ⟨h, X, G⟩ := T.nsm
  exact He.glo_ok X G (T.d.fact 28 (f := .glo "rows_by") rfl)
theorem Tx.g_Carpet (T : Tx P w K mg base) : mg "Carpet" = some (.ref (He.ga K "Carpet")) := by
  obtain ⟨h, X, G⟩ := T.nsm
  exact He.glo_ok X G (T.d.fact 29 (f := .glo "Carpet") rfl)
theorem Tx.g_check_carpet (T : Tx P w K mg base) : mg "check_carpet" = some (.ref (He.ga K "check_carpet")) := by
  obtain ⟨h, X, G⟩ := T.nsm
  exact He.glo_ok X G (T.d.fact 30 (f := .glo "check_carpet") rfl)
theorem Tx.g_signs_of_row (T : Tx P w K mg base) : mg "signs_of_row" = some (.ref (He.ga K "signs_of_row")) := by
  obtain ⟨h, X, G⟩ := T.nsm
  exact He.glo_ok X G (T.d.fact 31 (f := .glo "signs_of_row") rfl)
theorem Tx.g_parting_of (T : Tx P w K mg base) : mg "parting_of" = some (.ref (He.ga K "parting_of")) := by
  obtain ⟨h, X, G⟩ := T.nsm
  exact He.glo_ok X G (T.d.fact 32 (f := .glo "parting_of") rfl)
theorem Tx.g_parting_cell (T : Tx P w K mg base) : mg "parting_cell" = some (.ref (He.ga K "parting_cell")) := by
  obtain ⟨h, X, G⟩ := T.nsm
  exact He.glo_ok X G (T.d.fact 33 (f := .glo "parting_cell") rfl)
theorem Tx.g_breaking_of (T : Tx P w K mg base) : mg "breaking_of" = some (.ref (He.ga K "breaking_of")) := by
  obtain ⟨h, X, G⟩ := T.nsm
  exact He.glo_ok X G (T.d.fact 34 (f := .glo "breaking_of") rfl)
theorem Tx.g_breaking_cell (T : Tx P w K mg base) : mg "breaking_cell" = some (.ref (He.ga K "breaking_cell")) := by
  obtain ⟨h, X, G⟩ := T.nsm
  exact He.glo_ok X G (T.d.fact 35 (f := .glo "breaking_cell") rfl)
theorem Tx.g__law_opened (T : Tx P w K mg base) : mg "_law_opened" = some (.ref (He.ga K "_law_opened")) := by
  obtain ⟨h, X, G⟩ := T.nsm
  exact He.glo_ok X G (T.d.fact 36 (f := .glo "_law_opened") rfl)
theorem Tx.g__law_draw (T : Tx P w K mg base) : mg "_law_draw" = some (.ref (He.ga K "_law_draw")) := by
  obtain ⟨h, X, G⟩ := T.nsm
  exact He.glo_ok X G (T.d.fact 37 (f := .glo "_law_draw") rfl)
theorem Tx.g__law_pick (T : Tx P w K mg base) : mg "_law_pick" = some (.ref (He.ga K "_law_pick")) := by
  obtain ⟨h, X, G⟩ := T.nsm
  exact He.glo_ok X G (T.d.fact 38 (f := .glo "_law_pick") rfl)
theorem Tx.g__law_three (T : Tx P w K mg base) : mg "_law_three" = some (.ref (He.ga K "_law_three")) := by
  obtain ⟨h, X, G⟩ := T.nsm
  exact He.glo_ok X G (T.d.fact 39 (f := .glo "_law_three") rfl)
theorem Tx.g__law_place (T : Tx P w K mg base) : mg "_law_place" = some (.ref (He.ga K "_law_place")) := by
  obtain ⟨h, X, G⟩ := T.nsm
  exact He.glo_ok X G (T.d.fact 40 (f := .glo "_law_place") rfl)
theorem Tx.g__law_rows (T : Tx P w K mg base) : mg "_law_rows" = some (.ref (He.ga K "_law_rows")) := by
  obtain ⟨h, X, G⟩ := T.nsm
  exact He.glo_ok X G (T.d.fact 41 (f := .glo "_law_rows") rfl)
theorem Tx.g__law_colour (T : Tx P w K mg base) : mg "_law_colour" = some (.ref (He.ga K "_law_colour")) := by
  obtain ⟨h, X, G⟩ := T.nsm
  exact He.glo_ok X G (T.d.fact 42 (f := .glo "_law_colour") rfl)
theorem Tx.g__law_coarser (T : Tx P w K mg base) : mg "_law_coarser" = some (.ref (He.ga K "_law_coarser")) := by
  obtain ⟨h, X, G⟩ := T.nsm
  exact He.glo_ok X G (T.d.fact 43 (f := .glo "_law_coarser") rfl)
theorem Tx.g__law_parting (T : Tx P w K mg base) : mg "_law_parting" = some (.ref (He.ga K "_law_parting")) := by
  obtain ⟨h, X, G⟩ := T.nsm
  exact He.glo_ok X G (T.d.fact 44 (f := .glo "_law_parting") rfl)
theorem Tx.g__law_bent (T : Tx P w K mg base) : mg "_law_bent" = some (.ref (He.ga K "_law_bent")) := by
  obtain ⟨h, X, G⟩ := T.nsm
  exact He.glo_ok X G (T.d.fact 45 (f := .glo "_law_bent") rfl)
theorem Tx.g__law_refused (T : Tx P w K mg base) : mg "_law_refused" = some (.ref (He.ga K "_law_refused")) := by
  obtain ⟨h, X, G⟩ := T.nsm
  exact He.glo_ok X G (T.d.fact 46 (f := .glo "_law_refused") rfl)
theorem Tx.g__law_made (T : Tx P w K mg base) : mg "_law_made" = some (.ref (He.ga K "_law_made")) := by
  obtain ⟨h, X, G⟩ := T.nsm
  exact He.glo_ok X G (T.d.fact 47 (f := .glo "_law_made") rfl)
theorem Tx.g__law_window (T : Tx P w K mg base) : mg "_law_window" = some (.ref (He.ga K "_law_window")) := by
  obtain ⟨h, X, G⟩ := T.nsm
  exact He.glo_ok X G (T.d.fact 48 (f := .glo "_law_window") rfl)
theorem Tx.g__law_pair_right (T : Tx P w K mg base) : mg "_law_pair_right" = some (.ref (He.ga K "_law_pair_right")) := by
  obtain ⟨h, X, G⟩ := T.nsm
  exact He.glo_ok X G (T.d.fact 49 (f := .glo "_law_pair_right") rfl)
theorem Tx.g__law_breaking_right (T : Tx P w K mg base) : mg "_law_breaking_right" = some (.ref (He.ga K "_law_breaking_right")) := by
  obtain ⟨h, X, G⟩ := T.nsm
  exact He.glo_ok X G (T.d.fact 50 (f := .glo "_law_breaking_right") rfl)
theorem Tx.g_law (T : Tx P w K mg base) : mg "law" = some (.ref (He.ga K "law")) := by
  obtain ⟨h, X, G⟩ := T.nsm
  exact He.glo_ok X G (T.d.fact 51 (f := .glo "law") rfl)
theorem Tx.f_isinstance (T : Tx P w K mg base) : mg "isinstance" = none := by
  obtain ⟨h, X, G⟩ := T.nsm
  exact He.free_ok X G (T.d.fact 52 (f := .free "isinstance") rfl)
theorem Tx.f_int (T : Tx P w K mg base) : mg "int" = none := by
  obtain ⟨h, X, G⟩ := T.nsm
  exact He.free_ok X G (T.d.fact 53 (f := .free "int") rfl)
theorem Tx.f_bool (T : Tx P w K mg base) : mg "bool" = none := by
  obtain ⟨h, X, G⟩ := T.nsm
  exact He.free_ok X G (T.d.fact 54 (f := .free "bool") rfl)
theorem Tx.f_list (T : Tx P w K mg base) : mg "list" = none := by
  obtain ⟨h, X, G⟩ := T.nsm
  exact He.free_ok X G (T.d.fact 55 (f := .free "list") rfl)
theorem Tx.f_tuple (T : Tx P w K mg base) : mg "tuple" = none := by
  obtain ⟨h, X, G⟩ := T.nsm
  exact He.free_ok X G (T.d.fact 56 (f := .free "tuple") rfl)
theorem Tx.f_str (T : Tx P w K mg base) : mg "str" = none := by
  obtain ⟨h, X, G⟩ := T.nsm
  exact He.free_ok X G (T.d.fact 57 (f := .free "str") rfl)
theorem Tx.f_len (T : Tx P w K mg base) : mg "len" = none := by
  obtain ⟨h, X, G⟩ := T.nsm
  exact He.free_ok X G (T.d.fact 58 (f := .free "len") rfl)
theorem Tx.f_all (T : Tx P w K mg base) : mg "all" = none := by
  obtain ⟨h, X, G⟩ := T.nsm
  exact He.free_ok X G (T.d.fact 59 (f := .free "all") rfl)
theorem Tx.f_abs (T : Tx P w K mg base) : mg "abs" = none := by
  obtain ⟨h, X, G⟩ := T.nsm
  exact He.free_ok X G (T.d.fact 60 (f := .free "abs") rfl)
theorem Tx.f_range (T : Tx P w K mg base) : mg "range" = none := by
  obtain ⟨h, X, G⟩ := T.nsm
  exact He.free_ok X G (T.d.fact 61 (f := .free "range") rfl)
theorem Tx.f_enumerate (T : Tx P w K mg base) : mg "enumerate" = none := by
  obtain ⟨h, X, G⟩ := T.nsm
  exact He.free_ok X G (T.d.fact 62 (f := .free "enumerate") rfl)
theorem Tx.f_min (T : Tx P w K mg base) : mg "min" = none := by
  obtain ⟨h, X, G⟩ := T.nsm
  exact He.free_ok X G (T.d.fact 63 (f := .free "min") rfl)
theorem Tx.f_max (T : Tx P w K mg base) : mg "max" = none := by
  obtain ⟨h, X, G⟩ := T.nsm
  exact He.free_ok X G (T.d.fact 64 (f := .free "max") rfl)
theorem Tx.f_super (T : Tx P w K mg base) : mg "super" = none := by
  obtain ⟨h, X, G⟩ := T.nsm
  exact He.free_ok X G (T.d.fact 65 (f := .free "super") rfl)
theorem Tx.i_MOST_CELLS (T : Tx P w K mg base) : ∃ t, mg "MOST_CELLS" = some (.int 144 t) := by
  obtain ⟨h, X, G⟩ := T.nsm
  exact He.int_ok X G (T.d.fact 66 (f := .int "MOST_CELLS" 144) rfl)
theorem Tx.s_FIGURES (T : Tx P w K mg base) : ∃ t, mg "FIGURES" = some (.str "0123456789" t) := by
  obtain ⟨h, X, G⟩ := T.nsm
  exact He.str_ok X G (T.d.fact 67 (f := .str "FIGURES" "0123456789") rfl)
theorem Tx.c_Lattice (T : Tx P w K mg base) : Cls K (He.ga K "Lattice") := He.cls_ok (T.d.fact 68 (f := .cls "Lattice") rfl)
theorem Tx.c_Carpet (T : Tx P w K mg base) : Cls K (He.ga K "Carpet") := He.cls_ok (T.d.fact 69 (f := .cls "Carpet") rfl)
theorem Tx.mk_Lattice (T : Tx P w K mg base) : Mk K (He.ga K "Lattice") (He.ma K (He.ga K "Lattice") "__init__") := He.mkr_ok (T.d.fact 70 (f := .mkr "Lattice") rfl)
theorem Tx.mk_Carpet (T : Tx P w K mg base) : Mk K (He.ga K "Carpet") (He.ma K (He.ga K "Carpet") "__init__") := He.mkr_ok (T.d.fact 71 (f := .mkr "Carpet") rfl)
theorem Tx.n_Lattice_a (T : Tx P w K mg base) : NoAttr K (He.ga K "Lattice") "a" := He.noat_ok (T.d.fact 72 (f := .noat "Lattice" "a") rfl)
theorem Tx.n_Lattice_b (T : Tx P w K mg base) : NoAttr K (He.ga K "Lattice") "b" := He.noat_ok (T.d.fact 73 (f := .noat "Lattice" "b") rfl)
theorem Tx.n_Lattice_d (T : Tx P w K mg base) : NoAttr K (He.ga K "Lattice") "d" := He.noat_ok (T.d.fact 74 (f := .noat "Lattice" "d") rfl)
theorem Tx.n_Carpet_a (T : Tx P w K mg base) : NoAttr K (He.ga K "Carpet") "a" := He.noat_ok (T.d.fact 75 (f := .noat "Carpet" "a") rfl)
theorem Tx.n_Carpet_b (T : Tx P w K mg base) : NoAttr K (He.ga K "Carpet") "b" := He.noat_ok (T.d.fact 76 (f := .noat "Carpet" "b") rfl)
theorem Tx.n_Carpet_d (T : Tx P w K mg base) : NoAttr K (He.ga K "Carpet") "d" := He.noat_ok (T.d.fact 77 (f := .noat "Carpet" "d") rfl)
theorem Tx.n_Carpet_rows (T : Tx P w K mg base) : NoAttr K (He.ga K "Carpet") "rows" := He.noat_ok (T.d.fact 78 (f := .noat "Carpet" "rows") rfl)
theorem Tx.n_Carpet_basis (T : Tx P w K mg base) : NoAttr K (He.ga K "Carpet") "basis" := He.noat_ok (T.d.fact 79 (f := .noat "Carpet" "basis") rfl)
theorem Tx.n_Carpet_shape (T : Tx P w K mg base) : NoAttr K (He.ga K "Carpet") "shape" := He.noat_ok (T.d.fact 80 (f := .noat "Carpet" "shape") rfl)
theorem Tx.m_Lattice___contains__ (T : Tx P w K mg base) : Meth K (He.ga K "Lattice") "__contains__" (He.ma K (He.ga K "Lattice") "__contains__") := He.meth_ok (T.d.fact 81 (f := .meth "Lattice" "__contains__") rfl)
theorem Tx.m_Lattice_place (T : Tx P w K mg base) : Meth K (He.ga K "Lattice") "place" (He.ma K (He.ga K "Lattice") "place") := He.meth_ok (T.d.fact 82 (f := .meth "Lattice" "place") rfl)
theorem Tx.m_Lattice_places (T : Tx P w K mg base) : Meth K (He.ga K "Lattice") "places" (He.ma K (He.ga K "Lattice") "places") := He.meth_ok (T.d.fact 83 (f := .meth "Lattice" "places") rfl)
theorem Tx.m_Carpet___eq__ (T : Tx P w K mg base) : Meth K (He.ga K "Carpet") "__eq__" (He.ma K (He.ga K "Carpet") "__eq__") := He.meth_ok (T.d.fact 84 (f := .meth "Carpet" "__eq__") rfl)
theorem Tx.m_Carpet_sign (T : Tx P w K mg base) : Meth K (He.ga K "Carpet") "sign" (He.ma K (He.ga K "Carpet") "sign") := He.meth_ok (T.d.fact 85 (f := .meth "Carpet" "sign") rfl)
theorem Tx.m_Carpet_lattice (T : Tx P w K mg base) : Meth K (He.ga K "Carpet") "lattice" (He.ma K (He.ga K "Carpet") "lattice") := He.meth_ok (T.d.fact 86 (f := .meth "Carpet" "lattice") rfl)
theorem Tx.m_Carpet_least (T : Tx P w K mg base) : Meth K (He.ga K "Carpet") "least" (He.ma K (He.ga K "Carpet") "least") := He.meth_ok (T.d.fact 87 (f := .meth "Carpet" "least") rfl)
theorem Tx.m_Carpet_moved_by (T : Tx P w K mg base) : Meth K (He.ga K "Carpet") "moved_by" (He.ma K (He.ga K "Carpet") "moved_by") := He.meth_ok (T.d.fact 88 (f := .meth "Carpet" "moved_by") rfl)
theorem Tx.m_Carpet_is_period (T : Tx P w K mg base) : Meth K (He.ga K "Carpet") "is_period" (He.ma K (He.ga K "Carpet") "is_period") := He.meth_ok (T.d.fact 89 (f := .meth "Carpet" "is_period") rfl)
theorem Tx.k_is_integer (T : Tx P w K mg base) : PySem.W.keepIn K (.ref (He.ga K "is_integer")) = true := He.keep_ok (T.d.fact 90 (f := .keep "is_integer") rfl)
theorem Tx.k_is_between (T : Tx P w K mg base) : PySem.W.keepIn K (.ref (He.ga K "is_between")) = true := He.keep_ok (T.d.fact 91 (f := .keep "is_between") rfl)
theorem Tx.k_is_list (T : Tx P w K mg base) : PySem.W.keepIn K (.ref (He.ga K "is_list")) = true := He.keep_ok (T.d.fact 92 (f := .keep "is_list") rfl)
theorem Tx.k_BadPart (T : Tx P w K mg base) : PySem.W.keepIn K (.ref (He.ga K "BadPart")) = true := He.keep_ok (T.d.fact 93 (f := .keep "BadPart") rfl)
theorem Tx.k_check_integer (T : Tx P w K mg base) : PySem.W.keepIn K (.ref (He.ga K "check_integer")) = true := He.keep_ok (T.d.fact 94 (f := .keep "check_integer") rfl)
theorem Tx.k_check_remainder (T : Tx P w K mg base) : PySem.W.keepIn K (.ref (He.ga K "check_remainder")) = true := He.keep_ok (T.d.fact 95 (f := .keep "check_remainder") rfl)
theorem Tx.k_greatest_divisor (T : Tx P w K mg base) : PySem.W.keepIn K (.ref (He.ga K "greatest_divisor")) = true := He.keep_ok (T.d.fact 96 (f := .keep "greatest_divisor") rfl)
theorem Tx.k_least_multiple (T : Tx P w K mg base) : PySem.W.keepIn K (.ref (He.ga K "least_multiple")) = true := He.keep_ok (T.d.fact 97 (f := .keep "least_multiple") rfl)
theorem Tx.k_inverse (T : Tx P w K mg base) : PySem.W.keepIn K (.ref (He.ga K "inverse")) = true := He.keep_ok (T.d.fact 98 (f := .keep "inverse") rfl)
theorem Tx.k_remainder_of (T : Tx P w K mg base) : PySem.W.keepIn K (.ref (He.ga K "remainder_of")) = true := He.keep_ok (T.d.fact 99 (f := .keep "remainder_of") rfl)
theorem Tx.k_is_remainder (T : Tx P w K mg base) : PySem.W.keepIn K (.ref (He.ga K "is_remainder")) = true := He.keep_ok (T.d.fact 100 (f := .keep "is_remainder") rfl)
theorem Tx.k_both_remainders (T : Tx P w K mg base) : PySem.W.keepIn K (.ref (He.ga K "both_remainders")) = true := He.keep_ok (T.d.fact 101 (f := .keep "both_remainders") rfl)
theorem Tx.k_is_shift (T : Tx P w K mg base) : PySem.W.keepIn K (.ref (He.ga K "is_shift")) = true := He.keep_ok (T.d.fact 102 (f := .keep "is_shift") rfl)
theorem Tx.k_check_shift (T : Tx P w K mg base) : PySem.W.keepIn K (.ref (He.ga K "check_shift")) = true := He.keep_ok (T.d.fact 103 (f := .keep "check_shift") rfl)
theorem Tx.k_check_cell (T : Tx P w K mg base) : PySem.W.keepIn K (.ref (He.ga K "check_cell")) = true := He.keep_ok (T.d.fact 104 (f := .keep "check_cell") rfl)
theorem Tx.k_check_basis (T : Tx P w K mg base) : PySem.W.keepIn K (.ref (He.ga K "check_basis")) = true := He.keep_ok (T.d.fact 105 (f := .keep "check_basis") rfl)
theorem Tx.k_check_lattice (T : Tx P w K mg base) : PySem.W.keepIn K (.ref (He.ga K "check_lattice")) = true := He.keep_ok (T.d.fact 106 (f := .keep "check_lattice") rfl)
theorem Tx.k_common_lattice (T : Tx P w K mg base) : PySem.W.keepIn K (.ref (He.ga K "common_lattice")) = true := He.keep_ok (T.d.fact 107 (f := .keep "common_lattice") rfl)
theorem Tx.k_is_row (T : Tx P w K mg base) : PySem.W.keepIn K (.ref (He.ga K "is_row")) = true := He.keep_ok (T.d.fact 108 (f := .keep "is_row") rfl)
theorem Tx.k_check_rows (T : Tx P w K mg base) : PySem.W.keepIn K (.ref (He.ga K "check_rows")) = true := He.keep_ok (T.d.fact 109 (f := .keep "check_rows") rfl)
theorem Tx.k_check_size (T : Tx P w K mg base) : PySem.W.keepIn K (.ref (He.ga K "check_size")) = true := He.keep_ok (T.d.fact 110 (f := .keep "check_size") rfl)
theorem Tx.k_sign_at (T : Tx P w K mg base) : PySem.W.keepIn K (.ref (He.ga K "sign_at")) = true := He.keep_ok (T.d.fact 111 (f := .keep "sign_at") rfl)
theorem Tx.k_is_period_of (T : Tx P w K mg base) : PySem.W.keepIn K (.ref (He.ga K "is_period_of")) = true := He.keep_ok (T.d.fact 112 (f := .keep "is_period_of") rfl)
theorem Tx.k_divisors_of (T : Tx P w K mg base) : PySem.W.keepIn K (.ref (He.ga K "divisors_of")) = true := He.keep_ok (T.d.fact 113 (f := .keep "divisors_of") rfl)
theorem Tx.k_level_period (T : Tx P w K mg base) : PySem.W.keepIn K (.ref (He.ga K "level_period")) = true := He.keep_ok (T.d.fact 114 (f := .keep "level_period") rfl)
theorem Tx.k_least_lattice (T : Tx P w K mg base) : PySem.W.keepIn K (.ref (He.ga K "least_lattice")) = true := He.keep_ok (T.d.fact 115 (f := .keep "least_lattice") rfl)
theorem Tx.k_normal_rows (T : Tx P w K mg base) : PySem.W.keepIn K (.ref (He.ga K "normal_rows")) = true := He.keep_ok (T.d.fact 116 (f := .keep "normal_rows") rfl)
theorem Tx.k_rows_by (T : Tx P w K mg base) : PySem.W.keepIn K (.ref (He.ga K "rows_by")) = true := He.keep_ok (T.d.fact 117 (f := .keep "rows_by") rfl)
theorem Tx.k_check_carpet (T : Tx P w K mg base) : PySem.W.keepIn K (.ref (He.ga K "check_carpet")) = true := He.keep_ok (T.d.fact 118 (f := .keep "check_carpet") rfl)
theorem Tx.k_signs_of_row (T : Tx P w K mg base) : PySem.W.keepIn K (.ref (He.ga K "signs_of_row")) = true := He.keep_ok (T.d.fact 119 (f := .keep "signs_of_row") rfl)
theorem Tx.k_parting_of (T : Tx P w K mg base) : PySem.W.keepIn K (.ref (He.ga K "parting_of")) = true := He.keep_ok (T.d.fact 120 (f := .keep "parting_of") rfl)
theorem Tx.k_parting_cell (T : Tx P w K mg base) : PySem.W.keepIn K (.ref (He.ga K "parting_cell")) = true := He.keep_ok (T.d.fact 121 (f := .keep "parting_cell") rfl)
theorem Tx.k_breaking_of (T : Tx P w K mg base) : PySem.W.keepIn K (.ref (He.ga K "breaking_of")) = true := He.keep_ok (T.d.fact 122 (f := .keep "breaking_of") rfl)
theorem Tx.k_breaking_cell (T : Tx P w K mg base) : PySem.W.keepIn K (.ref (He.ga K "breaking_cell")) = true := He.keep_ok (T.d.fact 123 (f := .keep "breaking_cell") rfl)
theorem Tx.k__law_opened (T : Tx P w K mg base) : PySem.W.keepIn K (.ref (He.ga K "_law_opened")) = true := He.keep_ok (T.d.fact 124 (f := .keep "_law_opened") rfl)
theorem Tx.k__law_draw (T : Tx P w K mg base) : PySem.W.keepIn K (.ref (He.ga K "_law_draw")) = true := He.keep_ok (T.d.fact 125 (f := .keep "_law_draw") rfl)
theorem Tx.k__law_pick (T : Tx P w K mg base) : PySem.W.keepIn K (.ref (He.ga K "_law_pick")) = true := He.keep_ok (T.d.fact 126 (f := .keep "_law_pick") rfl)
theorem Tx.k__law_three (T : Tx P w K mg base) : PySem.W.keepIn K (.ref (He.ga K "_law_three")) = true := He.keep_ok (T.d.fact 127 (f := .keep "_law_three") rfl)
theorem Tx.k__law_place (T : Tx P w K mg base) : PySem.W.keepIn K (.ref (He.ga K "_law_place")) = true := He.keep_ok (T.d.fact 128 (f := .keep "_law_place") rfl)
theorem Tx.k__law_rows (T : Tx P w K mg base) : PySem.W.keepIn K (.ref (He.ga K "_law_rows")) = true := He.keep_ok (T.d.fact 129 (f := .keep "_law_rows") rfl)
theorem Tx.k__law_colour (T : Tx P w K mg base) : PySem.W.keepIn K (.ref (He.ga K "_law_colour")) = true := He.keep_ok (T.d.fact 130 (f := .keep "_law_colour") rfl)
theorem Tx.k__law_coarser (T : Tx P w K mg base) : PySem.W.keepIn K (.ref (He.ga K "_law_coarser")) = true := He.keep_ok (T.d.fact 131 (f := .keep "_law_coarser") rfl)
theorem Tx.k__law_parting (T : Tx P w K mg base) : PySem.W.keepIn K (.ref (He.ga K "_law_parting")) = true := He.keep_ok (T.d.fact 132 (f := .keep "_law_parting") rfl)
theorem Tx.k__law_bent (T : Tx P w K mg base) : PySem.W.keepIn K (.ref (He.ga K "_law_bent")) = true := He.keep_ok (T.d.fact 133 (f := .keep "_law_bent") rfl)
theorem Tx.k__law_refused (T : Tx P w K mg base) : PySem.W.keepIn K (.ref (He.ga K "_law_refused")) = true := He.keep_ok (T.d.fact 134 (f := .keep "_law_refused") rfl)
theorem Tx.k__law_made (T : Tx P w K mg base) : PySem.W.keepIn K (.ref (He.ga K "_law_made")) = true := He.keep_ok (T.d.fact 135 (f := .keep "_law_made") rfl)
theorem Tx.k__law_window (T : Tx P w K mg base) : PySem.W.keepIn K (.ref (He.ga K "_law_window")) = true := He.keep_ok (T.d.fact 136 (f := .keep "_law_window") rfl)
theorem Tx.k__law_pair_right (T : Tx P w K mg base) : PySem.W.keepIn K (.ref (He.ga K "_law_pair_right")) = true := He.keep_ok (T.d.fact 137 (f := .keep "_law_pair_right") rfl)
theorem Tx.k__law_breaking_right (T : Tx P w K mg base) : PySem.W.keepIn K (.ref (He.ga K "_law_breaking_right")) = true := He.keep_ok (T.d.fact 138 (f := .keep "_law_breaking_right") rfl)
theorem Tx.k_law (T : Tx P w K mg base) : PySem.W.keepIn K (.ref (He.ga K "law")) = true := He.keep_ok (T.d.fact 139 (f := .keep "law") rfl)
theorem Tx.e_is_integer (T : Tx P w K mg base) : ∃ fd, FunD K "is_integer" "is_integer" (defArgs s_is_integer) (defBody s_is_integer) (defScope s_is_integer) [] [] (He.fAd K ("is_integer", none)) fd := T.d.def_ 0 (d := d_is_integer) rfl
theorem Tx.e_is_between (T : Tx P w K mg base) : ∃ fd, FunD K "is_between" "is_between" (defArgs s_is_between) (defBody s_is_between) (defScope s_is_between) [] [] (He.fAd K ("is_between", none)) fd := T.d.def_ 1 (d := d_is_between) rfl
theorem Tx.e_is_list (T : Tx P w K mg base) : ∃ fd, FunD K "is_list" "is_list" (defArgs s_is_list) (defBody s_is_list) (defScope s_is_list) [] [] (He.fAd K ("is_list", none)) fd := T.d.def_ 2 (d := d_is_list) rfl
theorem Tx.e_check_integer (T : Tx P w K mg base) : ∃ fd, FunD K "check_integer" "check_integer" (defArgs s_check_integer) (defBody s_check_integer) (defScope s_check_integer) [] [] (He.fAd K ("check_integer", none)) fd := T.d.def_ 3 (d := d_check_integer) rfl
theorem Tx.e_check_remainder (T : Tx P w K mg base) : ∃ fd, FunD K "check_remainder" "check_remainder" (defArgs s_check_remainder) (defBody s_check_remainder) (defScope s_check_remainder) [] [] (He.fAd K ("check_remainder", none)) fd := T.d.def_ 4 (d := d_check_remainder) rfl
theorem Tx.e_greatest_divisor (T : Tx P w K mg base) : ∃ fd, FunD K "greatest_divisor" "greatest_divisor" (defArgs s_greatest_divisor) (defBody s_greatest_divisor) (defScope s_greatest_divisor) [] [] (He.fAd K ("greatest_divisor", none)) fd := T.d.def_ 5 (d := d_greatest_divisor) rfl
theorem Tx.e_least_multiple (T : Tx P w K mg base) : ∃ fd, FunD K "least_multiple" "least_multiple" (defArgs s_least_multiple) (defBody s_least_multiple) (defScope s_least_multiple) [] [] (He.fAd K ("least_multiple", none)) fd := T.d.def_ 6 (d := d_least_multiple) rfl
theorem Tx.e_inverse (T : Tx P w K mg base) : ∃ fd, FunD K "inverse" "inverse" (defArgs s_inverse) (defBody s_inverse) (defScope s_inverse) [] [] (He.fAd K ("inverse", none)) fd := T.d.def_ 7 (d := d_inverse) rfl
theorem Tx.e_remainder_of (T : Tx P w K mg base) : ∃ fd, FunD K "remainder_of" "remainder_of" (defArgs s_remainder_of) (defBody s_remainder_of) (defScope s_remainder_of) [] [] (He.fAd K ("remainder_of", none)) fd := T.d.def_ 8 (d := d_remainder_of) rfl
theorem Tx.e_is_remainder (T : Tx P w K mg base) : ∃ fd, FunD K "is_remainder" "is_remainder" (defArgs s_is_remainder) (defBody s_is_remainder) (defScope s_is_remainder) [] [] (He.fAd K ("is_remainder", none)) fd := T.d.def_ 9 (d := d_is_remainder) rfl
theorem Tx.e_both_remainders (T : Tx P w K mg base) : ∃ fd, FunD K "both_remainders" "both_remainders" (defArgs s_both_remainders) (defBody s_both_remainders) (defScope s_both_remainders) [] [] (He.fAd K ("both_remainders", none)) fd := T.d.def_ 10 (d := d_both_remainders) rfl
theorem Tx.e_is_shift (T : Tx P w K mg base) : ∃ fd, FunD K "is_shift" "is_shift" (defArgs s_is_shift) (defBody s_is_shift) (defScope s_is_shift) [] [] (He.fAd K ("is_shift", none)) fd := T.d.def_ 11 (d := d_is_shift) rfl
theorem Tx.e_check_shift (T : Tx P w K mg base) : ∃ fd, FunD K "check_shift" "check_shift" (defArgs s_check_shift) (defBody s_check_shift) (defScope s_check_shift) [] [] (He.fAd K ("check_shift", none)) fd := T.d.def_ 12 (d := d_check_shift) rfl
theorem Tx.e_check_cell (T : Tx P w K mg base) : ∃ fd, FunD K "check_cell" "check_cell" (defArgs s_check_cell) (defBody s_check_cell) (defScope s_check_cell) [] [] (He.fAd K ("check_cell", none)) fd := T.d.def_ 13 (d := d_check_cell) rfl
theorem Tx.e_check_basis (T : Tx P w K mg base) : ∃ fd, FunD K "check_basis" "check_basis" (defArgs s_check_basis) (defBody s_check_basis) (defScope s_check_basis) [] [] (He.fAd K ("check_basis", none)) fd := T.d.def_ 14 (d := d_check_basis) rfl
theorem Tx.e_Lattice___init__ (T : Tx P w K mg base) : ∃ fd, FunD K "__init__" "Lattice.__init__" (defArgs s_Lattice___init__) (defBody s_Lattice___init__) (defScope s_Lattice___init__) [] [] (He.fAd K ("Lattice", some "__init__")) fd := T.d.def_ 15 (d := d_Lattice___init__) rfl
theorem Tx.e_Lattice___contains__ (T : Tx P w K mg base) : ∃ fd, FunD K "__contains__" "Lattice.__contains__" (defArgs s_Lattice___contains__) (defBody s_Lattice___contains__) (defScope s_Lattice___contains__) [] [] (He.fAd K ("Lattice", some "__contains__")) fd := T.d.def_ 16 (d := d_Lattice___contains__) rfl
theorem Tx.e_Lattice_place (T : Tx P w K mg base) : ∃ fd, FunD K "place" "Lattice.place" (defArgs s_Lattice_place) (defBody s_Lattice_place) (defScope s_Lattice_place) [] [] (He.fAd K ("Lattice", some "place")) fd := T.d.def_ 17 (d := d_Lattice_place) rfl
theorem Tx.e_Lattice_places (T : Tx P w K mg base) : ∃ fd, FunD K "places" "Lattice.places" (defArgs s_Lattice_places) (defBody s_Lattice_places) (defScope s_Lattice_places) [] [] (He.fAd K ("Lattice", some "places")) fd := T.d.def_ 18 (d := d_Lattice_places) rfl
theorem Tx.e_check_lattice (T : Tx P w K mg base) : ∃ fd, FunD K "check_lattice" "check_lattice" (defArgs s_check_lattice) (defBody s_check_lattice) (defScope s_check_lattice) [] [] (He.fAd K ("check_lattice", none)) fd := T.d.def_ 19 (d := d_check_lattice) rfl
theorem Tx.e_common_lattice (T : Tx P w K mg base) : ∃ fd, FunD K "common_lattice" "common_lattice" (defArgs s_common_lattice) (defBody s_common_lattice) (defScope s_common_lattice) [] [] (He.fAd K ("common_lattice", none)) fd := T.d.def_ 20 (d := d_common_lattice) rfl
theorem Tx.e_is_row (T : Tx P w K mg base) : ∃ fd, FunD K "is_row" "is_row" (defArgs s_is_row) (defBody s_is_row) (defScope s_is_row) [] [] (He.fAd K ("is_row", none)) fd := T.d.def_ 21 (d := d_is_row) rfl
theorem Tx.e_check_rows (T : Tx P w K mg base) : ∃ fd, FunD K "check_rows" "check_rows" (defArgs s_check_rows) (defBody s_check_rows) (defScope s_check_rows) [] [] (He.fAd K ("check_rows", none)) fd := T.d.def_ 22 (d := d_check_rows) rfl
theorem Tx.e_check_size (T : Tx P w K mg base) : ∃ fd, FunD K "check_size" "check_size" (defArgs s_check_size) (defBody s_check_size) (defScope s_check_size) [] [] (He.fAd K ("check_size", none)) fd := T.d.def_ 23 (d := d_check_size) rfl
theorem Tx.e_sign_at (T : Tx P w K mg base) : ∃ fd, FunD K "sign_at" "sign_at" (defArgs s_sign_at) (defBody s_sign_at) (defScope s_sign_at) [] [] (He.fAd K ("sign_at", none)) fd := T.d.def_ 24 (d := d_sign_at) rfl
theorem Tx.e_is_period_of (T : Tx P w K mg base) : ∃ fd, FunD K "is_period_of" "is_period_of" (defArgs s_is_period_of) (defBody s_is_period_of) (defScope s_is_period_of) [] [] (He.fAd K ("is_period_of", none)) fd := T.d.def_ 25 (d := d_is_period_of) rfl
theorem Tx.e_divisors_of (T : Tx P w K mg base) : ∃ fd, FunD K "divisors_of" "divisors_of" (defArgs s_divisors_of) (defBody s_divisors_of) (defScope s_divisors_of) [] [] (He.fAd K ("divisors_of", none)) fd := T.d.def_ 26 (d := d_divisors_of) rfl
theorem Tx.e_level_period (T : Tx P w K mg base) : ∃ fd, FunD K "level_period" "level_period" (defArgs s_level_period) (defBody s_level_period) (defScope s_level_period) [] [] (He.fAd K ("level_period", none)) fd := T.d.def_ 27 (d := d_level_period) rfl
theorem Tx.e_least_lattice (T : Tx P w K mg base) : ∃ fd, FunD K "least_lattice" "least_lattice" (defArgs s_least_lattice) (defBody s_least_lattice) (defScope s_least_lattice) [] [] (He.fAd K ("least_lattice", none)) fd := T.d.def_ 28 (d := d_least_lattice) rfl
theorem Tx.e_normal_rows (T : Tx P w K mg base) : ∃ fd, FunD K "normal_rows" "normal_rows" (defArgs s_normal_rows) (defBody s_normal_rows) (defScope s_normal_rows) [] [] (He.fAd K ("normal_rows", none)) fd := T.d.def_ 29 (d := d_normal_rows) rfl
theorem Tx.e_rows_by (T : Tx P w K mg base) : ∃ fd, FunD K "rows_by" "rows_by" (defArgs s_rows_by) (defBody s_rows_by) (defScope s_rows_by) [] [] (He.fAd K ("rows_by", none)) fd := T.d.def_ 30 (d := d_rows_by) rfl
theorem Tx.e_Carpet___init__ (T : Tx P w K mg base) : ∃ fd, FunD K "__init__" "Carpet.__init__" (defArgs s_Carpet___init__) (defBody s_Carpet___init__) (defScope s_Carpet___init__) [] [] (He.fAd K ("Carpet", some "__init__")) fd := T.d.def_ 31 (d := d_Carpet___init__) rfl
theorem Tx.e_Carpet___eq__ (T : Tx P w K mg base) : ∃ fd, FunD K "__eq__" "Carpet.__eq__" (defArgs s_Carpet___eq__) (defBody s_Carpet___eq__) (defScope s_Carpet___eq__) [] [] (He.fAd K ("Carpet", some "__eq__")) fd := T.d.def_ 32 (d := d_Carpet___eq__) rfl
theorem Tx.e_Carpet_sign (T : Tx P w K mg base) : ∃ fd, FunD K "sign" "Carpet.sign" (defArgs s_Carpet_sign) (defBody s_Carpet_sign) (defScope s_Carpet_sign) [] [] (He.fAd K ("Carpet", some "sign")) fd := T.d.def_ 33 (d := d_Carpet_sign) rfl
theorem Tx.e_Carpet_lattice (T : Tx P w K mg base) : ∃ fd, FunD K "lattice" "Carpet.lattice" (defArgs s_Carpet_lattice) (defBody s_Carpet_lattice) (defScope s_Carpet_lattice) [] [] (He.fAd K ("Carpet", some "lattice")) fd := T.d.def_ 34 (d := d_Carpet_lattice) rfl
theorem Tx.e_Carpet_least (T : Tx P w K mg base) : ∃ fd, FunD K "least" "Carpet.least" (defArgs s_Carpet_least) (defBody s_Carpet_least) (defScope s_Carpet_least) [] [] (He.fAd K ("Carpet", some "least")) fd := T.d.def_ 35 (d := d_Carpet_least) rfl
theorem Tx.e_Carpet_moved_by (T : Tx P w K mg base) : ∃ fd, FunD K "moved_by" "Carpet.moved_by" (defArgs s_Carpet_moved_by) (defBody s_Carpet_moved_by) (defScope s_Carpet_moved_by) [] [] (He.fAd K ("Carpet", some "moved_by")) fd := T.d.def_ 36 (d := d_Carpet_moved_by) rfl
theorem Tx.e_Carpet_is_period (T : Tx P w K mg base) : ∃ fd, FunD K "is_period" "Carpet.is_period" (defArgs s_Carpet_is_period) (defBody s_Carpet_is_period) (defScope s_Carpet_is_period) [] [] (He.fAd K ("Carpet", some "is_period")) fd := T.d.def_ 37 (d := d_Carpet_is_period) rfl
theorem Tx.e_check_carpet (T : Tx P w K mg base) : ∃ fd, FunD K "check_carpet" "check_carpet" (defArgs s_check_carpet) (defBody s_check_carpet) (defScope s_check_carpet) [] [] (He.fAd K ("check_carpet", none)) fd := T.d.def_ 38 (d := d_check_carpet) rfl
theorem Tx.e_signs_of_row (T : Tx P w K mg base) : ∃ fd, FunD K "signs_of_row" "signs_of_row" (defArgs s_signs_of_row) (defBody s_signs_of_row) (defScope s_signs_of_row) [] [] (He.fAd K ("signs_of_row", none)) fd := T.d.def_ 39 (d := d_signs_of_row) rfl
theorem Tx.e_parting_of (T : Tx P w K mg base) : ∃ fd, FunD K "parting_of" "parting_of" (defArgs s_parting_of) (defBody s_parting_of) (defScope s_parting_of) [] [] (He.fAd K ("parting_of", none)) fd := T.d.def_ 40 (d := d_parting_of) rfl
theorem Tx.e_parting_cell (T : Tx P w K mg base) : ∃ fd, FunD K "parting_cell" "parting_cell" (defArgs s_parting_cell) (defBody s_parting_cell) (defScope s_parting_cell) [] [] (He.fAd K ("parting_cell", none)) fd := T.d.def_ 41 (d := d_parting_cell) rfl
theorem Tx.e_breaking_of (T : Tx P w K mg base) : ∃ fd, FunD K "breaking_of" "breaking_of" (defArgs s_breaking_of) (defBody s_breaking_of) (defScope s_breaking_of) [] [] (He.fAd K ("breaking_of", none)) fd := T.d.def_ 42 (d := d_breaking_of) rfl
theorem Tx.e_breaking_cell (T : Tx P w K mg base) : ∃ fd, FunD K "breaking_cell" "breaking_cell" (defArgs s_breaking_cell) (defBody s_breaking_cell) (defScope s_breaking_cell) [] [] (He.fAd K ("breaking_cell", none)) fd := T.d.def_ 43 (d := d_breaking_cell) rfl
theorem Tx.e__law_opened (T : Tx P w K mg base) : ∃ fd, FunD K "_law_opened" "_law_opened" (defArgs s__law_opened) (defBody s__law_opened) (defScope s__law_opened) [] [] (He.fAd K ("_law_opened", none)) fd := T.d.def_ 44 (d := d__law_opened) rfl
theorem Tx.e__law_draw (T : Tx P w K mg base) : ∃ fd, FunD K "_law_draw" "_law_draw" (defArgs s__law_draw) (defBody s__law_draw) (defScope s__law_draw) [] [] (He.fAd K ("_law_draw", none)) fd := T.d.def_ 45 (d := d__law_draw) rfl
theorem Tx.e__law_pick (T : Tx P w K mg base) : ∃ fd, FunD K "_law_pick" "_law_pick" (defArgs s__law_pick) (defBody s__law_pick) (defScope s__law_pick) [] [] (He.fAd K ("_law_pick", none)) fd := T.d.def_ 46 (d := d__law_pick) rfl
theorem Tx.e__law_three (T : Tx P w K mg base) : ∃ fd, FunD K "_law_three" "_law_three" (defArgs s__law_three) (defBody s__law_three) (defScope s__law_three) [] [] (He.fAd K ("_law_three", none)) fd := T.d.def_ 47 (d := d__law_three) rfl
theorem Tx.e__law_place (T : Tx P w K mg base) : ∃ fd, FunD K "_law_place" "_law_place" (defArgs s__law_place) (defBody s__law_place) (defScope s__law_place) [] [] (He.fAd K ("_law_place", none)) fd := T.d.def_ 48 (d := d__law_place) rfl
theorem Tx.e__law_rows (T : Tx P w K mg base) : ∃ fd, FunD K "_law_rows" "_law_rows" (defArgs s__law_rows) (defBody s__law_rows) (defScope s__law_rows) [] [] (He.fAd K ("_law_rows", none)) fd := T.d.def_ 49 (d := d__law_rows) rfl
theorem Tx.e__law_colour (T : Tx P w K mg base) : ∃ fd, FunD K "_law_colour" "_law_colour" (defArgs s__law_colour) (defBody s__law_colour) (defScope s__law_colour) [] [] (He.fAd K ("_law_colour", none)) fd := T.d.def_ 50 (d := d__law_colour) rfl
theorem Tx.e__law_coarser (T : Tx P w K mg base) : ∃ fd, FunD K "_law_coarser" "_law_coarser" (defArgs s__law_coarser) (defBody s__law_coarser) (defScope s__law_coarser) [] [] (He.fAd K ("_law_coarser", none)) fd := T.d.def_ 51 (d := d__law_coarser) rfl
theorem Tx.e__law_parting (T : Tx P w K mg base) : ∃ fd, FunD K "_law_parting" "_law_parting" (defArgs s__law_parting) (defBody s__law_parting) (defScope s__law_parting) [] [] (He.fAd K ("_law_parting", none)) fd := T.d.def_ 52 (d := d__law_parting) rfl
theorem Tx.e__law_bent (T : Tx P w K mg base) : ∃ fd, FunD K "_law_bent" "_law_bent" (defArgs s__law_bent) (defBody s__law_bent) (defScope s__law_bent) [] [] (He.fAd K ("_law_bent", none)) fd := T.d.def_ 53 (d := d__law_bent) rfl
theorem Tx.e__law_refused (T : Tx P w K mg base) : ∃ fd, FunD K "_law_refused" "_law_refused" (defArgs s__law_refused) (defBody s__law_refused) (defScope s__law_refused) [] [] (He.fAd K ("_law_refused", none)) fd := T.d.def_ 54 (d := d__law_refused) rfl
theorem Tx.e__law_made (T : Tx P w K mg base) : ∃ fd, FunD K "_law_made" "_law_made" (defArgs s__law_made) (defBody s__law_made) (defScope s__law_made) [] [] (He.fAd K ("_law_made", none)) fd := T.d.def_ 55 (d := d__law_made) rfl
theorem Tx.e__law_window (T : Tx P w K mg base) : ∃ fd, FunD K "_law_window" "_law_window" (defArgs s__law_window) (defBody s__law_window) (defScope s__law_window) [] [] (He.fAd K ("_law_window", none)) fd := T.d.def_ 56 (d := d__law_window) rfl
theorem Tx.e__law_pair_right (T : Tx P w K mg base) : ∃ fd, FunD K "_law_pair_right" "_law_pair_right" (defArgs s__law_pair_right) (defBody s__law_pair_right) (defScope s__law_pair_right) [] [] (He.fAd K ("_law_pair_right", none)) fd := T.d.def_ 57 (d := d__law_pair_right) rfl
theorem Tx.e__law_breaking_right (T : Tx P w K mg base) : ∃ fd, FunD K "_law_breaking_right" "_law_breaking_right" (defArgs s__law_breaking_right) (defBody s__law_breaking_right) (defScope s__law_breaking_right) [] [] (He.fAd K ("_law_breaking_right", none)) fd := T.d.def_ 58 (d := d__law_breaking_right) rfl
theorem Tx.e_law (T : Tx P w K mg base) : ∃ fd, FunD K "law" "law" (defArgs s_law) (defBody s_law) (defScope s_law) [] [] (He.fAd K ("law", none)) fd := T.d.def_ 59 (d := d_law) rfl
end
end K12
namespace K12
open PySem PySem.Spec PyProof.Rows L2
/-! ### what is known of a def, a method, a maker -/
def OkG (CX : CXT) (P : Program) (w : World) (K : PySem.W.Frag) (mg : Str → Option Value) (base : Heap) (k : Nat) (x : Str) (ps : List Str) (sp : Sp) : Prop :=
  ∃ f fd, mg x = some (.ref f) ∧ PySem.W.keepIn K (.ref f) = true ∧ Binds K fd ps [] ∧ FnOk P w K mg base CX k f fd ps sp
def OkM (CX : CXT) (P : Program) (w : World) (K : PySem.W.Frag) (mg : Str → Option Value) (base : Heap) (k : Nat) (C : Addr) (m : Str) (ps : List Str) (sp : Sp) : Prop :=
  ∃ f fd, Meth K C m f ∧ Binds K fd ps [] ∧ FnOk P w K mg base CX k f fd ps sp
def OkI (CX : CXT) (P : Program) (w : World) (K : PySem.W.Frag) (mg : Str → Option Value) (base : Heap) (k : Nat) (C : Addr) (ps : List Str) (sp : Sp) : Prop :=
  ∃ f fd, Mk K C f ∧ Binds K fd ps [] ∧ FnOk P w K mg base CX k f fd ps sp
section
variable {X : Cx} {k : Nat} {ps : List Str} {sp : Sp} {x m : Str} {C : Addr} {p pos apos : Pos} {e o : Expr} {es : List Expr} {ta : TE} {t : TA}
theorem pe_g (O : OkG CX0 X.prog X.w X.K X.mg X.base k x ps sp) (hr : Room k X.A) (ha : PA X (e :: es) t) (hg : Gl X x := by rfl) (hdb : (x == ("__debug__" : Str)) = false := by decide)
    (he : starEach (e :: es) X.env = (false, eval e X.env) :: starEach es X.env := by rfl) (hpl : (backTo pos (starEach es X.env)).any (·.1) = false := by rfl) :
    PE X (.Call (.Name x p) (e :: es) [] pos) (tCall sp [] E0 t) := by
  obtain ⟨f, fd, h1, h2, h3, h4⟩ := O
  exact pe_call h4 hr hg h1 h2 h3 .nil pass0 ha hdb he hpl
theorem pe_m {pl : Sem Bool} (O : OkM CX0 X.prog X.w X.K X.mg X.base k C m ps sp) (c : Cls X.K C) (hr : Room k X.A) (he : PE X o ta) (ha : PA X (e :: es) t)
    (hst : starEach (e :: es) X.env = (false, eval e X.env) :: starEach es X.env := by rfl) (hpl : (backTo pos (starEach es X.env)).any (·.1) = false := by rfl)
    (ht : eval (.Call (.Attribute o m apos) (e :: es) [] pos) X.env = (do
      let ov ← eval o X.env
      standAt apos.atName
      let (f, first) ← holding [ov] (getMethod ov m pl)
      callWith pos f first (backTo pos (starEach (e :: es) X.env)) (backToKw pos (keywordEach [] X.env))) := by rfl) :
    PE X (.Call (.Attribute o m apos) (e :: es) [] pos) (tMeth C m sp [] E0 ta t) := by
  obtain ⟨f, fd, h1, h3, h4⟩ := O
  exact pe_meth he c h1 h4 hr h3 .nil pass0 ha hst hpl ht
theorem pe_k (O : OkI CX0 X.prog X.w X.K X.mg X.base k C ps sp) (hm : X.mg x = some (.ref C)) (hr : Room (k + 1) X.A) (ha : PA X (e :: es) t) (hg : Gl X x := by rfl) (hdb : (x == ("__debug__" : Str)) = false := by decide)
    (he : starEach (e :: es) X.env = (false, eval e X.env) :: starEach es X.env := by rfl) (hpl : (backTo pos (starEach es X.env)).any (·.1) = false := by rfl) :
    PE X (.Call (.Name x p) (e :: es) [] pos) (tMake C sp [] E0 t) := by
  obtain ⟨f, fd, h1, h3, h4⟩ := O
  exact pe_make h1 h4 hr hg hm h3 .nil pass0 ha hdb he hpl
end
section
variable {P : Program} {w : World} {K : PySem.W.Frag} {mg : Str → Option Value} {base : Heap}
theorem mkF {x qual : Str} {st : Stmt} {f : Addr} {fd : FuncData} {N ps : List Str} {k : Nat} {sp : Sp} (F : FunD K x qual (defArgs st) (defBody st) (defScope st) [] [] f fd) (S : FnScope N ps (defScope st)) (len : ∀ vs H Q E, sp vs H Q E → vs.length = ps.length)
    (hbody : ∀ (cdv : Value) (A : Around) (outer : List Env) (s : Shared) (H : Hp) (vs : List V) (Q : VK) (E : XK), Room k (A.deeper (envOfC qual (defScope st) s.heap.objs.size f cdv)) → sp vs H Q E →
      ∃ t, PSs (cxOf CX0 P w K mg base N qual (defScope st) f cdv A outer s H E).nox (defBody st) t ∧ t { nx := fun _ H' => Q .non H', rt := Q } (start N vs) H) : FnOk P w K mg base CX0 (k + 1) f fd ps sp :=
  F.ok S len fun cdv A outer s H vs Q E hr h => by
    obtain ⟨t, a, b⟩ := hbody cdv A outer s H vs Q E hr h
    exact ⟨t, a.nox, b⟩
theorem mkG {x qual : Str} {st : Stmt} {N ps : List Str} {k : Nat} {sp : Sp} (F : ∃ fd, FunD K x qual (defArgs st) (defBody st) (defScope st) [] [] (He.ga K x) fd) (g : mg x = some (.ref (He.ga K x)))
    (b : ∀ (kV doc pm : Value) (an : Option Addr) (cdv ct : Value) (us : List Value), us.length = ps.length → bindArgs (PySem.W.fnOf x qual (defArgs st) (defBody st) (defScope st) .none kV doc pm an cdv ct) ⟨us, []⟩ = pure (ps.zip us))
    (S : FnScope N ps (defScope st)) (len : ∀ vs H Q E, sp vs H Q E → vs.length = ps.length)
    (hbody : ∀ (f : Addr) (cdv : Value) (A : Around) (outer : List Env) (s : Shared) (H : Hp) (vs : List V) (Q : VK) (E : XK), Room k (A.deeper (envOfC qual (defScope st) s.heap.objs.size f cdv)) → sp vs H Q E →
      ∃ t, PSs (cxOf CX0 P w K mg base N qual (defScope st) f cdv A outer s H E).nox (defBody st) t ∧ t { nx := fun _ H' => Q .non H', rt := Q } (start N vs) H) : OkG CX0 P w K mg base (k + 1) x ps sp := by
  obtain ⟨fd, F⟩ := F
  exact ⟨_, fd, g, F.kp, F.bindsN b, mkF F S len (hbody _)⟩
theorem mkM {x qual : Str} {st : Stmt} {C : Addr} {N ps : List Str} {k : Nat} {sp : Sp} (F : ∃ fd, FunD K x qual (defArgs st) (defBody st) (defScope st) [] [] (He.ma K C x) fd) (g : Meth K C x (He.ma K C x))
    (b : ∀ (kV doc pm : Value) (an : Option Addr) (cdv ct : Value) (us : List Value), us.length = ps.length → bindArgs (PySem.W.fnOf x qual (defArgs st) (defBody st) (defScope st) .none kV doc pm an cdv ct) ⟨us, []⟩ = pure (ps.zip us))
    (S : FnScope N ps (defScope st)) (len : ∀ vs H Q E, sp vs H Q E → vs.length = ps.length)
    (hbody : ∀ (f : Addr) (cdv : Value) (A : Around) (outer : List Env) (s : Shared) (H : Hp) (vs : List V) (Q : VK) (E : XK), Room k (A.deeper (envOfC qual (defScope st) s.heap.objs.size f cdv)) → sp vs H Q E →
      ∃ t, PSs (cxOf CX0 P w K mg base N qual (defScope st) f cdv A outer s H E).nox (defBody st) t ∧ t { nx := fun _ H' => Q .non H', rt := Q } (start N vs) H) : OkM CX0 P w K mg base (k + 1) C x ps sp := by
  obtain ⟨fd, F⟩ := F
  exact ⟨_, fd, g, F.bindsN b, mkF F S len (hbody _)⟩
theorem mkI {qual : Str} {st : Stmt} {C : Addr} {N ps : List Str} {k : Nat} {sp : Sp} (F : ∃ fd, FunD K "__init__" qual (defArgs st) (defBody st) (defScope st) [] [] (He.ma K C "__init__") fd) (g : Mk K C (He.ma K C "__init__"))
    (b : ∀ (kV doc pm : Value) (an : Option Addr) (cdv ct : Value) (us : List Value), us.length = ps.length → bindArgs (PySem.W.fnOf "__init__" qual (defArgs st) (defBody st) (defScope st) .none kV doc pm an cdv ct) ⟨us, []⟩ = pure (ps.zip us))
    (S : FnScope N ps (defScope st)) (len : ∀ vs H Q E, sp vs H Q E → vs.length = ps.length)
    (hbody : ∀ (f : Addr) (cdv : Value) (A : Around) (outer : List Env) (s : Shared) (H : Hp) (vs : List V) (Q : VK) (E : XK), Room k (A.deeper (envOfC qual (defScope st) s.heap.objs.size f cdv)) → sp vs H Q E →
      ∃ t, PSs (cxOf CX0 P w K mg base N qual (defScope st) f cdv A outer s H E).nox (defBody st) t ∧ t { nx := fun _ H' => Q .non H', rt := Q } (start N vs) H) : OkI CX0 P w K mg base (k + 1) C ps sp := by
  obtain ⟨fd, F⟩ := F
  exact ⟨_, fd, g, F.bindsN b, mkF F S len (hbody _)⟩
end
/-! ### first defs -/
section
variable {P : Program} {w : World} {K : PySem.W.Frag} {mg : Str → Option Value} {base : Heap}
theorem sc_is_integer : FnScope ["value"] ["value"] (defScope s_is_integer) := ⟨rfl, rfl, rfl, by decide +kernel, rfl, by decide +kernel, by decide +kernel⟩
def sp_is_integer : Sp := fun vs H Q _ => ∃ v, vs = [v] ∧ ((∃ i, v = .int i) ∧ Q (.bl true) H ∨ (∃ b, v = .bl b) ∧ Q (.bl false) H)
theorem ok_is_integer (T : Tx P w K mg base) : OkG CX0 P w K mg base 1 "is_integer" ["value"] sp_is_integer := by
  refine mkG (st := s_is_integer) T.e_is_integer T.g_is_integer (fun _ _ _ _ _ _ us hl => match us, hl with | [_], _ => rfl) sc_is_integer (fun vs H Q E h => ?_) (fun f cdv A outer s H vs Q E hr h => ?_)
  · obtain ⟨v, rfl, _⟩ := h
    rfl
  · obtain ⟨v, rfl, h⟩ := h
    refine ⟨_, pss_one (ps_ret (pe_and (pe_callB call_isi (by rfl) T.f_isinstance (by decide +kernel) (pa_cons (pv 0) (pa_cons (pe_bltn (v := .ty "int") (by rfl) T.f_int (by decide +kernel) rfl) pa_nil)))
      (pe_one (pe_not (pe_callB call_isi (by rfl) T.f_isinstance (by decide +kernel) (pa_cons (pv 0) (pa_cons (pe_bltn (v := .ty "bool") (by rfl) T.f_bool (by decide +kernel) rfl) pa_nil))))))), ?_⟩
    rcases h with ⟨⟨i, rfl⟩, h⟩ | ⟨⟨b, rfl⟩, h⟩
    · exact ⟨_, rfl, _, _, _, _, true, rfl, .ty "int", .base (.int i), kit_ty (by decide +kernel), true, rfl, iteT ⟨_, rfl, _, _, _, _, false, rfl, .ty "bool", .base (.int i), kit_ty (by decide +kernel), false, rfl, h⟩⟩
    · exact ⟨_, rfl, _, _, _, _, true, rfl, .ty "int", .base (.bl b), kit_ty (by decide +kernel), true, rfl, iteT ⟨_, rfl, _, _, _, _, true, rfl, .ty "bool", .base (.bl b), kit_ty (by decide +kernel), true, rfl, h⟩⟩
end
end K12
namespace K12
open PySem PySem.Spec PyProof.Rows L2
/-! ### short forms -/
section
variable {X : Cx} {e a b : Expr} {te ta tb : TE} {p pos p2 : Pos}
abbrev rInt1 : List V → Hp → VK → Prop := fun xs H Q => (∃ i, xs = [.int i] ∧ Q (.int i) H) ∨ ∃ k, xs = [.bl k] ∧ Q (.int (if k then 1 else 0)) H
abbrev tInt1 (te : TE) : TE := tCB rInt1 (tCons te tNil)
theorem xInt (m : X.mg "int" = none) (he : PE X e te) (hg : Gl X "int" := by rfl) (hs : starEach (e :: []) X.env = (false, eval e X.env) :: starEach [] X.env := by rfl) (hpl : (backTo pos (starEach [] X.env)).any (·.1) = false := by rfl) :
    PE X (.Call (.Name "int" p) [e] [] pos) (tInt1 te) := pe_callTy call_int1 hg m (by decide +kernel) (pa_cons he pa_nil hs) (by decide) (by decide) hs hpl
abbrev rAbs1 : List V → Hp → VK → Prop := fun xs H Q => ∃ i, xs = [.int i] ∧ Q (.int (if i < 0 then -i else i)) H
theorem xAbs (m : X.mg "abs" = none) (he : PE X e te) (hg : Gl X "abs" := by rfl) (hs : starEach (e :: []) X.env = (false, eval e X.env) :: starEach [] X.env := by rfl) (hpl : (backTo pos (starEach [] X.env)).any (·.1) = false := by rfl) :
    PE X (.Call (.Name "abs" p) [e] [] pos) (tCB rAbs1 (tCons te tNil)) := pe_callB call_abs hg m (by decide +kernel) (pa_cons he pa_nil hs) (by decide) (by decide) hs hpl
theorem xLen (m : X.mg "len" = none) (he : PE X e te) (hg : Gl X "len" := by rfl) (hs : starEach (e :: []) X.env = (false, eval e X.env) :: starEach [] X.env := by rfl) (hpl : (backTo pos (starEach [] X.env)).any (·.1) = false := by rfl) :
    PE X (.Call (.Name "len" p) [e] [] pos) (tCB (rLen X.K) (tCons te tNil)) := pe_callB call_len hg m PySem.boot_len (pa_cons he pa_nil hs) (by decide) (by decide) hs hpl
end
section
variable {P : Program} {w : World} {K : PySem.W.Frag} {mg : Str → Option Value} {base : Heap}
theorem same_upd {H : Hp} {p : Addr} {o : HO} (h : H p = none) : Same H (upd H p o) := fun b x e => by
  rw [upd_ne (ne_of_none e h)]
  exact e
/-! is_between -/
theorem sc_is_between : FnScope ["value", "least", "most"] ["value", "least", "most"] (defScope s_is_between) := ⟨rfl, rfl, rfl, by decide +kernel, rfl, by decide +kernel, by decide +kernel⟩
def sp_is_between : Sp := fun vs H Q _ => ∃ v l m : Int, vs = [.int v, .int l, .int m] ∧ l ≤ v ∧ v ≤ m ∧ Q (.bl true) H
theorem ok_is_between (T : Tx P w K mg base) : OkG CX0 P w K mg base 2 "is_between" ["value", "least", "most"] sp_is_between := by
  refine mkG (st := s_is_between) T.e_is_between T.g_is_between (fun _ _ _ _ _ _ us hl => match us, hl with | [_, _, _], _ => rfl) sc_is_between (fun vs H Q E h => ?_) (fun f cdv A outer s H vs Q E hr h => ?_)
  · obtain ⟨v, l, m, rfl, _⟩ := h
    rfl
  · obtain ⟨v, l, m, rfl, h1, h2, q⟩ := h
    refine ⟨_, pss_one (ps_ret (pe_and (pe_g (ok_is_integer T) hr (pa_cons (pv 0) pa_nil)) (pe_one (pe_chain op_le op_le (pv 1) (pv 0) (pv 2))))), ?_⟩
    refine ⟨_, rfl, _, rfl, .inl ⟨⟨v, rfl⟩, true, rfl, iteT ?_⟩⟩
    refine ⟨_, rfl, _, rfl, _, _, rfl, rfl, _, rfl, ?_⟩
    rw [decide_eq_true h1]
    refine iteT ⟨_, rfl, _, _, rfl, rfl, ?_⟩
    show Q (.bl (decide (v ≤ m))) H
    rw [decide_eq_true h2]
    exact q
/-! is_list -/
theorem sc_is_list : FnScope ["value"] ["value"] (defScope s_is_list) := ⟨rfl, rfl, rfl, by decide +kernel, rfl, by decide +kernel, by decide +kernel⟩
def sp_is_list : Sp := fun vs H Q _ => ∃ a : Addr, vs = [.ref a] ∧ ((∃ xs, H a = some (.lst xs)) ∨ ∃ xs, H a = some (.tup xs)) ∧ ∀ H', Same H H' → Q (.bl true) H'
theorem ok_is_list (T : Tx P w K mg base) : OkG CX0 P w K mg base 1 "is_list" ["value"] sp_is_list := by
  refine mkG (st := s_is_list) T.e_is_list T.g_is_list (fun _ _ _ _ _ _ us hl => match us, hl with | [_], _ => rfl) sc_is_list (fun vs H Q E h => ?_) (fun f cdv A outer s H vs Q E hr h => ?_)
  · obtain ⟨a, rfl, _⟩ := h
    rfl
  · obtain ⟨a, rfl, h, q⟩ := h
    refine ⟨_, pss_one (ps_ret (pe_callB call_isiT (by rfl) T.f_isinstance (by decide +kernel) (pa_cons (pv 0) (pa_cons (pe_tup (pa_cons (pe_bltn (v := .ty "list") (by rfl) T.f_list (by decide +kernel) rfl) (pa_cons (pe_bltn (v := .ty "tuple") (by rfl) T.f_tuple (by decide +kernel) rfl) pa_nil))) pa_nil)))), ?_⟩
    refine ⟨_, rfl, by show 2 ≤ sizeLine; decide, fun p hp => ?_⟩
    have sm := same_upd (o := .tup [.ty "list", .ty "tuple"]) hp
    rcases h with ⟨xs, h⟩ | ⟨xs, h⟩
    · exact ⟨_, p, _, _, [.type "list", .type "tuple"], true, rfl, upd_same, .cons (.ty _) (.cons (.ty _) .nil), .base (.lst (sm _ _ h)), kitAny_cons (b := true) (kit_ty (by decide +kernel)) (fun z => by cases z) (fun _ => rfl), q _ sm⟩
    · exact ⟨_, p, _, _, [.type "list", .type "tuple"], true, rfl, upd_same, .cons (.ty _) (.cons (.ty _) .nil), .base (.tup (sm _ _ h)), kitAny_cons (b := false) (kit_ty (by decide +kernel)) (fun _ => kitAny_cons (b := true) (kit_ty (by decide +kernel)) (fun z => by cases z) (fun _ => rfl)) (fun z => by cases z), q _ sm⟩
/-! check_integer -/
theorem sc_check_integer : FnScope ["number"] ["number"] (defScope s_check_integer) := ⟨rfl, rfl, rfl, by decide +kernel, rfl, by decide +kernel, by decide +kernel⟩
def sp_check_integer : Sp := fun vs H Q _ => ∃ i : Int, vs = [.int i] ∧ Q .non H
theorem ok_check_integer (T : Tx P w K mg base) : OkG CX0 P w K mg base 2 "check_integer" ["number"] sp_check_integer := by
  refine mkG (st := s_check_integer) T.e_check_integer T.g_check_integer (fun _ _ _ _ _ _ us hl => match us, hl with | [_], _ => rfl) sc_check_integer (fun vs H Q E h => ?_) (fun f cdv A outer s H vs Q E hr h => ?_)
  · obtain ⟨v, rfl, _⟩ := h
    rfl
  · obtain ⟨v, rfl, q⟩ := h
    refine ⟨_, pss_one (ps_if (pt_not (pt_val (pe_g (ok_is_integer T) hr (pa_cons (pv 0) pa_nil)))) (pss_one ps_never) pss_nil), ?_⟩
    exact ⟨_, rfl, _, rfl, .inl ⟨⟨v, rfl⟩, true, rfl, iteF q⟩⟩
/-! check_remainder -/
theorem sc_check_remainder : FnScope ["r", "p"] ["r", "p"] (defScope s_check_remainder) := ⟨rfl, rfl, rfl, by decide +kernel, rfl, by decide +kernel, by decide +kernel⟩
def sp_check_remainder : Sp := fun vs H Q _ => ∃ r p : Int, vs = [.int r, .int p] ∧ 1 ≤ p ∧ Q .non H
theorem ok_check_remainder (T : Tx P w K mg base) : OkG CX0 P w K mg base 3 "check_remainder" ["r", "p"] sp_check_remainder := by
  refine mkG (st := s_check_remainder) T.e_check_remainder T.g_check_remainder (fun _ _ _ _ _ _ us hl => match us, hl with | [_, _], _ => rfl) sc_check_remainder (fun vs H Q E h => ?_) (fun f cdv A outer s H vs Q E hr h => ?_)
  · obtain ⟨r, p, rfl, _⟩ := h
    rfl
  · obtain ⟨r, p, rfl, hp, q⟩ := h
    refine ⟨_, pss_cons (ps_expr (pe_g (ok_check_integer T) hr (pa_cons (pv 0) pa_nil)))
      (pss_one (ps_if (PW.pt (pw_or (pt_not (pt_val (pe_g (ok_is_integer T) (hr.mono (by decide)) (pa_cons (pv 1) pa_nil)))) (pw_or1 (pt_cmpR op_lt (pv 1) pe_int (nomark _))))) (pss_one ps_never) pss_nil)), ?_⟩
    refine ⟨_, rfl, r, rfl, ?_⟩
    refine ⟨_, rfl, _, rfl, .inl ⟨⟨p, rfl⟩, true, rfl, iteF ?_⟩⟩
    refine ⟨_, rfl, _, _, rfl, rfl, _, rfl, ?_⟩
    rw [decide_eq_false (by omega)]
    exact iteF q
/-! greatest_divisor -/
theorem sc_greatest_divisor : FnScope ["one", "other", "left", "rest"] ["one", "other"] (defScope s_greatest_divisor) := ⟨rfl, rfl, rfl, by decide +kernel, rfl, by decide +kernel, by decide +kernel⟩
def sp_greatest_divisor : Sp := fun vs H Q _ => ∃ i j : Int, vs = [.int i, .int j] ∧ Q (.int (Int.gcd i j : Nat)) H
theorem cast_mod (a b : Nat) : ((a % b : Nat) : Int) = (a : Int) % (b : Int) := rfl
theorem abs_nat (i : Int) : (if i < 0 then -i else i) = (i.natAbs : Int) := by split <;> omega
theorem ok_greatest_divisor (T : Tx P w K mg base) : OkG CX0 P w K mg base 3 "greatest_divisor" ["one", "other"] sp_greatest_divisor := by
  refine mkG (st := s_greatest_divisor) T.e_greatest_divisor T.g_greatest_divisor (fun _ _ _ _ _ _ us hl => match us, hl with | [_, _], _ => rfl) sc_greatest_divisor (fun vs H Q E h => ?_) (fun f cdv A outer s H vs Q E hr h => ?_)
  · obtain ⟨r, p, rfl, _⟩ := h
    rfl
  · obtain ⟨i, j, rfl, q⟩ := h
    refine ⟨_, pss_cons (ps_expr (pe_g (ok_check_integer T) hr (pa_cons (pv 0) pa_nil)))
      (pss_cons (ps_expr (pe_g (ok_check_integer T) hr (pa_cons (pv 1) pa_nil)))
      (pss_cons (ps_par (i := 2) (j := 3) (by rfl) sc_greatest_divisor.nd rfl rfl (by decide) rfl rfl (pa_cons (xAbs T.f_abs (pv 0)) (pa_cons (xAbs T.f_abs (pv 1)) pa_nil)) (by rfl))
      (pss_cons (ps_while PassesOwn.never (pt_cmpR op_ne (pv 3) pe_int (nomark _))
        (pss_one (ps_par (i := 2) (j := 3) (by rfl) sc_greatest_divisor.nd rfl rfl (by decide) rfl rfl (pa_cons (pv 3) (pa_cons (pe_op op_mod (xInt T.f_int (pv 2)) (pv 3)) pa_nil)) (by rfl))))
      (pss_one (ps_ret (pv 2)))))), ?_⟩
    refine ⟨_, rfl, i, rfl, _, rfl, j, rfl, _, rfl, i, rfl, _, rfl, j, rfl, _, _, rfl, ?_⟩
    rw [abs_nat, abs_nat]
    refine while_by (fun σ H' => ∃ a b : Nat, σ = [some (.int i), some (.int j), some (.int a), some (.int b)] ∧ Nat.gcd a b = Int.gcd i j ∧ H' = H)
      (fun σ H' => match σ with | [_, _, _, some (.int r)] => r.toNat | _ => 0) ⟨_, _, rfl, rfl, rfl⟩ ?_ ?_
    · rintro σ H' ⟨a, b, rfl, hg, rfl⟩
      refine ⟨_, rfl, rfl, _, rfl, ?_⟩
      by_cases hb : b = 0
      · subst hb
        refine iteNS rfl ?_
        rw [Nat.gcd_zero_right] at hg
        refine ⟨_, rfl, ?_⟩
        rw [hg]
        exact q
      · have e : decide (V.int (b : Int) = V.int 0) = false := decide_eq_false fun z => hb (by have := V.int.inj z; omega)
        rw [e]
        refine iteT ⟨_, rfl, _, rfl, .inl ⟨_, rfl, _, rfl, _, _, rfl, rfl, by show (0 : Int) < b; omega, _, _, rfl, ?_⟩⟩
        refine ⟨⟨b, a % b, ?_, ?_, rfl⟩, ?_⟩
        · rw [cast_mod]
          rfl
        · rw [← hg, Nat.gcd_comm a b, Nat.gcd_rec b a, Nat.gcd_comm]
        · show ((a : Int) % (b : Int)).toNat < (b : Int).toNat
          rw [← cast_mod]
          have := Nat.mod_lt a (show 0 < b by omega)
          omega
    · rintro σ H' Q1 Q2 hq ⟨v, hv, h1, k, e, h2⟩
      exact ⟨v, hv, h1, k, e, hq _ _ h2⟩
end
end K12
namespace K12
theorem dvd_mod_sub {m n : Int} : m ∣ n % m - n := by
  have := Int.emod_add_mul_ediv n m
  exact ⟨-(n / m), by rw [Int.mul_neg]; omega⟩
theorem inv_step {m n u v l r t : Int} (h1 : m ∣ u * n - l) (h2 : m ∣ v * n - r) : m ∣ (u - t * v) * n - (l - t * r) := by
  obtain ⟨a, ha⟩ := h1
  obtain ⟨b, hb⟩ := h2
  refine ⟨a - t * b, ?_⟩
  have e : (u - t * v) * n - (l - t * r) = (u * n - l) - t * (v * n - r) := by
    rw [Int.sub_mul, Int.mul_sub, Int.mul_assoc]
    omega
  rw [e, ha, hb, Int.mul_sub]
  congr 1
  rw [← Int.mul_assoc, ← Int.mul_assoc, Int.mul_comm t m]
theorem dvd_self_unit {l : Int} (h0 : 0 < l) (h : ∀ d : Int, d ∣ l → d ∣ 0 → d ∣ 1) : l = 1 := by
  have h1 := h l (Int.dvd_refl l) (Int.dvd_zero l)
  have h2 := Int.le_of_dvd (by decide) h1
  omega
theorem inv_end {m n u x : Int} (h : m ∣ u * n - 1) (hx : x = u % m) : m ∣ x * n - 1 := by
  subst hx
  obtain ⟨a, ha⟩ := h
  obtain ⟨b, hb⟩ := dvd_mod_sub (m := m) (n := u)
  refine ⟨b * n + a, ?_⟩
  have e : u % m * n - 1 = (u % m - u) * n + (u * n - 1) := by
    rw [Int.sub_mul]
    omega
  rw [e, ha, hb, Int.mul_add, Int.mul_assoc]
theorem cop_div {b p g : Int} (hg : 0 < g) (hb : g ∣ b) (hp : g ∣ p) (h : ∀ d : Int, d ∣ b → d ∣ p → d ∣ g) : ∀ d : Int, d ∣ b / g → d ∣ p / g → d ∣ 1 := by
  intro d h1 h2
  obtain ⟨b', rfl⟩ := hb
  obtain ⟨p', rfl⟩ := hp
  rw [Int.mul_ediv_cancel_left _ (by omega)] at h1 h2
  have h3 := h (g * d) (Int.mul_dvd_mul_left g h1) (Int.mul_dvd_mul_left g h2)
  obtain ⟨k, hk⟩ := h3
  refine ⟨k, ?_⟩
  rw [Int.mul_assoc] at hk
  have : g * 1 = g * (d * k) := by rw [Int.mul_one]; exact hk
  exact Int.eq_of_mul_eq_mul_left (by omega) this
theorem rem_sol {a b r p g y x : Int} (hg : 0 < g) (hb : g ∣ b) (hp : g ∣ p) (hr : g ∣ r - a) (hy : p / g ∣ y * (b / g) - 1) (hx : x = ((r - a) / g * y) % (p / g)) : p ∣ a + b * x - r := by
  obtain ⟨b', rfl⟩ := hb
  obtain ⟨p', rfl⟩ := hp
  obtain ⟨q, hq⟩ := hr
  rw [hq] at hx
  rw [Int.mul_ediv_cancel_left _ (show g ≠ 0 by omega)] at hy hx
  rw [Int.mul_ediv_cancel_left _ (show g ≠ 0 by omega)] at hy hx
  obtain ⟨c, hc⟩ := hy
  obtain ⟨d, hd⟩ := dvd_mod_sub (m := p') (n := q * y)
  rw [← hx] at hd
  refine ⟨b' * d + q * c, ?_⟩
  have e1 : x = q * y + p' * d := by omega
  have e2 : g * b' * x = g * b' * (q * y) + g * (b' * (p' * d)) := by
    rw [e1, Int.mul_add, Int.mul_assoc g b' (p' * d)]
  have e3 : g * b' * (q * y) = g * (q * (y * b')) := by
    rw [Int.mul_assoc]
    congr 1
    rw [Int.mul_comm b', Int.mul_assoc]
  have e4 : y * b' = p' * c + 1 := by omega
  have e5 : g * (q * (y * b')) = g * (q * (p' * c)) + g * q := by
    rw [e4, Int.mul_add, Int.mul_one, Int.mul_add]
  have e6 : g * p' * (b' * d + q * c) = g * (b' * (p' * d)) + g * (q * (p' * c)) := by
    rw [Int.mul_add, Int.mul_assoc g p' (b' * d), Int.mul_assoc g p' (q * c), ← Int.mul_assoc p' b' d, Int.mul_comm p' b', Int.mul_assoc b' p' d, ← Int.mul_assoc p' q c, Int.mul_comm p' q, Int.mul_assoc q p' c]
  rw [e6]
  omega
theorem two_rem {r1 p1 r2 p2 g x R : Int} (hg : 0 < g) (h1 : g ∣ p1) (h2 : g ∣ p2) (hx : p2 ∣ r1 + p1 * x - r2) (hR : R = (r1 + p1 * x) % (p1 * (p2 / g))) : p1 ∣ R - r1 ∧ p2 ∣ R - r2 := by
  obtain ⟨d, hd⟩ := dvd_mod_sub (m := p1 * (p2 / g)) (n := r1 + p1 * x)
  rw [← hR] at hd
  constructor
  · refine ⟨(p2 / g) * d + x, ?_⟩
    rw [Int.mul_add, ← Int.mul_assoc]
    omega
  · obtain ⟨c, hc⟩ := hx
    obtain ⟨a', ha⟩ := h1
    obtain ⟨b', hb⟩ := h2
    have e : p1 * (p2 / g) = p2 * a' := by
      rw [hb, Int.mul_ediv_cancel_left _ (show g ≠ 0 by omega), ha, Int.mul_assoc, Int.mul_assoc, Int.mul_comm a' b']
    rw [e] at hd
    refine ⟨a' * d + c, ?_⟩
    rw [Int.mul_add, ← Int.mul_assoc]
    omega
theorem gcd_dvd_of {i j d : Int} (h1 : d ∣ i) (h2 : d ∣ j) : d ∣ (Int.gcd i j : Int) := Int.dvd_coe_gcd h1 h2
theorem gcd_pos_of {i j : Int} (h : 0 < i ∨ 0 < j) : (0 : Int) < (Int.gcd i j : Int) := by
  have : 0 < Int.gcd i j := by
    rcases h with h | h
    · exact Int.gcd_pos_of_ne_zero_left _ (by omega)
    · exact Int.gcd_pos_of_ne_zero_right _ (by omega)
  omega
theorem gcd_le_right_of {i j : Int} (h : 0 < j) : (Int.gcd i j : Int) ≤ j := Int.le_of_dvd h (Int.gcd_dvd_right _ _)
theorem gcd_le_left_of {i j : Int} (h : 0 < i) : (Int.gcd i j : Int) ≤ i := Int.le_of_dvd h (Int.gcd_dvd_left _ _)
/-- a common lattice: what common_lattice computes is in both -/
theorem common_in {a1 b1 d1 a2 b2 d2 up m R M : Int} (hd1 : 0 < d1) (hd2 : 0 < d2) (u1 : d1 ∣ up) (u2 : d2 ∣ up) (m1 : a1 ∣ M) (m2 : a2 ∣ M) (r1 : a1 ∣ R - m * (up / d1 * b1)) (r2 : a2 ∣ R - m * (up / d2 * b2)) :
    inL a1 b1 d1 M 0 ∧ inL a2 b2 d2 M 0 ∧ inL a1 b1 d1 R (m * up) ∧ inL a2 b2 d2 R (m * up) := by
  have key : ∀ a b d : Int, 0 < d → d ∣ up → a ∣ M → a ∣ R - m * (up / d * b) → inL a b d M 0 ∧ inL a b d R (m * up) := by
    intro a b d hd ⟨k, hk⟩ ⟨c, hc⟩ ⟨e, he⟩
    refine ⟨⟨0, c, by omega, by rw [hc, Int.mul_comm, Int.zero_mul, Int.add_zero]⟩, ⟨m * k, e, by rw [hk, Int.mul_assoc, Int.mul_comm k d], ?_⟩⟩
    rw [hk, Int.mul_ediv_cancel_left _ (show d ≠ 0 by omega)] at he
    rw [Int.mul_comm e a, Int.mul_assoc]
    omega
  exact ⟨(key _ _ _ hd1 u1 m1 r1).1, (key _ _ _ hd2 u2 m2 r2).1, (key _ _ _ hd1 u1 m1 r1).2, (key _ _ _ hd2 u2 m2 r2).2⟩
end K12
namespace K12
theorem lcm_facts {i j : Int} (hi : 0 < i) (hj : 0 < j) : i ∣ i * j / (Int.gcd i j : Int) ∧ j ∣ i * j / (Int.gcd i j : Int) ∧ 0 < i * j / (Int.gcd i j : Int) ∧ i * j / (Int.gcd i j : Int) ≤ i * j := by
  have g0 := gcd_pos_of (i := i) (j := j) (.inl hi)
  obtain ⟨a, ha⟩ := Int.gcd_dvd_left i j
  obtain ⟨b, hb⟩ := Int.gcd_dvd_right i j
  have e1 : i * j / (Int.gcd i j : Int) = i * b := by
    conv => lhs; rw [show i * j = (Int.gcd i j : Int) * (i * b) by rw [← Int.mul_assoc, Int.mul_comm _ i, Int.mul_assoc, ← hb]]
    exact Int.mul_ediv_cancel_left _ (by omega)
  have e2 : i * b = j * a := by
    have h : (Int.gcd i j : Int) * (i * b) = (Int.gcd i j : Int) * (j * a) := by
      have h1 : (Int.gcd i j : Int) * (i * b) = i * j := by rw [Int.mul_left_comm, ← hb]
      have h2 : (Int.gcd i j : Int) * (j * a) = j * i := by rw [Int.mul_left_comm, ← ha]
      rw [h1, h2, Int.mul_comm]
    exact Int.eq_of_mul_eq_mul_left (by omega) h
  have b0 : 0 < b := by
    rcases Int.lt_trichotomy b 0 with h | h | h
    · have := Int.mul_neg_of_pos_of_neg g0 h; omega
    · rw [h, Int.mul_zero] at hb; omega
    · exact h
  rw [e1]
  refine ⟨⟨b, rfl⟩, ⟨a, e2⟩, Int.mul_pos hi b0, ?_⟩
  refine Int.mul_le_mul_of_nonneg_left ?_ (by omega)
  exact Int.le_of_dvd hj ⟨Int.gcd i j, by rw [Int.mul_comm]; exact hb⟩
end K12
namespace K12
open PySem PySem.Spec PyProof.Rows L2
section
variable {P : Program} {w : World} {K : PySem.W.Frag} {mg : Str → Option Value} {base : Heap}
theorem sqT_of {K : PySem.W.Frag} {H : Hp} {a : Addr} {xs : List V} (h : H a = some (.tup xs)) : SqT K H a xs := .inl (.inl h)
theorem sqL_of {K : PySem.W.Frag} {H : Hp} {a : Addr} {xs : List V} (h : H a = some (.lst xs)) : SqL K H a xs := .inl (.inl h)
theorem two_line : 2 ≤ sizeLine := by decide
theorem four_line : 4 ≤ sizeLine := by decide
theorem tup_free {H : Hp} {p q : Addr} {o o' : HO} (h : H p = some o) (n : H q = none) : upd H q o' p = some o := by rw [upd_ne (ne_of_none h n)]; exact h
/-! least_multiple -/
theorem sc_least_multiple : FnScope ["one", "other", "number"] ["one", "other"] (defScope s_least_multiple) := ⟨rfl, rfl, rfl, by decide +kernel, rfl, by decide +kernel, by decide +kernel⟩
def sp_least_multiple : Sp := fun vs H Q _ => ∃ i j : Int, vs = [.int i, .int j] ∧ (1 ≤ i ∧ 1 ≤ j ∧ i < 1073741824) ∧ ∀ H' u, Same H H' → i ∣ u → j ∣ u → 0 < u → u ≤ i * j → Q (.int u) H'
theorem ok_least_multiple (T : Tx P w K mg base) : OkG CX0 P w K mg base 4 "least_multiple" ["one", "other"] sp_least_multiple := by
  refine mkG (st := s_least_multiple) T.e_least_multiple T.g_least_multiple (fun _ _ _ _ _ _ us hl => match us, hl with | [_, _], _ => rfl) sc_least_multiple (fun vs H Q E h => ?_) (fun f cdv A outer s H vs Q E hr h => ?_)
  · obtain ⟨r, p, rfl, _⟩ := h
    rfl
  · obtain ⟨i, j, rfl, ⟨hi, hj, hs⟩, q⟩ := h
    refine ⟨_, pss_cons (ps_for PassesOwn.never rfl (pi_tup (pe_tup (pa_cons (pv 0) (pa_cons (pv 1) pa_nil)))) (pg_name (i := 2) sc_least_multiple.nd rfl (Or.inl rfl))
        (pss_one (ps_if (PW.pt (pw_or (pt_not (pt_val (pe_g (ok_is_integer T) (hr.mono (by decide)) (pa_cons (pv 2) pa_nil)))) (pw_or1 (pt_cmpR op_lt (pv 2) pe_int (nomark _))))) (pss_one ps_never) pss_nil)))
      (pss_one (ps_ret (pe_op op_fdiv (pe_op op_mul (pv 0) (xInt T.f_int (pv 1))) (pe_g (ok_greatest_divisor T) hr (pa_cons (pv 0) (pa_cons (pv 1) pa_nil)))))), ?_⟩
    refine ⟨_, rfl, _, rfl, two_line, fun p hp => ?_⟩
    have sm := same_upd (o := .tup [.int i, .int j]) hp
    refine ⟨p, rfl, ⟨_, sqT_of upd_same⟩, for_tup (K := K) (a := p) (xs := [.int i, .int j]) (fun n σ H' => (∃ v, σ = [some (.int i), some (.int j), v]) ∧ H' = upd H p (.tup [.int i, .int j])) ⟨⟨none, rfl⟩, rfl⟩ (fun n σ H' _ ⟨_, e⟩ => by rw [e]; exact sqT_of upd_same) ?_ ?_⟩
    · rintro n x σ H' hx ⟨⟨v, rfl⟩, rfl⟩
      have hz : ∃ z : Int, x = .int z ∧ 1 ≤ z := by
        have := List.mem_of_getElem? hx
        simp at this
        rcases this with rfl | rfl
        · exact ⟨i, rfl, hi⟩
        · exact ⟨j, rfl, hj⟩
      obtain ⟨z, rfl, z1⟩ := hz
      refine ⟨_, rfl, _, rfl, .inl ⟨⟨z, rfl⟩, true, rfl, iteF ?_⟩⟩
      refine ⟨_, rfl, _, _, rfl, rfl, _, rfl, ?_⟩
      rw [decide_eq_false (by omega)]
      exact iteF ⟨⟨_, rfl⟩, rfl⟩
    · rintro σ H' ⟨⟨v, rfl⟩, rfl⟩
      obtain ⟨l1, l2, l3, l4⟩ := lcm_facts (i := i) (j := j) (by omega) (by omega)
      refine ⟨_, rfl, _, rfl, .inl ⟨_, rfl, _, _, rfl, rfl, .inl ⟨by omega, by omega⟩, _, rfl, _, rfl, i, j, rfl, _, _, rfl, rfl, ⟨gcd_pos_of (.inl (by omega)), ?_⟩, q _ _ sm l1 l2 l3 l4⟩⟩
      have := gcd_le_left_of (i := i) (j := j) (by omega)
      omega
/-! inverse -/
theorem sc_inverse : FnScope ["number", "modulus", "left", "rest", "near", "far", "times"] ["number", "modulus"] (defScope s_inverse) := ⟨rfl, rfl, rfl, by decide +kernel, rfl, by decide +kernel, by decide +kernel⟩
def sp_inverse : Sp := fun vs H Q _ => ∃ n m : Int, vs = [.int n, .int m] ∧ (1 ≤ m ∧ m < 1073741824 ∧ ∀ d : Int, d ∣ n → d ∣ m → d ∣ 1) ∧ ∀ H' x, Same H H' → 0 ≤ x → x < m → m ∣ x * n - 1 → Q (.int x) H'
theorem ok_inverse (T : Tx P w K mg base) : OkG CX0 P w K mg base 1 "inverse" ["number", "modulus"] sp_inverse := by
  refine mkG (st := s_inverse) T.e_inverse T.g_inverse (fun _ _ _ _ _ _ us hl => match us, hl with | [_, _], _ => rfl) sc_inverse (fun vs H Q E h => ?_) (fun f cdv A outer s H vs Q E hr h => ?_)
  · obtain ⟨r, p, rfl, _⟩ := h
    rfl
  · obtain ⟨n, m, rfl, ⟨hm, hs, hc⟩, q⟩ := h
    have nd := sc_inverse.nd
    refine ⟨_, pss_cons (ps_asg (pe_tup (pa_cons (pv 1) (pa_cons (pe_op op_mod (xInt T.f_int (pv 0)) (pv 1)) (pa_cons pe_int (pa_cons pe_int pa_nil)))))
          (pg_tup (by rfl) (pgs_cons (pg_name (i := 2) nd rfl (.inl rfl)) (pgs_cons (pg_name (i := 3) nd rfl (.inl rfl)) (pgs_cons (pg_name (i := 4) nd rfl (.inl rfl)) (pgs_cons (pg_name (i := 5) nd rfl (.inl rfl)) pgs_nil))))))
      (pss_cons (ps_while PassesOwn.never (pt_cmpR op_ne (pv 3) pe_int (nomark _))
        (pss_cons (ps_set (i := 6) nd rfl (Or.inl rfl) (pe_op op_fdiv (xInt T.f_int (pv 2)) (pv 3)))
        (pss_one (ps_asg (pe_tup (pa_cons (pv 3) (pa_cons (pe_op op_sub (pv 2) (pe_op op_mul (pv 6) (pv 3))) (pa_cons (pv 5) (pa_cons (pe_op op_sub (pv 4) (pe_op op_mul (pv 6) (pv 5))) pa_nil)))))
          (pg_tup (by rfl) (pgs_cons (pg_name (i := 2) nd rfl (.inl rfl)) (pgs_cons (pg_name (i := 3) nd rfl (.inl rfl)) (pgs_cons (pg_name (i := 4) nd rfl (.inl rfl)) (pgs_cons (pg_name (i := 5) nd rfl (.inl rfl)) pgs_nil)))))))))
      (pss_one (ps_ret (pe_op op_mod (xInt T.f_int (pv 4)) (pv 1))))), ?_⟩
    refine ⟨_, rfl, _, rfl, .inl ⟨_, rfl, _, rfl, _, _, rfl, rfl, by show (0 : Int) < m; omega, four_line, fun p hp => ?_⟩⟩
    refine ⟨p, _, rfl, sqT_of upd_same, rfl, _, _, rfl, _, _, rfl, _, _, rfl, _, _, rfl, rfl, ?_⟩
    refine while_by (fun σ H' => Same H H' ∧ ∃ (l r u v : Int) (o : Option V), σ = [some (.int n), some (.int m), some (.int l), some (.int r), some (.int u), some (.int v), o] ∧ (0 ≤ r ∧ r < l ∧ l ≤ m) ∧ (∀ d : Int, d ∣ l → d ∣ r → d ∣ 1) ∧ m ∣ u * n - l ∧ m ∣ v * n - r)
      (fun σ H' => match σ with | [_, _, _, some (.int r), _, _, _] => r.toNat | _ => 0) ⟨same_upd hp, m, n % m, 0, 1, none, rfl, ⟨Int.emod_nonneg _ (by omega), Int.emod_lt_of_pos _ (by omega), Int.le_refl _⟩, ?_, ?_, ?_⟩ ?_ ?_
    · intro d h1 h2
      refine hc d ?_ h1
      have e := Int.emod_add_mul_ediv n m
      rw [← e]
      exact Int.dvd_add h2 (Int.dvd_mul_of_dvd_left h1)
    · rw [Int.zero_mul]
      exact ⟨-1, by omega⟩
    · obtain ⟨c, hc2⟩ := dvd_mod_sub (m := m) (n := n)
      exact ⟨-c, by rw [Int.mul_neg]; omega⟩
    · rintro σ H' ⟨sm, l, r, u, v, o, rfl, ⟨r0, rl, lm⟩, cop, i1, i2⟩
      refine ⟨_, rfl, rfl, _, rfl, ?_⟩
      by_cases hr0 : r = 0
      · subst hr0
        refine iteNS rfl ?_
        have l1 := dvd_self_unit (by omega) cop
        subst l1
        exact ⟨_, rfl, .inl ⟨_, rfl, _, rfl, _, _, rfl, rfl, by show (0 : Int) < m; omega, q _ _ sm (Int.emod_nonneg _ (by omega)) (Int.emod_lt_of_pos _ (by omega)) (inv_end i1 rfl)⟩⟩
      · have e : decide (V.int r = V.int 0) = false := decide_eq_false fun z => hr0 (V.int.inj z)
        rw [e]
        have t0 : 0 ≤ l / r := Int.ediv_nonneg (by omega) r0
        have t1 : l / r ≤ l := Int.ediv_le_self _ (by omega)
        refine iteT ⟨_, rfl, .inl ⟨_, rfl, _, rfl, _, _, rfl, rfl, ⟨by omega, by omega⟩, ?_⟩⟩
        refine ⟨_, rfl, _, rfl, _, rfl, _, rfl, _, _, rfl, rfl, .inl ⟨by omega, by omega⟩, _, _, rfl, rfl, _, rfl, _, rfl, _, rfl, _, rfl, _, _, rfl, rfl, .inl ⟨by omega, by omega⟩, _, _, rfl, rfl, four_line, fun p hp => ?_⟩
        refine ⟨p, _, rfl, sqT_of upd_same, rfl, _, _, rfl, _, _, rfl, _, _, rfl, _, _, rfl, rfl, ?_⟩
        have e1 : l - l / r * r = l % r := by
          have := Int.emod_add_mul_ediv l r
          rw [Int.mul_comm]
          omega
        have m1 := Int.emod_lt_of_pos l (show 0 < r by omega)
        have m0 := Int.emod_nonneg l hr0
        refine ⟨⟨sm.trans (same_upd hp), r, l - l / r * r, v, u - l / r * v, _, rfl, ⟨by omega, by omega, by omega⟩, fun d h1 h2 => cop d ?_ h1, i2, inv_step i1 i2⟩, ?_⟩
        · have : l = (l - l / r * r) + l / r * r := by omega
          rw [this]
          exact Int.dvd_add h2 (Int.dvd_mul_of_dvd_right h1)
        · show (l - l / r * r).toNat < r.toNat
          omega
    · rintro σ H' Q1 Q2 hq ⟨v, hv, h1, k, e, h2⟩
      exact ⟨v, hv, h1, k, e, hq _ _ h2⟩
end
end K12
namespace K12
open PySem PySem.Spec PyProof.Rows L2
section
variable {P : Program} {w : World} {K : PySem.W.Frag} {mg : Str → Option Value} {base : Heap}
theorem at0 {x y : V} : atI [x, y] (0 : Int) = some x := atI_nat (j := 0) rfl
theorem at1 {x y : V} : atI [x, y] (1 : Int) = some y := atI_nat (j := 1) rfl
/-! remainder_of -/
theorem sc_remainder_of : FnScope ["a", "b", "r", "p", "divisor", "modulus"] ["a", "b", "r", "p"] (defScope s_remainder_of) := ⟨rfl, rfl, rfl, by decide +kernel, rfl, by decide +kernel, by decide +kernel⟩
def sp_remainder_of : Sp := fun vs H Q _ => ∃ a b r p : Int, vs = [.int a, .int b, .int r, .int p] ∧ (1 ≤ b ∧ 1 ≤ p ∧ b < 1073741824 ∧ p < 1073741824 ∧ -(2 ^ 64) < r - a ∧ r - a < 2 ^ 64 ∧ (Int.gcd b p : Int) ∣ r - a) ∧
  ∀ H' t x, Same H H' → H t = none → H' t = some (.tup [.int x, .int (p / (Int.gcd b p : Int))]) → 0 ≤ x → x < p / (Int.gcd b p : Int) → p ∣ a + b * x - r → Q (.ref t) H'
theorem ok_remainder_of (T : Tx P w K mg base) : OkG CX0 P w K mg base 4 "remainder_of" ["a", "b", "r", "p"] sp_remainder_of := by
  refine mkG (st := s_remainder_of) T.e_remainder_of T.g_remainder_of (fun _ _ _ _ _ _ us hl => match us, hl with | [_, _, _, _], _ => rfl) sc_remainder_of (fun vs H Q E h => ?_) (fun f cdv A outer s H vs Q E hr h => ?_)
  · obtain ⟨a, b, r, p, rfl, _⟩ := h
    rfl
  · obtain ⟨a, b, r, p, rfl, ⟨hb, hp, sb, sp, s1, s2, hd⟩, q⟩ := h
    have nd := sc_remainder_of.nd
    have g0 := gcd_pos_of (i := b) (j := p) (.inl (by omega))
    have g1 := gcd_le_left_of (i := b) (j := p) (by omega)
    have gb := Int.gcd_dvd_left b p
    have gp := Int.gcd_dvd_right b p
    refine ⟨_, pss_cons (ps_expr (pe_g (ok_check_integer T) (hr.mono (by decide)) (pa_cons (pv 0) pa_nil)))
      (pss_cons (ps_expr (pe_g (ok_check_integer T) (hr.mono (by decide)) (pa_cons (pv 1) pa_nil)))
      (pss_cons (ps_expr (pe_g (ok_check_remainder T) hr (pa_cons (pv 2) (pa_cons (pv 3) pa_nil))))
      (pss_cons (ps_set (i := 4) nd rfl (Or.inl rfl) (pe_g (ok_greatest_divisor T) hr (pa_cons (pv 1) (pa_cons (pv 3) pa_nil))))
      (pss_cons (ps_if (pt_cmpR op_ne (pe_op op_mod (xInt T.f_int (pe_op op_sub (pv 2) (pv 0))) (pv 4)) pe_int (nomark _)) (pss_one ps_never) pss_nil)
      (pss_cons (ps_set (i := 5) nd rfl (Or.inl rfl) (pe_op op_fdiv (xInt T.f_int (pv 3)) (pv 4)))
      (pss_one (ps_ret (pe_tup (pa_cons (pe_op op_mod (xInt T.f_int (pe_op op_mul (pe_op op_fdiv (xInt T.f_int (pe_op op_sub (pv 2) (pv 0))) (pv 4)) (pe_g (ok_inverse T) (hr.mono (by decide)) (pa_cons (pe_op op_fdiv (xInt T.f_int (pv 1)) (pv 4)) (pa_cons (pv 5) pa_nil))))) (pv 5)) (pa_cons (pv 5) pa_nil))))))))))
      , ?_⟩
    refine ⟨_, rfl, a, rfl, _, rfl, b, rfl, _, rfl, _, rfl, r, p, rfl, hp, _, rfl, _, rfl, b, p, rfl, ?_⟩
    refine ⟨_, rfl, _, rfl, _, _, rfl, rfl, .inl ⟨_, rfl, _, rfl, _, _, rfl, rfl, g0, rfl, _, rfl, ?_⟩⟩
    have e0 : (r - a) % (Int.gcd b p : Int) = 0 := Int.emod_eq_zero_of_dvd hd
    rw [decide_eq_true (show V.int ((r - a) % (Int.gcd b p : Int)) = V.int 0 by rw [e0])]
    refine iteF ⟨_, rfl, .inl ⟨_, rfl, _, rfl, _, _, rfl, rfl, ⟨g0, by omega⟩, ?_⟩⟩
    have p0 : 0 < p / (Int.gcd b p : Int) := Int.ediv_pos_of_pos_of_dvd (by omega) (by omega) gp
    have p1 : p / (Int.gcd b p : Int) ≤ p := Int.ediv_le_self _ (by omega)
    have q1 : -(2 ^ 64) < (r - a) / (Int.gcd b p : Int) ∧ (r - a) / (Int.gcd b p : Int) < 2 ^ 64 := by
      obtain ⟨c, hc⟩ := hd
      rw [hc, Int.mul_ediv_cancel_left _ (by omega)]
      rw [hc] at s1 s2
      have k1 : -(2 ^ 64) < c := by
        by_cases z : 0 ≤ c
        · omega
        · have := Int.mul_le_mul_of_nonpos_right (show (1 : Int) ≤ (Int.gcd b p : Int) by omega) (show c ≤ 0 by omega)
          omega
      have k2 : c < 2 ^ 64 := by
        by_cases z : c ≤ 0
        · omega
        · have := Int.mul_le_mul_of_nonneg_right (show (1 : Int) ≤ (Int.gcd b p : Int) by omega) (show 0 ≤ c by omega)
          omega
      exact ⟨k1, k2⟩
    refine ⟨_, rfl, _, rfl, _, _, rfl, rfl, .inl ⟨_, rfl, _, rfl, _, _, rfl, rfl, ⟨g0, by omega⟩, ?_⟩⟩
    refine ⟨_, rfl, .inl ⟨_, rfl, _, rfl, _, _, rfl, rfl, ⟨g0, by omega⟩, _, rfl, _, _, rfl, ⟨by omega, by omega, cop_div g0 gb gp fun d h1 h2 => gcd_dvd_of h1 h2⟩, fun H' y sm y0 y1 hy => ?_⟩⟩
    refine ⟨_, _, rfl, rfl, .inl q1, .inl ⟨_, rfl, _, rfl, _, _, rfl, rfl, p0, _, rfl, two_line, fun t ht => ?_⟩⟩
    exact q _ t _ (sm.trans (same_upd ht)) (sm.free ht) upd_same (Int.emod_nonneg _ (by omega)) (Int.emod_lt_of_pos _ p0) (rem_sol g0 gb gp hd hy rfl)
/-! is_remainder -/
theorem sc_is_remainder : FnScope ["value", "part"] ["value"] (defScope s_is_remainder) := ⟨rfl, rfl, rfl, by decide +kernel, rfl, by decide +kernel, by decide +kernel⟩
def sp_is_remainder : Sp := fun vs H Q _ => ∃ (t : Addr) (i j : Int), vs = [.ref t] ∧ H t = some (.tup [.int i, .int j]) ∧ 1 ≤ j ∧ ∀ H', Same H H' → Q (.bl true) H'
theorem ok_is_remainder (T : Tx P w K mg base) : OkG CX0 P w K mg base 2 "is_remainder" ["value"] sp_is_remainder := by
  refine mkG (st := s_is_remainder) T.e_is_remainder T.g_is_remainder (fun _ _ _ _ _ _ us hl => match us, hl with | [_], _ => rfl) sc_is_remainder (fun vs H Q E h => ?_) (fun f cdv A outer s H vs Q E hr h => ?_)
  · obtain ⟨t, i, j, rfl, _⟩ := h
    rfl
  · obtain ⟨t, i, j, rfl, ht, hj, q⟩ := h
    have nd := sc_is_remainder.nd
    refine ⟨_, pss_one (ps_ret (pe_and (pe_callB call_isi (by rfl) T.f_isinstance (by decide +kernel) (pa_cons (pv 0) (pa_cons (pe_bltn (v := .ty "tuple") (by rfl) T.f_tuple (by decide +kernel) rfl) pa_nil)))
      (pe_and (pe_cmpR op_eq (xLen T.f_len (pv 0)) pe_int (nomark _))
      (pe_and (pe_callB (cr_all rfl) (by rfl) T.f_all (by decide +kernel) (pa_cons (pe_lc (own := [("part", 1)]) (g := gName 1) (tt := tYes) (by rfl) nd (pi_tup (pv 0)) (blkOk_by (N := ["value", "part"]) (sc := defScope s_is_remainder) (by decide +kernel)) (fun _ _ _ _ _ => pg_name (i := 1) nd rfl (Or.inl rfl)) (fun _ _ _ _ _ => pts_nil)
        (fun _ _ _ _ _ => pe_g (ok_is_integer T) hr (pa_cons (pv 1) pa_nil))) pa_nil))
      (pe_one (pe_cmpR op_ge (pe_ix ix_tup (pv 0) pe_int (fun _ _ => rfl)) pe_int (nomark _))))))), ?_⟩
    refine ⟨_, rfl, _, _, _, _, true, rfl, .ty "tuple", .base (.tup ht), kit_ty (by decide +kernel), true, rfl, iteT ?_⟩
    refine ⟨_, rfl, _, 2, rfl, .inr ⟨_, sqT_of ht, rfl⟩, rfl, true, rfl, iteT ?_⟩
    refine ⟨_, rfl, t, rfl, ⟨_, sqT_of ht⟩, fun D hD => lc_tup (K := K) (a := t) (xs := [.int i, .int j]) (fun n H' => Same H H' ∧ H' D = some (.lst ((List.replicate n true).map V.bl))) ⟨same_upd hD, upd_same⟩ (fun n H' _ ⟨sm, _⟩ => sqT_of (sm _ _ ht)) ?_ ?_⟩
    · rintro n x H' hx ⟨sm, hl⟩
      have hz : ∃ z : Int, x = .int z := by
        have := List.mem_of_getElem? hx
        simp at this
        rcases this with rfl | rfl
        · exact ⟨i, rfl⟩
        · exact ⟨j, rfl⟩
      have hn : n < 2 := (List.getElem?_eq_some_iff.mp hx).1
      obtain ⟨z, rfl⟩ := hz
      refine ⟨rfl, _, rfl, _, rfl, .inl ⟨⟨z, rfl⟩, _, hl, ?_, ?_, ?_⟩⟩
      · rw [List.length_map, List.length_replicate]
        exact small1000 (by omega)
      · intro b o e
        have nb : b ≠ D := ne_of_none e hD
        rw [upd_ne nb]
        exact sm b o e
      · rw [upd_same, List.replicate_succ', List.map_append]
        rfl
    · rintro H' ⟨sm, hl⟩
      refine ⟨D, _, rfl, sqL_of hl, true, by simp, iteT ?_⟩
      refine ⟨_, rfl, t, _, 1, _, rfl, rfl, sqT_of (sm _ _ ht), at1, _, _, rfl, rfl, ?_⟩
      show Q (.bl (decide (1 ≤ j))) H'
      rw [decide_eq_true hj]
      exact q _ sm
/-! both_remainders -/
theorem sc_both_remainders : FnScope ["one", "other", "found", "modulus"] ["one", "other"] (defScope s_both_remainders) := ⟨rfl, rfl, rfl, by decide +kernel, rfl, by decide +kernel, by decide +kernel⟩
def sp_both_remainders : Sp := fun vs H Q _ => ∃ (t u : Addr) (r1 p1 r2 p2 : Int), vs = [.ref t, .ref u] ∧ H t = some (.tup [.int r1, .int p1]) ∧ H u = some (.tup [.int r2, .int p2]) ∧
  (1 ≤ p1 ∧ 1 ≤ p2 ∧ p1 < 1073741824 ∧ p2 < 1073741824 ∧ -(2 ^ 64) < r2 - r1 ∧ r2 - r1 < 2 ^ 64 ∧ (Int.gcd p1 p2 : Int) ∣ r2 - r1) ∧
  ∀ H' x R, Same H H' → H x = none → H' x = some (.tup [.int R, .int (p1 * (p2 / (Int.gcd p1 p2 : Int)))]) → 0 ≤ R → R < p1 * (p2 / (Int.gcd p1 p2 : Int)) → p1 ∣ R - r1 → p2 ∣ R - r2 → Q (.ref x) H'
theorem ok_both_remainders (T : Tx P w K mg base) : OkG CX0 P w K mg base 5 "both_remainders" ["one", "other"] sp_both_remainders := by
  refine mkG (st := s_both_remainders) T.e_both_remainders T.g_both_remainders (fun _ _ _ _ _ _ us hl => match us, hl with | [_, _], _ => rfl) sc_both_remainders (fun vs H Q E h => ?_) (fun f cdv A outer s H vs Q E hr h => ?_)
  · obtain ⟨t, u, r1, p1, r2, p2, rfl, _⟩ := h
    rfl
  · obtain ⟨t, u, r1, p1, r2, p2, rfl, ht, hu, ⟨h1, h2, h3, h4, h5, h6, h7⟩, q⟩ := h
    have nd := sc_both_remainders.nd
    have g0 := gcd_pos_of (i := p1) (j := p2) (.inl (by omega))
    refine ⟨_, pss_cons (ps_if (PW.pt (pw_or (pt_not (pt_val (pe_g (ok_is_remainder T) (hr.mono (by decide)) (pa_cons (pv 0) pa_nil)))) (pw_or1 (pt_not (pt_val (pe_g (ok_is_remainder T) (hr.mono (by decide)) (pa_cons (pv 1) pa_nil))))))) (pss_one ps_never) pss_nil)
      (pss_cons (ps_set (i := 2) nd rfl (Or.inl rfl) (pe_g (ok_remainder_of T) hr (pa_cons (pe_ix ix_tup (pv 0) pe_int (fun _ _ => rfl)) (pa_cons (pe_ix ix_tup (pv 0) pe_int (fun _ _ => rfl)) (pa_cons (pe_ix ix_tup (pv 1) pe_int (fun _ _ => rfl)) (pa_cons (pe_ix ix_tup (pv 1) pe_int (fun _ _ => rfl)) pa_nil))))))
      (pss_cons (ps_if (pt_cmpR op_isN (pv 2) pe_non (nomark _)) (pss_one ps_never) pss_nil)
      (pss_cons (ps_set (i := 3) nd rfl (Or.inl rfl) (pe_op op_mul (pe_ix ix_tup (pv 0) pe_int (fun _ _ => rfl)) (pe_ix ix_tup (pv 2) pe_int (fun _ _ => rfl))))
      (pss_one (ps_ret (pe_tup (pa_cons (pe_op op_mod (xInt T.f_int (pe_op op_add (pe_ix ix_tup (pv 0) pe_int (fun _ _ => rfl)) (pe_op op_mul (pe_ix ix_tup (pv 0) pe_int (fun _ _ => rfl)) (pe_ix ix_tup (pv 2) pe_int (fun _ _ => rfl))))) (pv 3)) (pa_cons (pv 3) pa_nil)))))))), ?_⟩
    refine ⟨_, rfl, t, r1, p1, rfl, ht, h1, fun H1 s1 => ⟨true, rfl, iteF ⟨_, rfl, u, r2, p2, rfl, s1 _ _ hu, h2, fun H2 s2 => ⟨true, rfl, iteF ?_⟩⟩⟩⟩
    have sm := s1.trans s2
    have ht2 := sqT_of (K := K) (sm _ _ ht)
    have hu2 := sqT_of (K := K) (sm _ _ hu)
    refine ⟨_, rfl, t, _, 0, _, rfl, rfl, ht2, at0, _, rfl, t, _, 1, _, rfl, rfl, ht2, at1, _, rfl, u, _, 0, _, rfl, rfl, hu2, at0, _, rfl, u, _, 1, _, rfl, rfl, hu2, at1, ?_⟩
    refine ⟨r1, p1, r2, p2, rfl, ⟨h1, h2, h3, h4, h5, h6, h7⟩, fun H3 y x s3 ny hy x0 x1 hx => ?_⟩
    have sm3 := sm.trans s3
    have ht3 := sqT_of (K := K) (sm3 _ _ ht)
    have hy3 := sqT_of (K := K) hy
    have pp : 0 < p2 / (Int.gcd p1 p2 : Int) := by omega
    refine ⟨_, rfl, rfl, _, rfl, ?_⟩
    rw [decide_eq_false (by intro z; cases z)]
    refine iteF ⟨_, rfl, t, _, 1, _, rfl, rfl, ht3, at1, _, rfl, y, _, 1, _, rfl, rfl, hy3, at1, _, _, rfl, rfl, .inl ⟨by omega, by omega⟩, ?_⟩
    refine ⟨_, rfl, t, _, 0, _, rfl, rfl, ht3, at0, _, rfl, t, _, 1, _, rfl, rfl, ht3, at1, _, rfl, y, _, 0, _, rfl, rfl, hy3, at0, _, _, rfl, rfl, .inl ⟨by omega, by omega⟩, _, _, rfl, rfl, ?_⟩
    have mp : 0 < p1 * (p2 / (Int.gcd p1 p2 : Int)) := Int.mul_pos (by omega) pp
    refine .inl ⟨_, rfl, _, rfl, _, _, rfl, rfl, mp, _, rfl, two_line, fun z hz => ?_⟩
    obtain ⟨d1, d2⟩ := two_rem g0 (Int.gcd_dvd_left p1 p2) (Int.gcd_dvd_right p1 p2) hx rfl
    exact q _ z _ (sm3.trans (same_upd hz)) (sm3.free hz) upd_same (Int.emod_nonneg _ (by omega)) (Int.emod_lt_of_pos _ mp) d1 d2
end
end K12
namespace K12
open PySem PySem.Spec PyProof.Rows L2
/-! ### loops within comprehensions -/
theorem comp_range {lo : Int} {n : Nat} {H0 : Hp} {Qd : Hp → Prop} {B : V → Hp → (Hp → Prop) → Prop} (Pv : Nat → Hp → Prop) (h0 : Pv 0 H0) (hs : ∀ i H, i < n → Pv i H → B (.int (lo + i)) H (Pv (i + 1))) (hd : ∀ H, Pv n H → Qd H) :
    ∃ W : Nat → Nat → Hp → Prop, (∃ m, W 0 m H0) ∧ ∀ i m H, W i m H → ((Itr lo n).stop i H ∧ Qd H) ∨ ((Itr lo n).go i H ∧ ∃ Nx : Hp → Prop, (∀ H', Nx H' → ∃ m', m' < m ∧ W (i + 1) m' H') ∧ ∀ x H', (Itr lo n).yld i H x H' → B x H' Nx) := by
  refine ⟨fun i m H => m = n - i ∧ i ≤ n ∧ Pv i H, ⟨n, by simp, Nat.zero_le _, h0⟩, ?_⟩
  rintro i m H ⟨rfl, hi, p⟩
  by_cases hlt : i < n
  · refine .inr ⟨hlt, Pv (i + 1), fun H' p' => ⟨n - (i + 1), by omega, rfl, hlt, p'⟩, fun x H' y => ?_⟩
    obtain ⟨e, y⟩ := y
    subst e y
    exact hs i _ hlt p
  · have e : i = n := by omega
    subst e
    exact .inl ⟨Nat.le_refl _, hd H p⟩
theorem comp_list {K : PySem.W.Frag} {a : Addr} {xs : List V} {H0 : Hp} {Qd : Hp → Prop} {B : V → Hp → (Hp → Prop) → Prop} (Pv : Nat → Hp → Prop) (h0 : Pv 0 H0) (hl : ∀ i H, i ≤ xs.length → Pv i H → SqL K H a xs) (hs : ∀ i x H, xs[i]? = some x → Pv i H → B x H (Pv (i + 1))) (hd : ∀ H, Pv xs.length H → Qd H) :
    ∃ W : Nat → Nat → Hp → Prop, (∃ m, W 0 m H0) ∧ ∀ i m H, W i m H → ((Itl K a).stop i H ∧ Qd H) ∨ ((Itl K a).go i H ∧ ∃ Nx : Hp → Prop, (∀ H', Nx H' → ∃ m', m' < m ∧ W (i + 1) m' H') ∧ ∀ x H', (Itl K a).yld i H x H' → B x H' Nx) := by
  refine ⟨fun i m H => m = xs.length - i ∧ i ≤ xs.length ∧ Pv i H, ⟨xs.length, by simp, Nat.zero_le _, h0⟩, ?_⟩
  rintro i m H ⟨rfl, hi, p⟩
  have q := hl i H hi p
  by_cases hlt : i < xs.length
  · refine .inr ⟨⟨xs, xs[i], q, by simp [hlt]⟩, Pv (i + 1), fun H' p' => ⟨xs.length - (i + 1), by omega, rfl, hlt, p'⟩, fun x H' y => ?_⟩
    obtain ⟨e, y⟩ := y
    subst e
    exact hs i x _ (y xs q) p
  · have e : i = xs.length := by omega
    subst e
    exact .inl ⟨⟨xs, q, Nat.le_refl _⟩, hd H p⟩
section
variable {P : Program} {w : World} {K : PySem.W.Frag} {mg : Str → Option Value} {base : Heap}
theorem mkX {x qual : Str} {st : Stmt} {N ps : List Str} {k : Nat} {sp : Sp} (F : ∃ fd, FunD K x qual (defArgs st) (defBody st) (defScope st) [] [] (He.ga K x) fd) (g : mg x = some (.ref (He.ga K x)))
    (b : ∀ (kV doc pm : Value) (an : Option Addr) (cdv ct : Value) (us : List Value), us.length = ps.length → bindArgs (PySem.W.fnOf x qual (defArgs st) (defBody st) (defScope st) .none kV doc pm an cdv ct) ⟨us, []⟩ = pure (ps.zip us))
    (S : FnScope N ps (defScope st)) (len : ∀ vs H Q E, sp vs H Q E → vs.length = ps.length)
    (hbody : ∀ (f : Addr) (cdv : Value) (A : Around) (outer : List Env) (s : Shared) (H : Hp) (vs : List V) (Q : VK) (E : XK), Room k (A.deeper (envOfC qual (defScope st) s.heap.objs.size f cdv)) → sp vs H Q E →
      ∃ t, PSs (cxOf (L2.CX P w) P w K mg base N qual (defScope st) f cdv A outer s H E) (defBody st) t ∧ t { nx := fun _ H' => Q .non H', rt := Q } (start N vs) H) : OkG (L2.CX P w) P w K mg base (k + 1) x ps sp := by
  obtain ⟨fd, F⟩ := F
  exact ⟨_, fd, g, F.kp, F.bindsN b, F.ok S len (hbody _)⟩
theorem mkMX {x qual : Str} {st : Stmt} {C : Addr} {N ps : List Str} {k : Nat} {sp : Sp} (F : ∃ fd, FunD K x qual (defArgs st) (defBody st) (defScope st) [] [] (He.ma K C x) fd) (g : Meth K C x (He.ma K C x))
    (b : ∀ (kV doc pm : Value) (an : Option Addr) (cdv ct : Value) (us : List Value), us.length = ps.length → bindArgs (PySem.W.fnOf x qual (defArgs st) (defBody st) (defScope st) .none kV doc pm an cdv ct) ⟨us, []⟩ = pure (ps.zip us))
    (S : FnScope N ps (defScope st)) (len : ∀ vs H Q E, sp vs H Q E → vs.length = ps.length)
    (hbody : ∀ (f : Addr) (cdv : Value) (A : Around) (outer : List Env) (s : Shared) (H : Hp) (vs : List V) (Q : VK) (E : XK), Room k (A.deeper (envOfC qual (defScope st) s.heap.objs.size f cdv)) → sp vs H Q E →
      ∃ t, PSs (cxOf (L2.CX P w) P w K mg base N qual (defScope st) f cdv A outer s H E) (defBody st) t ∧ t { nx := fun _ H' => Q .non H', rt := Q } (start N vs) H) : OkM (L2.CX P w) P w K mg base (k + 1) C x ps sp := by
  obtain ⟨fd, F⟩ := F
  exact ⟨_, fd, g, F.bindsN b, F.ok S len (hbody _)⟩
/-! is_shift -/
inductive ShV (H : Hp) : V → Bool → Prop where
  | good {t : Addr} {i j : Int} (h : H t = some (.tup [.int i, .int j])) : ShV H (.ref t) true
  | non : ShV H .non false
  | str (z : Str) : ShV H (.str z) false
  | lst {t : Addr} {xs : List V} (h : H t = some (.lst xs)) : ShV H (.ref t) false
  | one {t : Addr} {x : V} (h : H t = some (.tup [x])) : ShV H (.ref t) false
  | boo {t : Addr} {b : Bool} {j : Int} (h : H t = some (.tup [.bl b, .int j])) : ShV H (.ref t) false
theorem sc_is_shift : FnScope ["value"] ["value"] (defScope s_is_shift) := ⟨rfl, rfl, rfl, by decide +kernel, rfl, by decide +kernel, by decide +kernel⟩
def sp_is_shift : Sp := fun vs H Q _ => ∃ v b, vs = [v] ∧ ShV H v b ∧ Q (.bl b) H
theorem ok_is_shift (T : Tx P w K mg base) : OkG CX0 P w K mg base 2 "is_shift" ["value"] sp_is_shift := by
  refine mkG (st := s_is_shift) T.e_is_shift T.g_is_shift (fun _ _ _ _ _ _ us hl => match us, hl with | [_], _ => rfl) sc_is_shift (fun vs H Q E h => ?_) (fun f cdv A outer s H vs Q E hr h => ?_)
  · obtain ⟨v, b, rfl, _⟩ := h
    rfl
  · obtain ⟨v, b, rfl, hv, q⟩ := h
    refine ⟨_, pss_one (ps_ret (pe_and (pe_callB call_isi (by rfl) T.f_isinstance (by decide +kernel) (pa_cons (pv 0) (pa_cons (pe_bltn (v := .ty "tuple") (by rfl) T.f_tuple (by decide +kernel) rfl) pa_nil)))
      (pe_and (pe_cmpR op_eq (xLen T.f_len (pv 0)) pe_int (nomark _))
      (pe_and (pe_g (ok_is_integer T) hr (pa_cons (pe_ix ix_tup (pv 0) pe_int (fun _ _ => rfl)) pa_nil))
      (pe_one (pe_g (ok_is_integer T) hr (pa_cons (pe_ix ix_tup (pv 0) pe_int (fun _ _ => rfl)) pa_nil))))))), ?_⟩
    cases hv with
    | @good t i j h =>
      refine ⟨_, rfl, _, _, _, _, true, rfl, .ty "tuple", .base (.tup h), kit_ty (by decide +kernel), true, rfl, iteT ?_⟩
      refine ⟨_, rfl, _, 2, rfl, .inr ⟨_, sqT_of h, rfl⟩, rfl, true, rfl, iteT ?_⟩
      refine ⟨_, rfl, t, _, 0, _, rfl, rfl, sqT_of h, at0, _, rfl, .inl ⟨⟨i, rfl⟩, true, rfl, iteT ?_⟩⟩
      exact ⟨_, rfl, t, _, 1, _, rfl, rfl, sqT_of h, at1, _, rfl, .inl ⟨⟨j, rfl⟩, q⟩⟩
    | non => exact ⟨_, rfl, _, _, _, _, false, rfl, .ty "tuple", .base .non, kit_ty (by decide +kernel), false, rfl, iteF q⟩
    | str z => exact ⟨_, rfl, _, _, _, _, false, rfl, .ty "tuple", .base (.str z), kit_ty (by decide +kernel), false, rfl, iteF q⟩
    | lst h => exact ⟨_, rfl, _, _, _, _, false, rfl, .ty "tuple", .base (.lst h), kit_ty (by decide +kernel), false, rfl, iteF q⟩
    | one h =>
      refine ⟨_, rfl, _, _, _, _, true, rfl, .ty "tuple", .base (.tup h), kit_ty (by decide +kernel), true, rfl, iteT ?_⟩
      exact ⟨_, rfl, _, 1, rfl, .inr ⟨_, sqT_of h, rfl⟩, rfl, false, rfl, iteF q⟩
    | @boo t b j h =>
      refine ⟨_, rfl, _, _, _, _, true, rfl, .ty "tuple", .base (.tup h), kit_ty (by decide +kernel), true, rfl, iteT ?_⟩
      refine ⟨_, rfl, _, 2, rfl, .inr ⟨_, sqT_of h, rfl⟩, rfl, true, rfl, iteT ?_⟩
      exact ⟨_, rfl, t, _, 0, _, rfl, rfl, sqT_of h, at0, _, rfl, .inr ⟨⟨b, rfl⟩, false, rfl, iteF q⟩⟩
/-! check_shift, check_cell -/
theorem sc_check_shift : FnScope ["value"] ["value"] (defScope s_check_shift) := ⟨rfl, rfl, rfl, by decide +kernel, rfl, by decide +kernel, by decide +kernel⟩
theorem sc_check_cell : FnScope ["value"] ["value"] (defScope s_check_cell) := ⟨rfl, rfl, rfl, by decide +kernel, rfl, by decide +kernel, by decide +kernel⟩
def sp_shift_good : Sp := fun vs H Q _ => ∃ (t : Addr) (i j : Int), vs = [.ref t] ∧ H t = some (.tup [.int i, .int j]) ∧ Q .non H
def partE (K : PySem.W.Frag) (E : XK) (H : Hp) (z : Str) : Prop := ∀ d, H d = none → E (.ref (He.ga K "BadPart")) (some d) (upd H d (.xd [(("part" : Str), .str z)]))
def sp_shift_bad (K : PySem.W.Frag) : Sp := fun vs H _ E => ∃ v, vs = [v] ∧ ShV H v false ∧ partE K E H "shift"
theorem ok_check_shift (T : Tx P w K mg base) : OkG CX0 P w K mg base 3 "check_shift" ["value"] sp_shift_good := by
  refine mkG (st := s_check_shift) T.e_check_shift T.g_check_shift (fun _ _ _ _ _ _ us hl => match us, hl with | [_], _ => rfl) sc_check_shift (fun vs H Q E h => ?_) (fun f cdv A outer s H vs Q E hr h => ?_)
  · obtain ⟨t, i, j, rfl, _⟩ := h
    rfl
  · obtain ⟨t, i, j, rfl, h, q⟩ := h
    refine ⟨_, pss_one (ps_if (pt_not (pt_val (pe_g (ok_is_shift T) hr (pa_cons (pv 0) pa_nil)))) (pss_one ps_never) pss_nil), ?_⟩
    exact ⟨_, rfl, _, _, rfl, .good h, true, rfl, iteF q⟩
theorem ok_check_cell (T : Tx P w K mg base) : OkG CX0 P w K mg base 3 "check_cell" ["value"] sp_shift_good := by
  refine mkG (st := s_check_cell) T.e_check_cell T.g_check_cell (fun _ _ _ _ _ _ us hl => match us, hl with | [_], _ => rfl) sc_check_cell (fun vs H Q E h => ?_) (fun f cdv A outer s H vs Q E hr h => ?_)
  · obtain ⟨t, i, j, rfl, _⟩ := h
    rfl
  · obtain ⟨t, i, j, rfl, h, q⟩ := h
    refine ⟨_, pss_one (ps_if (pt_not (pt_val (pe_g (ok_is_shift T) hr (pa_cons (pv 0) pa_nil)))) (pss_one ps_never) pss_nil), ?_⟩
    exact ⟨_, rfl, _, _, rfl, .good h, true, rfl, iteF q⟩
theorem ok_check_shift_bad (T : Tx P w K mg base) : OkG (L2.CX P w) P w K mg base 3 "check_shift" ["value"] (sp_shift_bad K) := by
  refine mkX (st := s_check_shift) T.e_check_shift T.g_check_shift (fun _ _ _ _ _ _ us hl => match us, hl with | [_], _ => rfl) sc_check_shift (fun vs H Q E h => ?_) (fun f cdv A outer s H vs Q E hr h => ?_)
  · obtain ⟨v, rfl, _⟩ := h
    rfl
  · obtain ⟨v, rfl, h, q⟩ := h
    refine ⟨_, pss_one (ps_if (pt_not (pt_val (pe_g (ok_is_shift T) hr (pa_cons (pv 0) pa_nil)))) (pss_one (ps_raiseBp rfl T.bp hr (takes_of rfl rfl rfl rfl) (by exact (pa_cons pe_str pa_nil)))) pss_nil), ?_⟩
    exact ⟨_, rfl, _, _, rfl, h, false, rfl, iteT ⟨_, rfl, q⟩⟩
/-! check_basis -/
theorem sc_check_basis : FnScope ["a", "b", "d"] ["a", "b", "d"] (defScope s_check_basis) := ⟨rfl, rfl, rfl, by decide +kernel, rfl, by decide +kernel, by decide +kernel⟩
def Bas (a b d : Int) : Prop := 1 ≤ a ∧ 0 ≤ b ∧ b < a ∧ 1 ≤ d
def sp_check_basis : Sp := fun vs H Q _ => ∃ a b d : Int, vs = [.int a, .int b, .int d] ∧ Bas a b d ∧ Q .non H
theorem ok_check_basis (T : Tx P w K mg base) : OkG CX0 P w K mg base 3 "check_basis" ["a", "b", "d"] sp_check_basis := by
  refine mkG (st := s_check_basis) T.e_check_basis T.g_check_basis (fun _ _ _ _ _ _ us hl => match us, hl with | [_, _, _], _ => rfl) sc_check_basis (fun vs H Q E h => ?_) (fun f cdv A outer s H vs Q E hr h => ?_)
  · obtain ⟨a, b, d, rfl, _⟩ := h
    rfl
  · obtain ⟨a, b, d, rfl, ⟨h1, h2, h3, h4⟩, q⟩ := h
    have hr1 : Room 1 _ := hr.mono (by decide)
    refine ⟨_, pss_cons (ps_if (PW.pt (pw_or (pt_not (pt_val (pe_g (ok_is_integer T) hr1 (pa_cons (pv 0) pa_nil)))) (pw_or1 (pt_cmpR op_lt (pv 0) pe_int (nomark _))))) (pss_one ps_never) pss_nil)
      (pss_cons (ps_if (pt_not (pt_val (pe_g (ok_is_between T) hr (pa_cons (pv 1) (pa_cons pe_int (pa_cons (pe_op op_sub (pv 0) pe_int) pa_nil)))))) (pss_one ps_never) pss_nil)
      (pss_one (ps_if (PW.pt (pw_or (pt_not (pt_val (pe_g (ok_is_integer T) hr1 (pa_cons (pv 2) pa_nil)))) (pw_or1 (pt_cmpR op_lt (pv 2) pe_int (nomark _))))) (pss_one ps_never) pss_nil))), ?_⟩
    refine ⟨_, rfl, _, rfl, .inl ⟨⟨a, rfl⟩, true, rfl, iteF ⟨_, rfl, _, _, rfl, rfl, _, rfl, ?_⟩⟩⟩
    rw [decide_eq_false (by omega)]
    refine iteF ⟨_, rfl, _, rfl, _, _, rfl, rfl, b, 0, a - 1, rfl, h2, by omega, true, rfl, iteF ?_⟩
    refine ⟨_, rfl, _, rfl, .inl ⟨⟨d, rfl⟩, true, rfl, iteF ⟨_, rfl, _, _, rfl, rfl, _, rfl, ?_⟩⟩⟩
    rw [decide_eq_false (by omega)]
    exact iteF q
/-! Lattice -/
def latF (a b d : Int) : List (Str × V) := [("a", .int a), ("b", .int b), ("d", .int d)]
theorem latF_eq (a b d : Int) : putF "d" (.int d) (putF "b" (.int b) (putF "a" (.int a) [])) = latF a b d := by rfl
def LatAt (K : PySem.W.Frag) (H : Hp) (p : Addr) (a b d : Int) : Prop := ∃ dx, H p = some (.ins (He.ga K "Lattice") dx (latF a b d))
theorem LatAt.same {H H' : Hp} {p : Addr} {a b d : Int} (h : LatAt K H p a b d) (s : Same H H') : LatAt K H' p a b d := by
  obtain ⟨dx, h⟩ := h
  exact ⟨dx, s _ _ h⟩
theorem sc_Lattice_init : FnScope ["self", "a", "b", "d"] ["self", "a", "b", "d"] (defScope s_Lattice___init__) := ⟨rfl, rfl, rfl, by decide +kernel, rfl, by decide +kernel, by decide +kernel⟩
def sp_lat_init (K : PySem.W.Frag) : Sp := fun vs H Q _ => ∃ (p dx : Addr) (a b d : Int), vs = [.ref p, .int a, .int b, .int d] ∧ H p = some (.ins (He.ga K "Lattice") dx []) ∧ Bas a b d ∧
  ∀ H', LatAt K H' p a b d → (∀ c o, H c = some o → c ≠ p → H' c = some o) → Q .non H'
theorem ok_lat_init (T : Tx P w K mg base) : OkI CX0 P w K mg base 4 (He.ga K "Lattice") ["self", "a", "b", "d"] (sp_lat_init K) := by
  refine mkI (st := s_Lattice___init__) T.e_Lattice___init__ T.mk_Lattice (fun _ _ _ _ _ _ us hl => match us, hl with | [_, _, _, _], _ => rfl) sc_Lattice_init (fun vs H Q E h => ?_) (fun f cdv A outer s H vs Q E hr h => ?_)
  · obtain ⟨p, dx, a, b, d, rfl, _⟩ := h
    rfl
  · obtain ⟨p, dx, a, b, d, rfl, hp, hb, q⟩ := h
    refine ⟨_, pss_cons (ps_expr (pe_g (ok_check_basis T) hr (pa_cons (pv 1) (pa_cons (pv 2) (pa_cons (pv 3) pa_nil)))))
      (pss_cons (ps_fld (pv 0) (pv 1) rfl) (pss_cons (ps_fld (pv 0) (pv 2) rfl) (pss_one (ps_fld (pv 0) (pv 3) rfl)))), ?_⟩
    refine ⟨_, rfl, _, rfl, _, rfl, a, b, d, rfl, hb, ?_⟩
    refine ⟨_, rfl, _, rfl, p, _, dx, _, rfl, hp, T.c_Lattice, T.n_Lattice_a, (by show 0 < 1000; decide), ?_⟩
    refine ⟨_, rfl, _, rfl, p, _, dx, _, rfl, upd_same, T.c_Lattice, T.n_Lattice_b, (by show 1 < 1000; decide), ?_⟩
    refine ⟨_, rfl, _, rfl, p, _, dx, _, rfl, upd_same, T.c_Lattice, T.n_Lattice_d, (by show 2 < 1000; decide), ?_⟩
    refine q _ ⟨dx, ?_⟩ fun c o e nc => ?_
    · rw [upd_same]
      rfl
    · rw [upd_ne nc, upd_ne nc, upd_ne nc]
      exact e
/-- Lattice(a, b, d) made -/
theorem lat_new {H : Hp} {Q : VK} {E : XK} {a b d : Int} (hb : Bas a b d) (q : ∀ H' x, Same H H' → H x = none → LatAt K H' x a b d → Q (.ref x) H') : ∀ x dx, H x = none → H dx = none → dx ≠ x →
    sp_lat_init K (.ref x :: ([.int a, .int b, .int d] ++ [])) (upd (upd H dx (.own x)) x (.ins (He.ga K "Lattice") dx [])) (fun v H2 => v = .non ∧ Q (.ref x) H2) E := by
  intro x dx hx hdx ne
  refine ⟨x, dx, a, b, d, rfl, upd_same, hb, fun H' l k => ⟨rfl, q H' x (fun c o e => ?_) hx l⟩⟩
  have n1 := ne_of_none e hx
  refine k c o ?_ n1
  rw [upd_ne n1, upd_ne (ne_of_none e hdx)]
  exact e
/-! Lattice.place -/
theorem sc_Lattice_place : FnScope ["self", "cell", "x", "y", "many"] ["self", "cell"] (defScope s_Lattice_place) := ⟨rfl, rfl, rfl, by decide +kernel, rfl, by decide +kernel, by decide +kernel⟩
def sp_place (K : PySem.W.Frag) : Sp := fun vs H Q _ => ∃ (p t : Addr) (a b d x y : Int), vs = [.ref p, .ref t] ∧ LatAt K H p a b d ∧ H t = some (.tup [.int x, .int y]) ∧ (Bas a b d ∧ a < 1073741824 ∧ d < 1073741824) ∧
  ∀ H' r, Same H H' → H r = none → H' r = some (.tup [.int ((x - y / d * b) % a), .int (y % d)]) → Q (.ref r) H'
theorem ok_place (T : Tx P w K mg base) : OkM CX0 P w K mg base 4 (He.ga K "Lattice") "place" ["self", "cell"] (sp_place K) := by
  refine mkM (st := s_Lattice_place) T.e_Lattice_place T.m_Lattice_place (fun _ _ _ _ _ _ us hl => match us, hl with | [_, _], _ => rfl) sc_Lattice_place (fun vs H Q E h => ?_) (fun f cdv A outer s H vs Q E hr h => ?_)
  · obtain ⟨p, t, a, b, d, x, y, rfl, _⟩ := h
    rfl
  · obtain ⟨p, t, a, b, d, x, y, rfl, ⟨dx, hp⟩, ht, ⟨⟨h1, h2, h3, h4⟩, h5, h6⟩, q⟩ := h
    have nd := sc_Lattice_place.nd
    refine ⟨_, pss_cons (ps_expr (pe_g (ok_check_cell T) hr (pa_cons (pv 1) pa_nil)))
      (pss_cons (ps_asg (pv 1) (pg_tup (by rfl) (pgs_cons (pg_name (i := 2) nd rfl (.inl rfl)) (pgs_cons (pg_name (i := 3) nd rfl (.inl rfl)) pgs_nil))))
      (pss_cons (ps_set (i := 4) nd rfl (Or.inl rfl) (pe_op op_fdiv (xInt T.f_int (pv 3)) (pe_fld (pv 0) rfl)))
      (pss_one (ps_ret (pe_tup (pa_cons (pe_op op_mod (xInt T.f_int (pe_op op_sub (pv 2) (pe_op op_mul (pv 4) (pe_fld (pv 0) rfl)))) (pe_fld (pv 0) rfl)) (pa_cons (pe_op op_sub (pv 3) (pe_op op_mul (pv 4) (pe_fld (pv 0) rfl))) pa_nil))))))), ?_⟩
    refine ⟨_, rfl, t, x, y, rfl, ht, ?_⟩
    refine ⟨_, rfl, t, _, rfl, sqT_of ht, rfl, _, _, rfl, _, _, rfl, rfl, ?_⟩
    refine ⟨_, rfl, .inl ⟨_, rfl, _, rfl, p, _, dx, _, _, rfl, hp, T.c_Lattice, T.n_Lattice_d, rfl, _, _, rfl, rfl, ⟨by omega, h6⟩, ?_⟩⟩
    refine ⟨_, rfl, _, rfl, _, rfl, p, _, dx, _, _, rfl, hp, T.c_Lattice, T.n_Lattice_b, rfl, _, _, rfl, rfl, .inr ⟨by omega, by omega⟩, _, _, rfl, rfl, .inl ⟨_, rfl, ?_⟩⟩
    refine ⟨_, rfl, p, _, dx, _, _, rfl, hp, T.c_Lattice, T.n_Lattice_a, rfl, _, _, rfl, rfl, by show (0 : Int) < a; omega, ?_⟩
    refine ⟨_, rfl, _, rfl, _, rfl, p, _, dx, _, _, rfl, hp, T.c_Lattice, T.n_Lattice_d, rfl, _, _, rfl, rfl, .inr ⟨by omega, by omega⟩, _, _, rfl, rfl, two_line, fun r hr => ?_⟩
    refine q _ r (same_upd hr) hr ?_
    have e : y - y / d * d = y % d := by
      have := Int.emod_add_mul_ediv y d
      rw [Int.mul_comm]
      omega
    rw [upd_same]
    show some (HO.tup [.int ((x - y / d * b) % a), .int (y - y / d * d)]) = _
    rw [e]
/-! Lattice.places -/
theorem sc_Lattice_places : FnScope ["self", "y", "x"] ["self"] (defScope s_Lattice_places) := ⟨rfl, rfl, rfl, by decide +kernel, rfl, by decide +kernel, by decide +kernel⟩
def PlcAt (H : Hp) (a n : Nat) (ts : List Addr) : Prop := ts.length = n ∧ ∀ k t, ts[k]? = some t → H t = some (.tup [.int ((k % a : Nat) : Int), .int ((k / a : Nat) : Int)])
def sp_places (K : PySem.W.Frag) : Sp := fun vs H Q _ => ∃ (p : Addr) (a d : Nat) (b : Int), vs = [.ref p] ∧ LatAt K H p a b d ∧ (1 ≤ a ∧ a ≤ 1000 ∧ d ≤ 1000) ∧
  ∀ H' r ts, Same H H' → H' r = some (.lst (ts.map V.ref)) → PlcAt H' a (d * a) ts → Q (.ref r) H'
theorem ok_places (T : Tx P w K mg base) : OkM CX0 P w K mg base 1 (He.ga K "Lattice") "places" ["self"] (sp_places K) := by
  refine mkM (st := s_Lattice_places) T.e_Lattice_places T.m_Lattice_places (fun _ _ _ _ _ _ us hl => match us, hl with | [_], _ => rfl) sc_Lattice_places (fun vs H Q E h => ?_) (fun f cdv A outer s H vs Q E hr h => ?_)
  · obtain ⟨p, a, d, b, rfl, _⟩ := h
    rfl
  · obtain ⟨p, a, d, b, rfl, ⟨dx, hp⟩, ⟨h1, h2, h3⟩, q⟩ := h
    have nd := sc_Lattice_places.nd
    refine ⟨_, pss_one (ps_ret (pe_lc2 (own := [("y", 1), ("x", 2)]) (vs1 := [2]) (g := gName 1) (tt := tYes) (wi1 := iRng1 (tCons (tFld K (tVar 0) "a") tNil)) (g1 := gName 2) (tt1 := tYes) (by rfl) nd (pi_range1 rfl T.f_range (pa_cons (pe_fld (pv 0) rfl) pa_nil)) (blkOk_by (N := ["self", "y", "x"]) (sc := defScope s_Lattice_places) (by decide +kernel)) (by decide)
      (fun _ _ _ _ _ => pg_name (i := 1) nd rfl (Or.inl rfl)) (fun _ _ _ _ _ => pts_nil) (fun _ _ _ _ _ => by exact (pi_range1 rfl T.f_range (pa_cons (pe_fld (pv 0) rfl) pa_nil))) (fun _ _ _ _ _ => pg_name (i := 2) nd rfl (Or.inl rfl)) (fun _ _ _ _ _ => pts_nil)
      (fun _ _ _ _ _ => pe_tup (pa_cons (pv 2) (pa_cons (pv 1) pa_nil))))), ?_⟩
    refine ⟨_, rfl, p, _, dx, _, _, rfl, hp, T.c_Lattice, T.n_Lattice_d, rfl, d, rfl, by omega, by omega, fun D hD => ?_⟩
    have szl : ∀ n : Nat, n ≤ 1000000 → n < sizeLine := fun n h => Nat.lt_of_le_of_lt h (by decide)
    refine comp_range (fun i H' => Same H H' ∧ ∃ ts : List Addr, H' D = some (.lst (ts.map V.ref)) ∧ PlcAt H' a (i * a) ts) ⟨same_upd hD, [], upd_same, ?_, ?_⟩ ?_ ?_
    · simp
    · intro k t e
      simp at e
    · rintro i H1 hi ⟨s1, ts, hl, hts⟩
      refine ⟨rfl, ?_⟩
      refine ⟨_, rfl, p, _, dx, _, _, rfl, s1 _ _ hp, T.c_Lattice, T.n_Lattice_a, rfl, a, rfl, by omega, by omega, ?_⟩
      refine comp_range (fun j H' => Same H H' ∧ ∃ ts : List Addr, H' D = some (.lst (ts.map V.ref)) ∧ PlcAt H' a (i * a + j) ts) ⟨s1, ts, hl, hts⟩ ?_ ?_
      · rintro j H2 hj ⟨s2, us, hu, hus, hat⟩
        refine ⟨rfl, _, rfl, _, rfl, two_line, fun t ht => ⟨us.map V.ref, ?_, ?_, ?_, us ++ [t], ?_, ?_, ?_⟩⟩
        · exact tup_free hu ht
        · rw [List.length_map, hus]
          have hj' : j < a := by omega
          have : i * a ≤ 1000 * 1000 := Nat.mul_le_mul (by omega) h2
          refine Nat.lt_of_le_of_lt (show i * a + j ≤ 1001000 by omega) (by decide)
        · intro c o e
          have nc := ne_of_none e hD
          rw [upd_ne nc]
          exact (same_upd ht) _ _ (s2 _ _ e)
        · rw [upd_same, List.map_append]
          rfl
        · rw [List.length_append, hus]
          rfl
        · intro k u e
          have nD : ∀ u o, H2 D = some (.lst o) → ∀ x, (upd H2 t (.tup x)) u = some (.tup x) → True := fun _ _ _ _ _ => trivial
          by_cases hk : k < us.length
          · rw [List.getElem?_append_left hk] at e
            have e1 := hat k u e
            have n1 : u ≠ D := fun z => by rw [z, hu] at e1; cases e1
            rw [upd_ne n1]
            exact tup_free e1 ht
          · rw [List.getElem?_append_right (by omega)] at e
            have ek : k = i * a + j := by
              have := (List.getElem?_eq_some_iff.mp e).1
              simp at this
              omega
            have eu : t = u := by
              rw [ek, hus, Nat.sub_self] at e
              exact Option.some.inj e
            subst eu
            have n1 : t ≠ D := fun z => by rw [z, hu] at ht; cases ht
            rw [upd_ne n1, upd_same]
            have hj' : j < a := by omega
            have m1 : k % a = j := by rw [ek, Nat.add_comm, Nat.add_mul_mod_self_right, Nat.mod_eq_of_lt hj']
            have m2 : k / a = i := by rw [ek, Nat.add_comm, Nat.add_mul_div_right _ _ (by omega), Nat.div_eq_of_lt hj', Nat.zero_add]
            rw [m1, m2]
            simp
      · rintro H2 ⟨s2, us, hu, hus⟩
        refine ⟨s2, us, hu, ?_⟩
        have e : (i + 1) * a = i * a + a := Nat.succ_mul i a
        rw [e]
        simpa using hus
    · rintro H1 ⟨s1, ts, hl, hts⟩
      exact q H1 D ts s1 hl (by simpa using hts)
end
end K12
namespace K12
open PySem PySem.Spec PyProof.Rows L2
/-! ### texts of figures -/
def dg (ds : List Nat) : Str := ⟨(ds.map (· + 48)).toArray⟩
theorem dg_len (ds : List Nat) : (dg ds).length = ds.length := by
  show ((ds.map (· + 48)).toArray).size = _
  simp
theorem dg_cps (ds : List Nat) : (dg ds).cps.toList = ds.map (· + 48) := by
  show ((ds.map (· + 48)).toArray).toList = _
  simp
theorem map48_inj : ∀ {as bs : List Nat}, as.map (· + 48) = bs.map (· + 48) → as = bs
  | [], [], _ => rfl
  | [], _ :: _, h => by simp at h
  | _ :: _, [], h => by simp at h
  | a :: as, b :: bs, h => by
    simp only [List.map_cons, List.cons.injEq] at h
    rw [map48_inj h.2, show a = b by omega]
theorem dg_inj {as bs : List Nat} (h : dg as = dg bs) : as = bs := by
  have e : (dg as).cps.toList = (dg bs).cps.toList := by rw [h]
  rw [dg_cps, dg_cps] at e
  exact map48_inj e
theorem dg_iff {as bs : List Nat} : dg as = dg bs ↔ as = bs := ⟨dg_inj, fun h => by rw [h]⟩
theorem str_ext {a b : Str} (h : a.cps.toList = b.cps.toList) : a = b := by
  obtain ⟨⟨l⟩⟩ := a
  obtain ⟨⟨m⟩⟩ := b
  simp only at h
  rw [h]
theorem app_cps (a b : Str) : (a ++ b).cps.toList = a.cps.toList ++ b.cps.toList := by
  show (a.cps ++ b.cps).toList = _
  simp
theorem dg_app (as bs : List Nat) : dg as ++ dg bs = dg (as ++ bs) := str_ext (by rw [app_cps, dg_cps, dg_cps, dg_cps, List.map_append])
theorem empty_cps : (("" : Str)).cps.toList = [] := by decide +kernel
theorem join_dg : ∀ cs : List Nat, Txt.join "" (cs.map fun c => dg [c]) = dg cs := by
  intro cs
  rw [TL.join_eq]
  induction cs with
  | nil => rfl
  | cons c r ih =>
    cases r with
    | nil => rfl
    | cons d r =>
      show dg [c] ++ "" ++ Str.join "" (dg [d] :: (r.map fun c => dg [c])) = dg (c :: d :: r)
      have ih' : Str.join "" (dg [d] :: (r.map fun c => dg [c])) = dg (d :: r) := ih
      rw [ih']
      refine str_ext ?_
      rw [app_cps, app_cps, empty_cps, List.append_nil, dg_cps, dg_cps, dg_cps]
      rfl
theorem dg_ok {ds : List Nat} (h : ∀ c ∈ ds, c ≤ 9) : PyData.strOk (dg ds) = true := by
  unfold PyData.strOk
  rw [Array.all_eq_true']
  intro x hx
  have hx' : x ∈ (dg ds).cps.toList := by simpa using hx
  rw [dg_cps] at hx'
  obtain ⟨c, hc, rfl⟩ := List.mem_map.mp hx'
  have := h c hc
  exact decide_eq_true (by omega)
theorem line_of {n : Nat} (h : n ≤ 1000000) : n < sizeLine := Nat.lt_of_le_of_lt h (by decide)
theorem line_le {n : Nat} (h : n ≤ 1000000) : n ≤ sizeLine := Nat.le_of_lt (line_of h)
/-- the digit at a place -/
theorem dg_at {ds : List Nat} {i : Nat} {c : Nat} (h : ds[i]? = some c) : atI (dg ds).cps.toList (i : Int) = some (c + 48) := by
  refine atI_nat ?_
  rw [dg_cps, List.getElem?_map, h]
  rfl
theorem dg_one (c : Nat) : dg [c] = ⟨#[c + 48]⟩ := rfl
theorem int_dg {c : Nat} (h : c ≤ 9) : PySem.intText? (dg [c]) = some (c : Int) := by
  have : ∀ c ∈ List.range 10, PySem.intText? (dg [c]) = some (c : Int) := by decide +kernel
  exact this c (List.mem_range.mpr (by omega))
theorem str_dg {c : Nat} (h : c ≤ 9) : ((toString (c : Int) : String) : Str) = dg [c] := by
  have : ∀ c ∈ List.range 10, ((toString (c : Int) : String) : Str) = dg [c] := by decide +kernel
  exact this c (List.mem_range.mpr (by omega))
/-! ### data -/
theorem eqv_int (i j : Int) : PyData.eqv (.int i) (.int j) = (i == j) := by simp [PyData.eqv]
theorem eqv_str (x y : Str) : PyData.eqv (.str x) (.str y) = (x == y) := by simp [PyData.eqv]
theorem eqv_tup (xs ys : List PyData) : PyData.eqv (.tuple xs) (.tuple ys) = PyData.eqvAll xs ys := by simp [PyData.eqv]
theorem eqv_lst (xs ys : List PyData) : PyData.eqv (.list xs) (.list ys) = PyData.eqvAll xs ys := by simp [PyData.eqv]
theorem eqvAll_cons (x y : PyData) (xs ys : List PyData) : PyData.eqvAll (x :: xs) (y :: ys) = (PyData.eqv x y && PyData.eqvAll xs ys) := by simp [PyData.eqvAll]
theorem eqvAll_nil : PyData.eqvAll [] [] = true := by simp [PyData.eqvAll]
theorem eqv_pair (a b c d : Int) : PyData.eqv (.tuple [.int a, .int b]) (.tuple [.int c, .int d]) = decide (a = c ∧ b = d) := by
  rw [eqv_tup, eqvAll_cons, eqvAll_cons, eqvAll_nil, eqv_int, eqv_int, Bool.and_true]
  by_cases h1 : a = c <;> by_cases h2 : b = d <;> simp [h1, h2]
theorem shaped_pair (a b : Int) : SeqAt.shaped (.tuple [.int a, .int b]) = true := by
  simp [SeqAt.shaped, PyData.canLay0, PyData.canLayAll0, PyData.depth, PyData.depthAll]
theorem dp_pair {K : PySem.W.Frag} {H : Hp} {t : Addr} {a b : Int} (h : H t = some (.tup [.int a, .int b])) : Dp K H (.ref t) (.tuple [.int a, .int b]) := .tup (sqT_of h) (.cons (.int _) (.cons (.int _) .nil))
/-! ### a told carpet -/
structure Tol (a b d : Int) (rows : List (List Nat)) : Prop where
  bas : Bas a b d
  len : rows.length = d.toNat
  row : ∀ r ∈ rows, r.length = a.toNat
  fig : ∀ r ∈ rows, ∀ c ∈ r, c ≤ 9
  sz : a * d ≤ 144
theorem Tol.a_le {a b d : Int} {rows : List (List Nat)} (t : Tol a b d rows) : a ≤ 144 := by
  obtain ⟨h1, h2, h3, h4⟩ := t.bas
  have := t.sz
  have : a * 1 ≤ a * d := Int.mul_le_mul_of_nonneg_left h4 (by omega)
  omega
theorem Tol.d_le {a b d : Int} {rows : List (List Nat)} (t : Tol a b d rows) : d ≤ 144 := by
  obtain ⟨h1, h2, h3, h4⟩ := t.bas
  have := t.sz
  have : 1 * d ≤ a * d := Int.mul_le_mul_of_nonneg_right h1 (by omega)
  omega
/-- where a colour stands -/
theorem Tol.at_ {a b d : Int} {rows : List (List Nat)} (t : Tol a b d rows) (x y : Int) : ∃ row, rows[(y % d).toNat]? = some row ∧ row[((x - y / d * b) % a).toNat]? = some (sigR a b d rows x y) ∧ row.length ≤ 144 ∧ sigR a b d rows x y ≤ 9 := by
  obtain ⟨h1, h2, h3, h4⟩ := t.bas
  have al := t.a_le
  have y0 := Int.emod_nonneg y (show d ≠ 0 by omega)
  have y1 := Int.emod_lt_of_pos y (show 0 < d by omega)
  have x0 := Int.emod_nonneg (x - y / d * b) (show a ≠ 0 by omega)
  have x1 := Int.emod_lt_of_pos (x - y / d * b) (show 0 < a by omega)
  have hy : (y % d).toNat < rows.length := by rw [t.len]; omega
  have hm : rows[(y % d).toNat] ∈ rows := List.getElem_mem hy
  have hr := t.row _ hm
  have hx : ((x - y / d * b) % a).toNat < (rows[(y % d).toNat]).length := by rw [hr]; omega
  have e : sigR a b d rows x y = (rows[(y % d).toNat])[((x - y / d * b) % a).toNat] := by
    unfold sigR
    rw [List.getD_eq_getElem?_getD, List.getD_eq_getElem?_getD, List.getElem?_eq_getElem hy, Option.getD_some, List.getElem?_eq_getElem hx, Option.getD_some]
  refine ⟨rows[(y % d).toNat], List.getElem?_eq_getElem hy, ?_, by rw [hr]; omega, ?_⟩
  · rw [e]
    exact List.getElem?_eq_getElem hx
  · rw [e]
    exact t.fig _ hm _ (List.getElem_mem hx)
def rowV (rows : List (List Nat)) : List V := rows.map fun r => .str (dg r)
theorem rowV_at {rows : List (List Nat)} {i : Nat} {r : List Nat} (h : rows[i]? = some r) : (rowV rows)[i]? = some (.str (dg r)) := by
  unfold rowV
  rw [List.getElem?_map, h]
  rfl
theorem rowV_atI {rows : List (List Nat)} {i : Int} {r : List Nat} (h0 : 0 ≤ i) (h : rows[i.toNat]? = some r) : atI (rowV rows) i = some (.str (dg r)) := by
  have e : i = (i.toNat : Int) := (Int.toNat_of_nonneg h0).symm
  rw [e]
  exact atI_nat (rowV_at h)
theorem dg_atI {ds : List Nat} {i : Int} {c : Nat} (h0 : 0 ≤ i) (h : ds[i.toNat]? = some c) : atI (dg ds).cps.toList i = some (c + 48) := by
  have e : i = (i.toNat : Int) := (Int.toNat_of_nonneg h0).symm
  rw [e]
  exact dg_at h
theorem sig_pa {a b d : Int} {rows : List (List Nat)} : per (sigR a b d rows) a 0 := sig_a
theorem Tol.pb {a b d : Int} {rows : List (List Nat)} (t : Tol a b d rows) : per (sigR a b d rows) b d := sig_b (by have := t.bas.2.2.2; omega)
end K12
namespace K12
open PySem PySem.Spec PyProof.Rows L2
section
variable {P : Program} {w : World} {K : PySem.W.Frag} {mg : Str → Option Value} {base : Heap}
theorem kit_self {K : PySem.W.Frag} {C : Addr} : PySem.W.kitOne K (.ref C) (.ref C) = some true := by
  unfold PySem.W.kitOne
  rw [if_pos (beq_self_eq_true _)]
/-! check_lattice -/
theorem sc_check_lattice : FnScope ["value"] ["value"] (defScope s_check_lattice) := ⟨rfl, rfl, rfl, by decide +kernel, rfl, by decide +kernel, by decide +kernel⟩
def sp_check_lattice (K : PySem.W.Frag) : Sp := fun vs H Q _ => ∃ (p : Addr) (a b d : Int), vs = [.ref p] ∧ LatAt K H p a b d ∧ Q .non H
theorem ok_check_lattice (T : Tx P w K mg base) : OkG CX0 P w K mg base 1 "check_lattice" ["value"] (sp_check_lattice K) := by
  refine mkG (st := s_check_lattice) T.e_check_lattice T.g_check_lattice (fun _ _ _ _ _ _ us hl => match us, hl with | [_], _ => rfl) sc_check_lattice (fun vs H Q E h => ?_) (fun f cdv A outer s H vs Q E hr h => ?_)
  · obtain ⟨p, a, b, d, rfl, _⟩ := h
    rfl
  · obtain ⟨p, a, b, d, rfl, ⟨dx, hp⟩, q⟩ := h
    refine ⟨_, pss_one (ps_if (pt_not (pt_val (pe_callB call_isi (by rfl) T.f_isinstance (by decide +kernel) (pa_cons (pv 0) (pa_cons (pe_glob (v := .ref (He.ga K "Lattice")) (by rfl) T.g_Lattice rfl) pa_nil))))) (pss_one ps_never) pss_nil), ?_⟩
    exact ⟨_, rfl, _, _, _, _, true, rfl, .own _, .base (.ins hp T.c_Lattice T.ex.iL.1 T.ex.hn T.ex.tk T.ex.iL.2), kit_self, true, rfl, iteF q⟩
/-! common_lattice -/
theorem sc_common_lattice : FnScope ["one", "other", "up", "first", "second", "share", "many", "found"] ["one", "other"] (defScope s_common_lattice) := ⟨rfl, rfl, rfl, by decide +kernel, rfl, by decide +kernel, by decide +kernel⟩
def sp_common (K : PySem.W.Frag) : Sp := fun vs H Q _ => ∃ (p q : Addr) (a b d a' b' d' : Int), vs = [.ref p, .ref q] ∧ LatAt K H p a b d ∧ LatAt K H q a' b' d' ∧ Bas a b d ∧ Bas a' b' d' ∧ (a ≤ 144 ∧ d ≤ 144 ∧ a' ≤ 144 ∧ d' ≤ 144) ∧
  ∀ H' x A B D, Same H H' → LatAt K H' x A B D → Bas A B D → A ≤ 20736 → D ≤ 3000000 → inL a b d A 0 → inL a' b' d' A 0 → inL a b d B D → inL a' b' d' B D → Q (.ref x) H'
theorem ok_common_lattice (T : Tx P w K mg base) : OkG CX0 P w K mg base 6 "common_lattice" ["one", "other"] (sp_common K) := by
  refine mkG (st := s_common_lattice) T.e_common_lattice T.g_common_lattice (fun _ _ _ _ _ _ us hl => match us, hl with | [_, _], _ => rfl) sc_common_lattice (fun vs H Q E h => ?_) (fun f cdv A outer s H vs Q E hr h => ?_)
  · obtain ⟨p, q, a, b, d, a', b', d', rfl, _⟩ := h
    rfl
  · obtain ⟨p, p', a, b, d, a', b', d', rfl, ⟨dx, hp⟩, ⟨dx', hp'⟩, ⟨h1, h2, h3, h4⟩, ⟨k1, k2, k3, k4⟩, ⟨l1, l2, l3, l4⟩, q⟩ := h
    have nd := sc_common_lattice.nd
    refine ⟨_, pss_cons (ps_expr (pe_g (ok_check_lattice T) (hr.mono (by decide)) (pa_cons (pv 0) pa_nil)))
      (pss_cons (ps_expr (pe_g (ok_check_lattice T) (hr.mono (by decide)) (pa_cons (pv 1) pa_nil)))
      (pss_cons (ps_set (i := 2) nd rfl (Or.inl rfl) (pe_g (ok_least_multiple T) (hr.mono (by decide)) (pa_cons (pe_fld (pv 0) rfl) (pa_cons (pe_fld (pv 1) rfl) pa_nil))))
      (pss_cons (ps_par (i := 3) (j := 4) (by rfl) nd rfl rfl (by decide) rfl rfl (pa_cons (pe_op op_mul (pe_op op_fdiv (pv 2) (pe_fld (pv 0) rfl)) (pe_fld (pv 0) rfl)) (pa_cons (pe_op op_mul (pe_op op_fdiv (pv 2) (pe_fld (pv 1) rfl)) (pe_fld (pv 1) rfl)) pa_nil)) (by rfl))
      (pss_cons (ps_set (i := 5) nd rfl (Or.inl rfl) (pe_g (ok_greatest_divisor T) (hr.mono (by decide)) (pa_cons (pe_fld (pv 0) rfl) (pa_cons (pe_fld (pv 1) rfl) pa_nil))))
      (pss_cons (ps_set (i := 6) nd rfl (Or.inl rfl) (pe_op op_fdiv (pv 5) (pe_g (ok_greatest_divisor T) (hr.mono (by decide)) (pa_cons (pv 5) (pa_cons (pe_op op_sub (pv 3) (pv 4)) pa_nil)))))
      (pss_cons (ps_set (i := 7) nd rfl (Or.inl rfl) (pe_g (ok_both_remainders T) hr (pa_cons (pe_tup (pa_cons (pe_op op_mul (pv 6) (pv 3)) (pa_cons (pe_fld (pv 0) rfl) pa_nil))) (pa_cons (pe_tup (pa_cons (pe_op op_mul (pv 6) (pv 4)) (pa_cons (pe_fld (pv 1) rfl) pa_nil))) pa_nil))))
      (pss_one (ps_ret (pe_k (ok_lat_init T) T.g_Lattice hr (pa_cons (pe_ix ix_tup (pv 7) pe_int (fun _ _ => rfl)) (pa_cons (pe_ix ix_tup (pv 7) pe_int (fun _ _ => rfl)) (pa_cons (pe_op op_mul (pv 6) (pv 2)) pa_nil)))))))))))), ?_⟩
    have cl := T.c_Lattice
    have na := T.n_Lattice_a
    have nb := T.n_Lattice_b
    have nn := T.n_Lattice_d
    refine ⟨_, rfl, p, a, b, d, rfl, ⟨dx, hp⟩, _, rfl, p', a', b', d', rfl, ⟨dx', hp'⟩, ?_⟩
    refine ⟨_, rfl, p, _, dx, _, _, rfl, hp, cl, nn, rfl, _, rfl, p', _, dx', _, _, rfl, hp', cl, nn, rfl, d, d', rfl, ⟨h4, k4, by omega⟩, fun H1 up s1 u1 u2 u0 us => ?_⟩
    have hp1 := s1 _ _ hp
    have hp1' := s1 _ _ hp'
    have dd : d * d' ≤ 144 * 144 := Int.mul_le_mul l2 l4 (by omega) (by omega)
    have q1 : 0 ≤ up / d := Int.ediv_nonneg (by omega) (by omega)
    have q1' : up / d ≤ up := Int.ediv_le_self _ (by omega)
    have q2 : 0 ≤ up / d' := Int.ediv_nonneg (by omega) (by omega)
    have q2' : up / d' ≤ up := Int.ediv_le_self _ (by omega)
    refine ⟨_, rfl, _, rfl, p, _, dx, _, _, rfl, hp1, cl, nn, rfl, _, _, rfl, rfl, ⟨by omega, by omega⟩, _, rfl, p, _, dx, _, _, rfl, hp1, cl, nb, rfl, _, _, rfl, rfl, .inl ⟨by omega, by omega⟩, ?_⟩
    refine ⟨_, rfl, _, rfl, p', _, dx', _, _, rfl, hp1', cl, nn, rfl, _, _, rfl, rfl, ⟨by omega, by omega⟩, _, rfl, p', _, dx', _, _, rfl, hp1', cl, nb, rfl, _, _, rfl, rfl, .inl ⟨by omega, by omega⟩, ?_⟩
    refine ⟨_, _, rfl, ?_⟩
    have f0 : 0 ≤ up / d * b := Int.mul_nonneg q1 h2
    have f1 : up / d * b ≤ 20736 * 144 := Int.mul_le_mul (by omega) (by omega) h2 (by omega)
    have g0 : 0 ≤ up / d' * b' := Int.mul_nonneg q2 k2
    have g1 : up / d' * b' ≤ 20736 * 144 := Int.mul_le_mul (by omega) (by omega) k2 (by omega)
    have sh0 := gcd_pos_of (i := a) (j := a') (.inl (by omega))
    have sh1 := gcd_le_left_of (i := a) (j := a') (by omega)
    refine ⟨_, rfl, p, _, dx, _, _, rfl, hp1, cl, na, rfl, _, rfl, p', _, dx', _, _, rfl, hp1', cl, na, rfl, a, a', rfl, ?_⟩
    have gg0 := gcd_pos_of (i := (Int.gcd a a' : Int)) (j := up / d * b - up / d' * b') (.inl sh0)
    have gg1 := gcd_le_left_of (i := (Int.gcd a a' : Int)) (j := up / d * b - up / d' * b') sh0
    refine ⟨_, rfl, _, rfl, _, rfl, _, rfl, _, _, rfl, rfl, _, _, rfl, _, _, rfl, rfl, ⟨gg0, by omega⟩, ?_⟩
    obtain ⟨m, hm⟩ : ∃ m, m = (Int.gcd a a' : Int) / (Int.gcd (Int.gcd a a' : Int) (up / d * b - up / d' * b') : Int) := ⟨_, rfl⟩
    show gName 6 (V.int ((Int.gcd a a' : Int) / (Int.gcd (Int.gcd a a' : Int) (up / d * b - up / d' * b') : Int))) _ _ _
    rw [← hm]
    have m0 : 0 < m := by
      rw [hm]
      exact Int.ediv_pos_of_pos_of_dvd sh0 (by omega) (Int.gcd_dvd_left _ _)
    have m1 : m ≤ 144 := by
      have : m ≤ (Int.gcd a a' : Int) := by
        rw [hm]
        exact Int.ediv_le_self _ (by omega)
      omega
    have mf : (Int.gcd a a' : Int) ∣ m * (up / d' * b') - m * (up / d * b) := by
      obtain ⟨c, hc⟩ := Int.gcd_dvd_right (Int.gcd a a' : Int) (up / d * b - up / d' * b')
      obtain ⟨e, he⟩ := Int.gcd_dvd_left (Int.gcd a a' : Int) (up / d * b - up / d' * b')
      have em : m = e := by
        rw [hm]
        conv => lhs; arg 1; rw [he]
        exact Int.mul_ediv_cancel_left _ (by omega)
      refine ⟨-c, ?_⟩
      have e1 : m * (up / d' * b') - m * (up / d * b) = -(m * (up / d * b - up / d' * b')) := by
        rw [Int.mul_sub]
        omega
      rw [e1, hc, em, Int.mul_neg]
      congr 1
      rw [← Int.mul_assoc, Int.mul_comm e, ← he]
    have x0 : 0 ≤ m * (up / d * b) := Int.mul_nonneg (by omega) f0
    have x1 : m * (up / d * b) ≤ 144 * (20736 * 144) := Int.mul_le_mul m1 f1 f0 (by omega)
    have y0 : 0 ≤ m * (up / d' * b') := Int.mul_nonneg (by omega) g0
    have y1 : m * (up / d' * b') ≤ 144 * (20736 * 144) := Int.mul_le_mul m1 g1 g0 (by omega)
    refine ⟨_, rfl, _, rfl, _, _, rfl, rfl, .inl ⟨by omega, by omega⟩, _, rfl, p, _, dx, _, _, rfl, hp1, cl, na, rfl, two_line, fun t ht => ?_⟩
    have st := same_upd (o := .tup [.int (m * (up / d * b)), .int a]) ht
    refine ⟨_, rfl, _, rfl, _, _, rfl, rfl, .inl ⟨by omega, by omega⟩, _, rfl, p', _, dx', _, _, rfl, st _ _ hp1', cl, na, rfl, two_line, fun u hu => ?_⟩
    have su := same_upd (o := .tup [.int (m * (up / d' * b')), .int a']) hu
    refine ⟨t, u, _, _, _, _, rfl, su _ _ upd_same, upd_same, ⟨h1, k1, by omega, by omega, by omega, by omega, mf⟩, fun H3 x R s3 nx hx r0 r1 d1 d2 => ?_⟩
    have pp : 1 ≤ a' / (Int.gcd a a' : Int) := by
      have := Int.ediv_pos_of_pos_of_dvd (show 0 < a' by omega) (show (0 : Int) ≤ (Int.gcd a a' : Int) by omega) (Int.gcd_dvd_right a a')
      omega
    have pp2 : a' / (Int.gcd a a' : Int) ≤ a' := Int.ediv_le_self _ (by omega)
    have A1 : 1 ≤ a * (a' / (Int.gcd a a' : Int)) := by
      have := Int.mul_pos (show 0 < a by omega) (show 0 < a' / (Int.gcd a a' : Int) by omega)
      omega
    have A2 : a * (a' / (Int.gcd a a' : Int)) ≤ 144 * 144 := Int.mul_le_mul l1 (by omega) (by omega) (by omega)
    have D1 : 1 ≤ m * up := by
      have := Int.mul_pos m0 u0
      omega
    have D2 : m * up ≤ 144 * 20736 := Int.mul_le_mul m1 (by omega) (by omega) (by omega)
    have dvA : a' ∣ a * (a' / (Int.gcd a a' : Int)) := by
      obtain ⟨e, he⟩ := Int.gcd_dvd_left a a'
      obtain ⟨c, hc⟩ := Int.gcd_dvd_right a a'
      refine ⟨e, ?_⟩
      have : a' / (Int.gcd a a' : Int) = c := by
        conv => lhs; arg 1; rw [hc]
        exact Int.mul_ediv_cancel_left _ (by omega)
      rw [this]
      conv => lhs; rw [he]
      conv => rhs; rw [hc]
      rw [Int.mul_assoc, Int.mul_comm e c, ← Int.mul_assoc]
    refine ⟨_, rfl, x, _, 1, _, rfl, rfl, sqT_of hx, at1, _, rfl, x, _, 0, _, rfl, rfl, sqT_of hx, at0, _, rfl, _, rfl, _, _, rfl, rfl, .inl ⟨by omega, by omega⟩, ?_⟩
    have sA := ((s1.trans st).trans su).trans s3
    obtain ⟨i1, i2, i3, i4⟩ := common_in (a1 := a) (b1 := b) (d1 := d) (a2 := a') (b2 := b') (d2 := d') (up := up) (m := m) (R := R) (M := a * (a' / (Int.gcd a a' : Int))) (by omega) (by omega) u1 u2 ⟨_, rfl⟩ dvA d1 d2
    exact lat_new (K := K) ⟨A1, r0, r1, D1⟩ fun H4 z s4 nz l4 => q H4 z _ _ _ (sA.trans s4) l4 ⟨A1, r0, r1, D1⟩ (by omega) (by omega) i1 i2 i3 i4
/-! Lattice.__contains__ -/
theorem sc_contains : FnScope ["self", "value"] ["self", "value"] (defScope s_Lattice___contains__) := ⟨rfl, rfl, rfl, by decide +kernel, rfl, by decide +kernel, by decide +kernel⟩
def sp_contains (K : PySem.W.Frag) : Sp := fun vs H Q _ => ∃ (p t : Addr) (a b d x y : Int), vs = [.ref p, .ref t] ∧ LatAt K H p a b d ∧ H t = some (.tup [.int x, .int y]) ∧ (Bas a b d ∧ a < 1073741824 ∧ d < 1073741824) ∧
  ∀ H', Same H H' → Q (.bl (decide ((x - y / d * b) % a = 0 ∧ y % d = 0))) H'
theorem ok_contains (T : Tx P w K mg base) : OkM CX0 P w K mg base 5 (He.ga K "Lattice") "__contains__" ["self", "value"] (sp_contains K) := by
  refine mkM (st := s_Lattice___contains__) T.e_Lattice___contains__ T.m_Lattice___contains__ (fun _ _ _ _ _ _ us hl => match us, hl with | [_, _], _ => rfl) sc_contains (fun vs H Q E h => ?_) (fun f cdv A outer s H vs Q E hr h => ?_)
  · obtain ⟨p, t, a, b, d, x, y, rfl, _⟩ := h
    rfl
  · obtain ⟨p, t, a, b, d, x, y, rfl, ⟨dx, hp⟩, ht, hb, q⟩ := h
    refine ⟨_, pss_one (ps_ret (pe_and (pe_g (ok_is_shift T) (hr.mono (by decide)) (pa_cons (pv 1) pa_nil)) (pe_one (pe_cmpR (op_eqD hr.units) (pe_m (ok_place T) T.c_Lattice hr (pv 0) (pa_cons (pv 1) pa_nil)) (pe_tup (pa_cons pe_int (pa_cons pe_int pa_nil))) (nomark _))))), ?_⟩
    refine ⟨_, rfl, _, _, rfl, .good ht, true, rfl, iteT ?_⟩
    refine ⟨_, rfl, p, dx, _, rfl, hp, by rfl, _, rfl, p, t, a, b, d, x, y, rfl, ⟨dx, hp⟩, ht, hb, fun H1 r s1 nr h1 => ?_⟩
    refine ⟨two_line, fun z hz => ?_⟩
    have s2 := same_upd (o := .tup [.int 0, .int 0]) hz
    refine ⟨_, _, dp_pair (s2 _ _ h1), dp_pair upd_same, shaped_pair _ _, shaped_pair _ _, ?_⟩
    rw [eqv_pair]
    exact q _ (s1.trans s2)
/-! sign_at -/
theorem sc_sign_at : FnScope ["lattice", "rows", "cell", "x", "y"] ["lattice", "rows", "cell"] (defScope s_sign_at) := ⟨rfl, rfl, rfl, by decide +kernel, rfl, by decide +kernel, by decide +kernel⟩
def sp_sign_at (K : PySem.W.Frag) : Sp := fun vs H Q _ => ∃ (p r t : Addr) (a b d x y : Int) (rows : List (List Nat)), vs = [.ref p, .ref r, .ref t] ∧ LatAt K H p a b d ∧ H r = some (.tup (rowV rows)) ∧ H t = some (.tup [.int x, .int y]) ∧ Tol a b d rows ∧
  ∀ H', Same H H' → Q (.str (dg [sigR a b d rows x y])) H'
theorem ok_sign_at (T : Tx P w K mg base) : OkG CX0 P w K mg base 5 "sign_at" ["lattice", "rows", "cell"] (sp_sign_at K) := by
  refine mkG (st := s_sign_at) T.e_sign_at T.g_sign_at (fun _ _ _ _ _ _ us hl => match us, hl with | [_, _, _], _ => rfl) sc_sign_at (fun vs H Q E h => ?_) (fun f cdv A outer s H vs Q E hr h => ?_)
  · obtain ⟨p, r, t, a, b, d, x, y, rows, rfl, _⟩ := h
    rfl
  · obtain ⟨p, r, t, a, b, d, x, y, rows, rfl, ⟨dx, hp⟩, hR, ht, tol, q⟩ := h
    have nd := sc_sign_at.nd
    obtain ⟨row, e1, e2, e3, e4⟩ := tol.at_ x y
    have al := tol.a_le
    have dl := tol.d_le
    obtain ⟨b1, b2, b3, b4⟩ := id tol.bas
    refine ⟨_, pss_cons (ps_asg (pe_m (ok_place T) T.c_Lattice hr (pv 0) (pa_cons (pv 2) pa_nil)) (pg_tup (by rfl) (pgs_cons (pg_name (i := 3) nd rfl (.inl rfl)) (pgs_cons (pg_name (i := 4) nd rfl (.inl rfl)) pgs_nil))))
      (pss_one (ps_ret (pe_ix ix_str (pe_ix ix_tup (pv 1) (pv 4) (fun _ _ => rfl)) (pv 3) (fun _ _ => rfl)))), ?_⟩
    refine ⟨_, rfl, p, dx, _, rfl, hp, by rfl, _, rfl, p, t, a, b, d, x, y, rfl, ⟨dx, hp⟩, ht, ⟨tol.bas, by omega, by omega⟩, fun H1 u s1 nu h1 => ?_⟩
    refine ⟨u, _, rfl, sqT_of h1, rfl, _, _, rfl, _, _, rfl, rfl, ?_⟩
    refine ⟨_, rfl, _, rfl, r, _, _, _, rfl, rfl, sqT_of (s1 _ _ hR), rowV_atI (Int.emod_nonneg _ (by omega)) e1, _, rfl, _, _, _, rfl, rfl, ?_, dg_atI (Int.emod_nonneg _ (by omega)) e2, ?_⟩
    · rw [dg_len]
      exact line_le (by omega)
    · exact q _ s1
end
end K12
namespace K12
open PySem PySem.Spec PyProof.Rows L2
/-! ### divisors in order -/
def divsTo (n : Nat) (i : Nat) : List Int := ((List.range i).map fun (i : Nat) => (1 + (i : Int))).filter fun k => decide ((n : Int) % k = 0)
theorem divsTo_succ (n i : Nat) : divsTo n (i + 1) = divsTo n i ++ (if decide ((n : Int) % (1 + (i : Int)) = 0) = true then [1 + (i : Int)] else []) := by
  unfold divsTo
  rw [List.range_succ, List.map_append, List.filter_append, List.map_cons, List.map_nil]
  cases z : decide ((n : Int) % (1 + (i : Int)) = 0) <;> simp only [List.filter, z] <;> rfl
theorem divs_len (n i : Nat) : (divsTo n i).length ≤ i := by
  unfold divsTo
  refine Nat.le_trans (List.length_filter_le _ _) ?_
  simp
theorem divs_mem {n : Nat} {k : Int} : k ∈ divsTo n n ↔ 0 < k ∧ k ≤ n ∧ k ∣ (n : Int) := by
  unfold divsTo
  rw [List.mem_filter, List.mem_map]
  constructor
  · rintro ⟨⟨i, hi, rfl⟩, h⟩
    have := List.mem_range.mp hi
    exact ⟨by omega, by omega, Int.dvd_of_emod_eq_zero (of_decide_eq_true h)⟩
  · rintro ⟨h0, h1, h2⟩
    exact ⟨⟨(k - 1).toNat, List.mem_range.mpr (by omega), by omega⟩, decide_eq_true (Int.emod_eq_zero_of_dvd h2)⟩
theorem divs_sorted (n : Nat) : (divsTo n n).Pairwise (· < ·) := by
  unfold divsTo
  refine List.Pairwise.filter _ ?_
  rw [List.pairwise_map]
  exact List.pairwise_lt_range.imp fun h => by omega
/-- a smaller divisor stands ahead -/
theorem divs_ahead {n : Nat} {i : Nat} {k j : Int} (h : (divsTo n n)[i]? = some k) (j0 : 0 < j) (jk : j < k) (jd : j ∣ (n : Int)) : j ∈ (divsTo n n).take i := by
  obtain ⟨hi, e⟩ := List.getElem?_eq_some_iff.mp h
  have hk := divs_mem.mp (e ▸ List.getElem_mem hi)
  have hj : j ∈ divsTo n n := divs_mem.mpr ⟨j0, by omega, jd⟩
  obtain ⟨m, hm, ej⟩ := List.mem_iff_getElem.mp hj
  have s := List.pairwise_iff_getElem.mp (divs_sorted n)
  have lt : m < i := by
    rcases Nat.lt_trichotomy m i with z | z | z
    · exact z
    · subst z
      omega
    · have := s i m hi hm z
      omega
  rw [List.mem_iff_getElem]
  exact ⟨m, by rw [List.length_take]; omega, by rw [List.getElem_take]; exact ej⟩
theorem take_succ_mem {α : Type} {l : List α} {i : Nat} {x y : α} (h : l[i]? = some x) (hy : y ∈ l.take (i + 1)) : y ∈ l.take i ∨ y = x := by
  rw [List.take_add_one, h] at hy
  rcases List.mem_append.mp hy with z | z
  · exact .inl z
  · right
    simpa using z
section
variable {X : Cx} {k : Nat} {ps : List Str} {sp : Sp} {m : Str} {C : Addr} {pos apos : Pos} {o : Expr} {ta : TE}
theorem pe_m0 {pl : Sem Bool} (O : OkM CX0 X.prog X.w X.K X.mg X.base k C m ps sp) (c : Cls X.K C) (hr : Room k X.A) (he : PE X o ta)
    (ht : eval (.Call (.Attribute o m apos) [] [] pos) X.env = (do
      let ov ← eval o X.env
      standAt apos.atName
      let (f, first) ← holding [ov] (getMethod ov m pl)
      callWith pos f first (backTo pos (starEach [] X.env)) (backToKw pos (keywordEach [] X.env))) := by rfl) :
    PE X (.Call (.Attribute o m apos) [] [] pos) (tMeth C m sp [] E0 ta tNil) := by
  obtain ⟨f, fd, h1, h3, h4⟩ := O
  exact pe_meth0 he c h1 h4 hr h3 .nil pass0 ht
end
section
variable {P : Program} {w : World} {K : PySem.W.Frag} {mg : Str → Option Value} {base : Heap}
abbrev rPlus : R2 := rI0 fun i j => .int (i + j)
/-! is_period_of -/
theorem sc_is_period_of : FnScope ["lattice", "rows", "shift", "x", "y", "places", "place"] ["lattice", "rows", "shift"] (defScope s_is_period_of) := ⟨rfl, rfl, rfl, by decide +kernel, rfl, by decide +kernel, by decide +kernel⟩
def sp_is_period_of (K : PySem.W.Frag) : Sp := fun vs H Q _ => ∃ (p r t : Addr) (a b d x y : Int) (rows : List (List Nat)), vs = [.ref p, .ref r, .ref t] ∧ LatAt K H p a b d ∧ H r = some (.tup (rowV rows)) ∧ H t = some (.tup [.int x, .int y]) ∧ Tol a b d rows ∧
  ∀ H' c, Same H H' → (c = true ↔ per (sigR a b d rows) x y) → Q (.bl c) H'
theorem sameD {H H' : Hp} {D : Addr} {o : HO} (s : Same H H') (n : H D = none) : Same H (upd H' D o) := fun b x e => by
  rw [upd_ne (ne_of_none e n)]
  exact s _ _ e
theorem ok_is_period_of (T : Tx P w K mg base) : OkG CX0 P w K mg base 6 "is_period_of" ["lattice", "rows", "shift"] (sp_is_period_of K) := by
  refine mkG (st := s_is_period_of) T.e_is_period_of T.g_is_period_of (fun _ _ _ _ _ _ us hl => match us, hl with | [_, _, _], _ => rfl) sc_is_period_of (fun vs H Q E h => ?_) (fun f cdv A outer s H vs Q E hr h => ?_)
  · obtain ⟨p, r, t, a, b, d, x, y, rows, rfl, _⟩ := h
    rfl
  · obtain ⟨p, r, t, a, b, d, x, y, rows, rfl, ⟨dx, hp⟩, hR, ht, tol, q⟩ := h
    have nd := sc_is_period_of.nd
    have al := tol.a_le
    have dl := tol.d_le
    obtain ⟨b1, b2, b3, b4⟩ := id tol.bas
    refine ⟨_, pss_cons (ps_asg (pv 2) (pg_tup (by rfl) (pgs_cons (pg_name (i := 3) nd rfl (.inr rfl)) (pgs_cons (pg_name (i := 4) nd rfl (.inr rfl)) pgs_nil))))
      (pss_cons (ps_set (i := 5) nd rfl (Or.inl rfl) (pe_m0 (ok_places T) T.c_Lattice (hr.mono (by decide)) (pv 0)))
      (pss_one (ps_ret (pe_callB (cr_all rfl) (by rfl) T.f_all (by decide +kernel) (pa_cons (pe_lc (own := [("place", 6)]) (g := gName 6) (tt := tYes)
        (te := tOp rEq (tCall (sp_sign_at K) [] E0 (tCons (tVar 0) (tCons (tVar 1) (tCons (tVar 6) tNil)))) (tCall (sp_sign_at K) [] E0 (tCons (tVar 0) (tCons (tVar 1) (tCons (tTup (tCons (tOp rPlus (tOp (rIxT K) (tVar 6) (tC (.int 0))) (tVar 3)) (tCons (tOp rPlus (tOp (rIxT K) (tVar 6) (tC (.int 1))) (tVar 4)) tNil))) tNil)))))
        (by rfl) nd (pi_list (pv 5)) (blkOk_by (N := ["lattice", "rows", "shift", "x", "y", "places", "place"]) (sc := defScope s_is_period_of) (by decide +kernel)) (fun _ _ _ _ _ => pg_name (i := 6) nd rfl (Or.inl rfl)) (fun _ _ _ _ _ => pts_nil)
        (fun _ _ _ _ _ => pe_cmpR op_eq (pe_g (ok_sign_at T) hr (pa_cons (pv 0) (pa_cons (pv 1) (pa_cons (pv 6) pa_nil))))
          (pe_g (ok_sign_at T) hr (pa_cons (pv 0) (pa_cons (pv 1) (pa_cons (pe_tup (pa_cons (pe_op op_add (pe_ix ix_tup (pv 6) pe_int (fun _ _ => rfl)) (pv 3)) (pa_cons (pe_op op_add (pe_ix ix_tup (pv 6) pe_int (fun _ _ => rfl)) (pv 4)) pa_nil))) pa_nil)))) (nomark _))) pa_nil))))), ?_⟩
    refine ⟨_, rfl, t, _, rfl, sqT_of ht, rfl, _, _, rfl, _, _, rfl, rfl, ?_⟩
    have ea : ((a.toNat : Nat) : Int) = a := Int.toNat_of_nonneg (by omega)
    have ed : ((d.toNat : Nat) : Int) = d := Int.toNat_of_nonneg (by omega)
    refine ⟨_, rfl, p, dx, _, rfl, hp, by rfl, p, a.toNat, d.toNat, b, rfl, ⟨dx, by rw [ea, ed]; exact hp⟩, ⟨by omega, by omega, by omega⟩, fun H1 c ts s1 hc hts => ?_⟩
    refine ⟨_, rfl, c, rfl, ⟨_, sqL_of hc⟩, fun D hD => ?_⟩
    let bs : Nat → List Bool := fun n => (List.range n).map fun k => decide (sigR a b d rows ((k % a.toNat : Nat) : Int) ((k / a.toNat : Nat) : Int) = sigR a b d rows (((k % a.toNat : Nat) : Int) + x) (((k / a.toNat : Nat) : Int) + y))
    refine lc_list (K := K) (a := c) (xs := ts.map V.ref) (fun n H' => Same H1 H' ∧ H' D = some (.lst ((bs n).map V.bl))) ⟨same_upd hD, upd_same⟩ (fun n H' _ ⟨sm, _⟩ => sqL_of (sm _ _ hc)) ?_ ?_
    · rintro n z H2 hz ⟨s2, hl⟩
      obtain ⟨u, hu, rfl⟩ : ∃ u, ts[n]? = some u ∧ z = V.ref u := by
        rw [List.getElem?_map] at hz
        cases e : ts[n]? with
        | none => rw [e] at hz; cases hz
        | some u => rw [e] at hz; exact ⟨u, rfl, (Option.some.inj hz).symm⟩
      have hu2 := s2 _ _ (hts.2 n u hu)
      have s12 := s1.trans s2
      have hn : n < d.toNat * a.toNat := by
        have := (List.getElem?_eq_some_iff.mp hu).1
        rw [hts.1] at this
        exact this
      refine ⟨rfl, _, rfl, _, rfl, _, rfl, p, r, u, a, b, d, _, _, rows, rfl, ⟨dx, s12 _ _ hp⟩, s12 _ _ hR, hu2, tol, fun H3 s3 => ?_⟩
      have hu3 := sqT_of (K := K) (s3 _ _ hu2)
      refine ⟨_, rfl, _, rfl, _, rfl, u, _, 0, _, rfl, rfl, hu3, at0, _, rfl, _, _, rfl, rfl, _, rfl, u, _, 1, _, rfl, rfl, hu3, at1, _, rfl, _, _, rfl, rfl, two_line, fun v hv => ?_⟩
      have s4 := s3.trans (same_upd (o := .tup [.int (((n % a.toNat : Nat) : Int) + x), .int (((n / a.toNat : Nat) : Int) + y)]) hv)
      have s124 := s12.trans s4
      refine ⟨p, r, v, a, b, d, _, _, rows, rfl, ⟨dx, s124 _ _ hp⟩, s124 _ _ hR, upd_same, tol, fun H5 s5 => ?_⟩
      have s25 : Same H2 H5 := s4.trans s5
      refine ⟨rfl, _, s25 _ _ hl, ?_, sameD (s2.trans s25) hD, ?_⟩
      · simp only [bs, List.length_map, List.length_range]
        have : d.toNat * a.toNat ≤ 144 * 144 := Nat.mul_le_mul (by omega) (by omega)
        exact line_of (by omega)
      · rw [upd_same]
        have e : bs (n + 1) = bs n ++ [decide (sigR a b d rows ((n % a.toNat : Nat) : Int) ((n / a.toNat : Nat) : Int) = sigR a b d rows (((n % a.toNat : Nat) : Int) + x) (((n / a.toNat : Nat) : Int) + y))] := by
          simp only [bs, List.range_succ, List.map_append, List.map_cons, List.map_nil]
        rw [e, List.map_append]
        congr 3
        show [V.bl _] = [V.bl _]
        congr 2
        by_cases z : sigR a b d rows ((n % a.toNat : Nat) : Int) ((n / a.toNat : Nat) : Int) = sigR a b d rows (((n % a.toNat : Nat) : Int) + x) (((n / a.toNat : Nat) : Int) + y)
        · rw [decide_eq_true z, z, decide_eq_true rfl]
        · rw [decide_eq_false z, decide_eq_false]
          intro k
          exact z (List.cons.inj (dg_inj (V.str.inj k))).1
    · rintro H2 ⟨s2, hl⟩
      rw [List.length_map, hts.1] at hl
      refine ⟨D, _, rfl, sqL_of hl, q _ _ (s1.trans s2) ?_⟩
      simp only [bs, List.all_map, List.all_eq_true, Function.comp, id, List.mem_range, decide_eq_true_eq]
      constructor
      · intro h
        refine per_box (a := a) (d := d) (b := b) (by omega) (by omega) sig_a tol.pb fun u v u0 u1 v0 v1 => ?_
        have k := h (v.toNat * a.toNat + u.toNat) (by
          have : (v.toNat + 1) * a.toNat ≤ d.toNat * a.toNat := Nat.mul_le_mul_right _ (by omega)
          rw [Nat.succ_mul] at this
          omega)
        have m1 : (v.toNat * a.toNat + u.toNat) % a.toNat = u.toNat := by rw [Nat.add_comm, Nat.add_mul_mod_self_right, Nat.mod_eq_of_lt (by omega)]
        have m2 : (v.toNat * a.toNat + u.toNat) / a.toNat = v.toNat := by rw [Nat.add_comm, Nat.add_mul_div_right _ _ (by omega), Nat.div_eq_of_lt (by omega), Nat.zero_add]
        rw [m1, m2, Int.toNat_of_nonneg u0, Int.toNat_of_nonneg v0] at k
        exact k
      · intro h k _
        exact (h _ _).symm
/-! divisors_of -/
theorem sc_divisors_of : FnScope ["number", "one"] ["number"] (defScope s_divisors_of) := ⟨rfl, rfl, rfl, by decide +kernel, rfl, by decide +kernel, by decide +kernel⟩
def sp_divisors_of : Sp := fun vs H Q _ => ∃ n : Nat, vs = [.int n] ∧ n ≤ 1000 ∧ ∀ H' r, Same H H' → H' r = some (.lst ((divsTo n n).map V.int)) → Q (.ref r) H'
theorem ok_divisors_of (T : Tx P w K mg base) : OkG CX0 P w K mg base 1 "divisors_of" ["number"] sp_divisors_of := by
  refine mkG (st := s_divisors_of) T.e_divisors_of T.g_divisors_of (fun _ _ _ _ _ _ us hl => match us, hl with | [_], _ => rfl) sc_divisors_of (fun vs H Q E h => ?_) (fun f cdv A outer s H vs Q E hr h => ?_)
  · obtain ⟨n, rfl, _⟩ := h
    rfl
  · obtain ⟨n, rfl, hn, q⟩ := h
    have nd := sc_divisors_of.nd
    refine ⟨_, pss_one (ps_ret (pe_lc (own := [("one", 1)]) (g := gName 1) (by rfl) nd (pi_range2 (by rfl) T.f_range (pa_cons pe_int (pa_cons (pe_op op_add (pv 0) pe_int) pa_nil))) (blkOk_by (N := ["number", "one"]) (sc := defScope s_divisors_of) (by decide +kernel)) (fun _ _ _ _ _ => pg_name (i := 1) nd rfl (Or.inl rfl))
      (fun _ _ _ _ _ => pts_one (pt_cmpR op_eq (pe_op op_mod (xInt T.f_int (pv 0)) (pv 1)) pe_int (nomark _))) (fun _ _ _ _ _ => pv 1))), ?_⟩
    refine ⟨_, rfl, _, _, rfl, rfl, 1, n + 1, rfl, ⟨by omega, by omega, by omega, by omega⟩, fun D hD => ?_⟩
    have en : ((n : Int) + 1 - 1).toNat = n := by omega
    rw [en]
    refine lc_range (fun i H' => Same H H' ∧ H' D = some (.lst ((divsTo n i).map V.int))) ⟨same_upd hD, upd_same⟩ ?_ ?_
    · rintro i H1 hi ⟨s1, hl⟩
      refine ⟨rfl, _, rfl, .inl ⟨_, rfl, _, rfl, _, _, rfl, rfl, by show (0 : Int) < 1 + i; omega, rfl, _, rfl, ?_⟩⟩
      have ed : decide (V.int ((n : Int) % (1 + (i : Int))) = V.int 0) = decide ((n : Int) % (1 + (i : Int)) = 0) := by
        by_cases z : (n : Int) % (1 + (i : Int)) = 0
        · rw [decide_eq_true z, decide_eq_true (by rw [z])]
        · rw [decide_eq_false z, decide_eq_false (fun k => z (V.int.inj k))]
      rw [ed]
      by_cases z : (n : Int) % (1 + (i : Int)) = 0
      · rw [decide_eq_true z]
        refine iteT ⟨_, rfl, _, hl, ?_, sameD s1 hD, ?_⟩
        · rw [List.length_map]
          exact line_of (by have := divs_len n i; omega)
        · rw [upd_same, divsTo_succ, decide_eq_true z, if_pos rfl, List.map_append]
          rfl
      · rw [decide_eq_false z]
        refine iteF ⟨s1, ?_⟩
        rw [divsTo_succ, decide_eq_false z, if_neg (by decide), List.append_nil]
        exact hl
    · rintro H1 ⟨s1, hl⟩
      exact q H1 D s1 hl
/-! level_period -/
theorem sc_level_period : FnScope ["lattice", "rows", "a"] ["lattice", "rows"] (defScope s_level_period) := ⟨rfl, rfl, rfl, by decide +kernel, rfl, by decide +kernel, by decide +kernel⟩
def LevelIs (f : Col) (a k : Int) : Prop := 0 < k ∧ k ≤ a ∧ k ∣ a ∧ per f k 0 ∧ ∀ j, 0 < j → j < k → j ∣ a → ¬ per f j 0
def sp_level_period (K : PySem.W.Frag) : Sp := fun vs H Q _ => ∃ (p r : Addr) (a b d : Int) (rows : List (List Nat)), vs = [.ref p, .ref r] ∧ LatAt K H p a b d ∧ H r = some (.tup (rowV rows)) ∧ Tol a b d rows ∧
  ∀ H' k, Same H H' → LevelIs (sigR a b d rows) a k → Q (.int k) H'
theorem ok_level_period (T : Tx P w K mg base) : OkG CX0 P w K mg base 7 "level_period" ["lattice", "rows"] (sp_level_period K) := by
  refine mkG (st := s_level_period) T.e_level_period T.g_level_period (fun _ _ _ _ _ _ us hl => match us, hl with | [_, _], _ => rfl) sc_level_period (fun vs H Q E h => ?_) (fun f cdv A outer s H vs Q E hr h => ?_)
  · obtain ⟨p, r, a, b, d, rows, rfl, _⟩ := h
    rfl
  · obtain ⟨p, r, a, b, d, rows, rfl, ⟨dx, hp⟩, hR, tol, q⟩ := h
    have nd := sc_level_period.nd
    have al := tol.a_le
    obtain ⟨b1, b2, b3, b4⟩ := id tol.bas
    refine ⟨_, pss_cons (ps_for PassesOwn.never rfl (pi_list (pe_g (ok_divisors_of T) (hr.mono (by decide)) (pa_cons (pe_fld (pv 0) rfl) pa_nil))) (pg_name (i := 2) nd rfl (Or.inl rfl))
        (pss_one (ps_if (pt_val (pe_g (ok_is_period_of T) hr (pa_cons (pv 0) (pa_cons (pv 1) (pa_cons (pe_tup (pa_cons (pv 2) (pa_cons pe_int pa_nil))) pa_nil))))) (pss_one (ps_ret (pv 2))) pss_nil)))
      (pss_one (ps_ret (pe_fld (pv 0) rfl))), ?_⟩
    have ea : ((a.toNat : Nat) : Int) = a := Int.toNat_of_nonneg (by omega)
    refine ⟨_, rfl, p, _, dx, _, _, rfl, hp, T.c_Lattice, T.n_Lattice_a, rfl, a.toNat, by rw [ea]; rfl, by omega, fun H1 c s1 hc => ?_⟩
    refine ⟨c, rfl, ⟨_, sqL_of hc⟩, for_list (K := K) (a := c) (xs := (divsTo a.toNat a.toNat).map V.int) (fun i σ H' => (∃ o, σ = [some (.ref p), some (.ref r), o]) ∧ Same H1 H' ∧ ∀ j ∈ (divsTo a.toNat a.toNat).take i, ¬ per (sigR a b d rows) j 0) ⟨⟨_, rfl⟩, Same.refl _, fun j hj => by simp at hj⟩ (fun i σ H' _ ⟨_, s2, _⟩ => sqL_of (s2 _ _ hc)) ?_ ?_⟩
    · rintro i z σ H2 hz ⟨⟨o, rfl⟩, s2, hno⟩
      obtain ⟨k, hk, rfl⟩ : ∃ k, (divsTo a.toNat a.toNat)[i]? = some k ∧ z = V.int k := by
        rw [List.getElem?_map] at hz
        cases e : (divsTo a.toNat a.toNat)[i]? with
        | none => rw [e] at hz; cases hz
        | some u => rw [e] at hz; exact ⟨u, rfl, (Option.some.inj hz).symm⟩
      have hkm := divs_mem.mp (List.mem_of_getElem? hk)
      rw [ea] at hkm
      have s12 := s1.trans s2
      refine ⟨_, rfl, _, rfl, _, rfl, two_line, fun t ht => ?_⟩
      have s3 := same_upd (o := .tup [.int k, .int 0]) ht
      have s13 := s12.trans s3
      refine ⟨p, r, t, a, b, d, k, 0, rows, rfl, ⟨dx, s13 _ _ hp⟩, s13 _ _ hR, upd_same, tol, fun H4 cc s4 hcc => ⟨cc, rfl, ?_⟩⟩
      cases cc with
      | true =>
        refine iteT ⟨_, rfl, q _ k (s13.trans s4) ⟨hkm.1, hkm.2.1, hkm.2.2, hcc.mp rfl, fun j j0 jk jd => hno j (divs_ahead hk j0 jk (by rw [ea]; exact jd))⟩⟩
      | false =>
        refine iteF ⟨⟨_, rfl⟩, (s2.trans s3).trans s4, fun j hj => ?_⟩
        rcases take_succ_mem hk hj with hj | hj
        · exact hno j hj
        · subst hj
          exact fun z => by have := hcc.mpr z; cases this
    · rintro σ H2 ⟨⟨o, rfl⟩, s2, hno⟩
      rw [List.length_map, List.take_length] at hno
      refine absurd sig_pa (hno a (divs_mem.mpr ⟨by omega, by omega, ?_⟩))
      rw [ea]
      exact Int.dvd_refl a
/-! least_lattice -/
theorem sc_least_lattice : FnScope ["lattice", "rows", "a", "d", "b"] ["lattice", "rows"] (defScope s_least_lattice) := ⟨rfl, rfl, rfl, by decide +kernel, rfl, by decide +kernel, by decide +kernel⟩
def sp_least_lattice (K : PySem.W.Frag) : Sp := fun vs H Q _ => ∃ (p r : Addr) (a b d : Int) (rows : List (List Nat)), vs = [.ref p, .ref r] ∧ LatAt K H p a b d ∧ H r = some (.tup (rowV rows)) ∧ Tol a b d rows ∧
  ∀ H' x a' b' d', Same H H' → H x = none → LatAt K H' x a' b' d' → Lst (sigR a b d rows) a' b' d' → a' ≤ a → d' ≤ d → Q (.ref x) H'
theorem ok_least_lattice (T : Tx P w K mg base) : OkG CX0 P w K mg base 8 "least_lattice" ["lattice", "rows"] (sp_least_lattice K) := by
  refine mkG (st := s_least_lattice) T.e_least_lattice T.g_least_lattice (fun _ _ _ _ _ _ us hl => match us, hl with | [_, _], _ => rfl) sc_least_lattice (fun vs H Q E h => ?_) (fun f cdv A outer s H vs Q E hr h => ?_)
  · obtain ⟨p, r, a, b, d, rows, rfl, _⟩ := h
    rfl
  · obtain ⟨p, r, a, b, d, rows, rfl, ⟨dx, hp⟩, hR, tol, q⟩ := h
    have nd := sc_least_lattice.nd
    have al := tol.a_le
    have dl := tol.d_le
    obtain ⟨b1, b2, b3, b4⟩ := id tol.bas
    refine ⟨_, pss_cons (ps_set (i := 2) nd rfl (Or.inl rfl) (pe_g (ok_level_period T) hr (pa_cons (pv 0) (pa_cons (pv 1) pa_nil))))
      (pss_cons (ps_for PassesOwn.never rfl (pi_list (pe_g (ok_divisors_of T) (hr.mono (by decide)) (pa_cons (pe_fld (pv 0) rfl) pa_nil))) (pg_name (i := 3) nd rfl (Or.inl rfl))
        (pss_one (ps_for PassesOwn.never rfl (pi_range1 rfl T.f_range (pa_cons (pv 2) pa_nil)) (pg_name (i := 4) nd rfl (Or.inl rfl))
          (pss_one (ps_if (pt_val (pe_g (ok_is_period_of T) (hr.mono (by decide)) (pa_cons (pv 0) (pa_cons (pv 1) (pa_cons (pe_tup (pa_cons (pv 4) (pa_cons (pv 3) pa_nil))) pa_nil)))))
            (pss_one (ps_ret (pe_k (ok_lat_init T) T.g_Lattice (hr.mono (by decide)) (pa_cons (pv 2) (pa_cons (pv 4) (pa_cons (pv 3) pa_nil)))))) pss_nil)))))
      (pss_one (ps_ret (pv 0)))), ?_⟩
    have ed : ((d.toNat : Nat) : Int) = d := Int.toNat_of_nonneg (by omega)
    refine ⟨_, rfl, _, rfl, p, r, a, b, d, rows, rfl, ⟨dx, hp⟩, hR, tol, fun H0 k s0 hlev => ?_⟩
    obtain ⟨k0, k1, k2, k3, k4⟩ := id hlev
    have hp0 := s0 _ _ hp
    refine ⟨_, rfl, p, _, dx, _, _, rfl, hp0, T.c_Lattice, T.n_Lattice_d, rfl, d.toNat, by rw [ed]; rfl, by omega, fun H1 c s1' hc => ?_⟩
    have s1 := s0.trans s1'
    refine ⟨c, rfl, ⟨_, sqL_of hc⟩, for_list (K := K) (a := c) (xs := (divsTo d.toNat d.toNat).map V.int) (fun i σ H' => (∃ o o', σ = [some (.ref p), some (.ref r), some (.int k), o, o']) ∧ Same H1 H' ∧ ∀ j ∈ (divsTo d.toNat d.toNat).take i, ∀ c, 0 ≤ c → c < k → ¬ per (sigR a b d rows) c j) ⟨⟨_, _, rfl⟩, Same.refl _, fun j hj => by simp at hj⟩ (fun i σ H' _ ⟨_, s2, _⟩ => sqL_of (s2 _ _ hc)) ?_ ?_⟩
    · rintro i z σ H2 hz ⟨⟨o, o', rfl⟩, s2, hno⟩
      obtain ⟨dd, hdd, rfl⟩ : ∃ k, (divsTo d.toNat d.toNat)[i]? = some k ∧ z = V.int k := by
        rw [List.getElem?_map] at hz
        cases e : (divsTo d.toNat d.toNat)[i]? with
        | none => rw [e] at hz; cases hz
        | some u => rw [e] at hz; exact ⟨u, rfl, (Option.some.inj hz).symm⟩
      have hkm := divs_mem.mp (List.mem_of_getElem? hdd)
      rw [ed] at hkm
      refine ⟨_, rfl, k, rfl, by omega, by omega, for_range (lo := 0) (n := k.toNat) (fun j σ H' => (∃ o', σ = [some (.ref p), some (.ref r), some (.int k), some (.int dd), o']) ∧ Same H1 H' ∧ ∀ c : Int, 0 ≤ c → c < j → ¬ per (sigR a b d rows) c dd) ⟨⟨_, rfl⟩, s2, fun c c0 c1 => by omega⟩ ?_ ?_⟩
      · rintro j σ H3 hj ⟨⟨o', rfl⟩, s3, hnb⟩
        have s13 := s1.trans s3
        refine ⟨_, rfl, _, rfl, _, rfl, _, rfl, two_line, fun t ht => ?_⟩
        have s4 := same_upd (o := .tup [.int (0 + j), .int dd]) ht
        have s14 := s13.trans s4
        refine ⟨p, r, t, a, b, d, 0 + j, dd, rows, rfl, ⟨dx, s14 _ _ hp⟩, s14 _ _ hR, upd_same, tol, fun H5 cc s5 hcc => ⟨cc, rfl, ?_⟩⟩
        rw [Int.zero_add] at hcc
        cases cc with
        | true =>
          refine iteT ⟨_, rfl, _, rfl, _, rfl, ?_⟩
          have bb : Bas k (0 + (j : Int)) dd := ⟨by omega, by omega, by omega, by omega⟩
          refine lat_new (K := K) bb fun H6 x s6 nx l6 => ?_
          have s16 := (s14.trans s5).trans s6
          refine q _ x k (0 + (j : Int)) dd s16 ((s14.trans s5).free nx) l6 ?_ k1 hkm.2.1
          rw [Int.zero_add]
          exact low_min (f := sigR a b d rows) (a := a) (b := b) (d := d) (by omega) tol.pb k0 k3 (fun x px => level_min (by omega) sig_a k0 k3 k4 x px) (by omega) (by omega) hkm.1 (hcc.mp rfl) fun e e0 e1 e2 c c0 c1 => hno e (divs_ahead hdd e0 e1 (by rw [ed]; exact e2)) c c0 c1
        | false =>
          refine iteF ⟨⟨_, rfl⟩, (s3.trans s4).trans s5, fun c c0 c1 => ?_⟩
          by_cases z : c = j
          · rw [z]
            exact fun z => by have := hcc.mpr z; cases this
          · exact hnb c c0 (by omega)
      · rintro σ H3 ⟨⟨o', rfl⟩, s3, hnb⟩
        refine ⟨⟨_, _, rfl⟩, s3, fun j hj c c0 c1 => ?_⟩
        rcases take_succ_mem hdd hj with hj | hj
        · exact hno j hj c c0 c1
        · subst hj
          exact hnb c c0 (by omega)
    · rintro σ H2 ⟨⟨o, o', rfl⟩, s2, hno⟩
      rw [List.length_map, List.take_length] at hno
      have pb := tol.pb
      have q1 := per_sub pb (per_mul k3 (b / k))
      have e1 : b - b / k * k = b % k := by
        have := Int.emod_add_mul_ediv b k
        rw [Int.mul_comm]
        omega
      rw [e1, Int.mul_zero, Int.sub_zero] at q1
      refine absurd q1 (hno d (divs_mem.mpr ⟨by omega, by omega, ?_⟩) _ (Int.emod_nonneg _ (by omega)) (Int.emod_lt_of_pos _ k0))
      rw [ed]
      exact Int.dvd_refl d
end
end K12
namespace K12
open PySem PySem.Spec PyProof.Rows L2
section
variable {P : Program} {w : World} {K : PySem.W.Frag} {mg : Str → Option Value} {base : Heap}
theorem empty_len : (("" : Str)).length = 0 := by decide +kernel
theorem sum_ones : ∀ cs : List Nat, ((cs.map fun c => dg [c]).map (·.length)).sum = cs.length
  | [] => rfl
  | c :: r => by
    rw [List.map_cons, List.map_cons, List.sum_cons, sum_ones r, dg_len, List.length_cons, List.length_cons]
    simp
    omega
/-- the join of signs -/
theorem join_need {cs : List Nat} (h : cs.length ≤ 1000000) : ((cs.map fun c => dg [c]).map (·.length)).sum + (cs.map fun c => dg [c]).length * (("" : Str)).length ≤ 16777216 := by
  rw [sum_ones, empty_len]
  omega
theorem map_sign (cs : List Nat) : (cs.map fun c => V.str (dg [c])) = (cs.map fun c => dg [c]).map V.str := by rw [List.map_map]; rfl
/-! normal_rows -/
theorem sc_normal_rows : FnScope ["lattice", "rows", "least", "found", "y", "x"] ["lattice", "rows", "least"] (defScope s_normal_rows) := ⟨rfl, rfl, rfl, by decide +kernel, rfl, by decide +kernel, by decide +kernel⟩
def sp_normal_rows (K : PySem.W.Frag) : Sp := fun vs H Q _ => ∃ (p r l : Addr) (a b d a' b' d' : Int) (rows : List (List Nat)), vs = [.ref p, .ref r, .ref l] ∧ LatAt K H p a b d ∧ H r = some (.tup (rowV rows)) ∧ LatAt K H l a' b' d' ∧ Tol a b d rows ∧ (0 ≤ a' ∧ 0 ≤ d' ∧ a' ≤ 1000 ∧ d' ≤ 1000) ∧
  ∀ H' x, Same H H' → H x = none → H' x = some (.tup (rowV (nrows (sigR a b d rows) a' d'))) → Q (.ref x) H'
def rowTo (f : Col) (y : Int) (n : Nat) : List Nat := (List.range n).map fun x => f (x : Nat) y
theorem rowTo_succ (f : Col) (y : Int) (n : Nat) : rowTo f y (n + 1) = rowTo f y n ++ [f (n : Nat) y] := by unfold rowTo; rw [List.range_succ, List.map_append]; rfl
theorem rowTo_len (f : Col) (y : Int) (n : Nat) : (rowTo f y n).length = n := by unfold rowTo; simp
def rowsTo (f : Col) (a : Nat) (n : Nat) : List (List Nat) := (List.range n).map fun y => rowTo f (y : Nat) a
theorem rowsTo_succ (f : Col) (a n : Nat) : rowsTo f a (n + 1) = rowsTo f a n ++ [rowTo f (n : Nat) a] := by unfold rowsTo; rw [List.range_succ, List.map_append]; rfl
theorem nrows_eq (f : Col) (a d : Int) : nrows f a d = rowsTo f a.toNat d.toNat := rfl
theorem ok_normal_rows (T : Tx P w K mg base) : OkG CX0 P w K mg base 6 "normal_rows" ["lattice", "rows", "least"] (sp_normal_rows K) := by
  refine mkG (st := s_normal_rows) T.e_normal_rows T.g_normal_rows (fun _ _ _ _ _ _ us hl => match us, hl with | [_, _, _], _ => rfl) sc_normal_rows (fun vs H Q E h => ?_) (fun f cdv A outer s H vs Q E hr h => ?_)
  · obtain ⟨p, r, l, a, b, d, a', b', d', rows, rfl, _⟩ := h
    rfl
  · obtain ⟨p, r, l, a, b, d, a', b', d', rows, rfl, ⟨dx, hp⟩, hR, ⟨dy, hl⟩, tol, ⟨l0, l1, l2, l3⟩, q⟩ := h
    have nd := sc_normal_rows.nd
    have cl := T.c_Lattice
    refine ⟨_, pss_cons (ps_set (i := 3) nd rfl (Or.inl rfl) (pe_lst pa_nil))
      (pss_cons (ps_for PassesOwn.never rfl (pi_range1 rfl T.f_range (pa_cons (pe_fld (pv 2) rfl) pa_nil)) (pg_name (i := 4) nd rfl (Or.inr rfl))
        (pss_one (ps_expr (pe_bm PySem.F.plainAttrs_list PySem.F.slot_list_append PySem.F.type_list_append mt_append (pv 3) (pa_cons (pe_join pe_str (pe_lc (own := [("x", 5)]) (g := gName 5) (tt := tYes)
          (te := tCall (sp_sign_at K) [] E0 (tCons (tVar 0) (tCons (tVar 1) (tCons (tTup (tCons (tVar 5) (tCons (tVar 4) tNil))) tNil))))
          (by rfl) nd (pi_range1 rfl T.f_range (pa_cons (pe_fld (pv 2) rfl) pa_nil)) (blkOk_by (N := ["lattice", "rows", "least", "found", "y", "x"]) (sc := defScope s_normal_rows) (by decide +kernel)) (fun _ _ _ _ _ => pg_name (i := 5) nd rfl (Or.inl rfl)) (fun _ _ _ _ _ => pts_nil)
          (fun _ _ _ _ _ => pe_g (ok_sign_at T) hr (pa_cons (pv 0) (pa_cons (pv 1) (pa_cons (pe_tup (pa_cons (pv 5) (pa_cons (pv 4) pa_nil))) pa_nil)))))) pa_nil)))))
      (pss_one (ps_ret (pe_callTy call_tuple_of (by rfl) T.f_tuple (by decide +kernel) (pa_cons (pv 3) pa_nil))))), ?_⟩
    refine ⟨Nat.zero_le _, fun F hF => ?_⟩
    have s0 := same_upd (o := .lst []) hF
    have nl : l ≠ F := ne_of_none hl hF
    refine ⟨_, rfl, l, _, dy, _, _, rfl, s0 _ _ hl, cl, T.n_Lattice_d, rfl, d', rfl, by omega, by omega, for_range (lo := 0) (n := d'.toNat) (fun i σ H' => (∃ o o', σ = [some (.ref p), some (.ref r), some (.ref l), some (.ref F), o, o']) ∧ Same H H' ∧ H' F = some (.lst (rowV (rowsTo (sigR a b d rows) a'.toNat i)))) ⟨⟨_, _, rfl⟩, s0, upd_same⟩ ?_ ?_⟩
    · rintro i σ H1 hi ⟨⟨o, o', rfl⟩, s1, hf⟩
      refine ⟨_, rfl, .inl ⟨rfl, _, sqL_of hf⟩, ⟨_, rfl⟩, _, rfl, l, _, dy, _, _, rfl, s1 _ _ hl, cl, T.n_Lattice_a, rfl, a', rfl, by omega, by omega, fun D hD => ?_⟩
      refine lc_range (fun j H' => Same H1 H' ∧ H' D = some (.lst ((rowTo (sigR a b d rows) ((0 : Int) + i) j).map fun c => V.str (dg [c])))) ⟨same_upd hD, upd_same⟩ ?_ ?_
      · rintro j H2 hj ⟨s2, hd⟩
        have s12 := s1.trans s2
        refine ⟨rfl, _, rfl, _, rfl, _, rfl, _, rfl, two_line, fun t ht => ?_⟩
        have s3 := same_upd (o := .tup [.int (0 + j), .int (0 + i)]) ht
        have s13 := s12.trans s3
        refine ⟨p, r, t, a, b, d, 0 + j, 0 + i, rows, rfl, ⟨dx, s13 _ _ hp⟩, s13 _ _ hR, upd_same, tol, fun H4 s4 => ⟨_, (s3.trans s4) _ _ hd, ?_, sameD ((s2.trans s3).trans s4) hD, ?_⟩⟩
        · rw [List.length_map, rowTo_len]
          exact line_of (by omega)
        · rw [upd_same, rowTo_succ, List.map_append, Int.zero_add (j : Int)]
          rfl
      · rintro H2 ⟨s2, hd⟩
        rw [map_sign] at hd
        refine ⟨_, D, _, rfl, rfl, .inl (sqL_of hd), ?_, ?_⟩
        · exact join_need (by rw [rowTo_len]; omega)
        · rw [join_dg]
          refine ⟨F, _, _, rfl, rfl, s2 _ _ hf, ?_, ⟨_, _, rfl⟩, ?_, ?_⟩
          · unfold rowV rowsTo
            simp only [List.length_map, List.length_range]
            exact line_of (by omega)
          · intro c o e
            rw [upd_ne (ne_of_none e hF)]
            exact (s1.trans s2) _ _ e
          · rw [upd_same, rowsTo_succ, Int.zero_add]
            unfold rowV
            rw [List.map_append]
            rfl
    · rintro σ H1 ⟨⟨o, o', rfl⟩, s1, hf⟩
      refine ⟨_, rfl, F, _, rfl, .inl ⟨sqL_of hf, fun x hx => ?_⟩⟩
      refine q _ x (s1.trans (same_upd hx)) (s1.free hx) ?_
      rw [upd_same, nrows_eq]
/-! is_row -/
theorem sc_is_row : FnScope ["value", "many", "sign"] ["value", "many"] (defScope s_is_row) := ⟨rfl, rfl, rfl, by decide +kernel, rfl, by decide +kernel, by decide +kernel⟩
def sp_is_row : Sp := fun vs H Q _ => ∃ (ds : List Nat) (n : Int), vs = [.str (dg ds), .int n] ∧ (ds.length : Int) = n ∧ ds.length ≤ 1000 ∧ (∀ c ∈ ds, c ≤ 9) ∧ ∀ H', Same H H' → Q (.bl true) H'
theorem fig_in {c : Nat} (h : c ≤ 9) : decide (c + 48 ∈ ("0123456789" : Str).cps.toList) = true := by
  have : ∀ c ∈ List.range 10, decide (c + 48 ∈ ("0123456789" : Str).cps.toList) = true := by decide +kernel
  exact this c (List.mem_range.mpr (by omega))
theorem ok_is_row (T : Tx P w K mg base) : OkG CX0 P w K mg base 1 "is_row" ["value", "many"] sp_is_row := by
  obtain ⟨tF, hF⟩ := T.s_FIGURES
  refine mkG (st := s_is_row) T.e_is_row T.g_is_row (fun _ _ _ _ _ _ us hl => match us, hl with | [_, _], _ => rfl) sc_is_row (fun vs H Q E h => ?_) (fun f cdv A outer s H vs Q E hr h => ?_)
  · obtain ⟨ds, n, rfl, _⟩ := h
    rfl
  · obtain ⟨ds, n, rfl, hn, hl, hd, q⟩ := h
    have nd := sc_is_row.nd
    refine ⟨_, pss_one (ps_ret (pe_and (pe_callB call_isi (by rfl) T.f_isinstance (by decide +kernel) (pa_cons (pv 0) (pa_cons (pe_bltn (v := .ty "str") (by rfl) T.f_str (by decide +kernel) rfl) pa_nil)))
      (pe_and (pe_cmpR op_eq (xLen T.f_len (pv 0)) (pv 1) (nomark _))
      (pe_one (pe_callB (cr_all rfl) (by rfl) T.f_all (by decide +kernel) (pa_cons (pe_lc (own := [("sign", 2)]) (g := gName 2) (tt := tYes) (by rfl) nd (pi_str (pv 0)) (blkOk_by (N := ["value", "many", "sign"]) (sc := defScope s_is_row) (by decide +kernel)) (fun _ _ _ _ _ => pg_name (i := 2) nd rfl (Or.inl rfl)) (fun _ _ _ _ _ => pts_nil)
        (fun _ _ _ _ _ => pe_cmpR op_in_sign (pv 2) (pe_glob (v := .str "0123456789") (by rfl) hF ⟨_, rfl⟩) (by rfl))) pa_nil)))))), ?_⟩
    refine ⟨_, rfl, _, _, _, _, true, rfl, .ty "str", .base (.str _), kit_ty (by decide +kernel), true, rfl, iteT ?_⟩
    have e1 : decide (V.int ((dg ds).length : Int) = V.int n) = true := decide_eq_true (by rw [dg_len, hn])
    refine ⟨_, rfl, _, (dg ds).length, rfl, ⟨by rw [dg_len]; exact line_le (by omega), rfl⟩, _, rfl, rfl, _, rfl, ?_⟩
    rw [e1]
    refine iteT ⟨_, rfl, _, rfl, fun D hD => ?_⟩
    have sz : (dg ds).cps.size = ds.length := dg_len ds
    refine lc_it walk_str (fun n H' => Same H H' ∧ H' D = some (.lst ((List.replicate n true).map V.bl))) ⟨same_upd hD, upd_same⟩ (fun _ _ _ _ => trivial) ?_ ?_
    · rintro i x H1 H2 hi ⟨s1, hd1⟩ ⟨rfl, c, hc, rfl⟩
      obtain ⟨c', hc', rfl⟩ : ∃ c' ∈ ds, c = c' + 48 := by
        have : c ∈ (dg ds).cps.toList := by
          rw [Array.mem_toList_iff]
          exact Array.mem_of_getElem? hc
        rw [dg_cps] at this
        obtain ⟨c', h1, h2⟩ := List.mem_map.mp this
        exact ⟨c', h1, h2.symm⟩
      refine ⟨rfl, _, rfl, c' + 48, _, rfl, rfl, _, hd1, ?_, sameD s1 hD, ?_⟩
      · rw [List.length_map, List.length_replicate]
        exact line_of (by omega)
      · rw [upd_same, List.replicate_succ', List.map_append]
        show _ = some (HO.lst (_ ++ [V.bl true]))
        rw [fig_in (hd _ hc')]
    · rintro H1 ⟨s1, hd1⟩
      refine ⟨D, _, rfl, sqL_of hd1, ?_⟩
      have e2 : (List.replicate (dg ds).cps.size true).all id = true := by simp
      rw [e2]
      exact q _ s1
/-! check_rows -/
theorem sc_check_rows : FnScope ["rows", "a", "d", "index", "row"] ["rows", "a", "d"] (defScope s_check_rows) := ⟨rfl, rfl, rfl, by decide +kernel, rfl, by decide +kernel, by decide +kernel⟩
def RowsAt (H : Hp) (r : Addr) (rows : List (List Nat)) : Prop := H r = some (.lst (rowV rows)) ∨ H r = some (.tup (rowV rows))
theorem RowsAt.same {H H' : Hp} {r : Addr} {rows : List (List Nat)} (h : RowsAt H r rows) (s : Same H H') : RowsAt H' r rows := h.imp (s _ _) (s _ _)
def sp_check_rows : Sp := fun vs H Q _ => ∃ (r : Addr) (a d : Int) (rows : List (List Nat)), vs = [.ref r, .int a, .int d] ∧ RowsAt H r rows ∧ ((rows.length : Int) = d ∧ rows.length ≤ 1000 ∧ a ≤ 1000 ∧ ∀ ds ∈ rows, (ds.length : Int) = a ∧ ∀ c ∈ ds, c ≤ 9) ∧ ∀ H', Same H H' → Q .non H'
theorem ok_check_rows (T : Tx P w K mg base) : OkG CX0 P w K mg base 2 "check_rows" ["rows", "a", "d"] sp_check_rows := by
  refine mkG (st := s_check_rows) T.e_check_rows T.g_check_rows (fun _ _ _ _ _ _ us hl => match us, hl with | [_, _, _], _ => rfl) sc_check_rows (fun vs H Q E h => ?_) (fun f cdv A outer s H vs Q E hr h => ?_)
  · obtain ⟨r, a, d, rows, rfl, _⟩ := h
    rfl
  · obtain ⟨r, a, d, rows, rfl, hR, ⟨h1, h2, h3, h4⟩, q⟩ := h
    have nd := sc_check_rows.nd
    refine ⟨_, pss_cons (ps_if (PW.pt (pw_or (pt_not (pt_val (pe_g (ok_is_list T) (hr.mono (by decide)) (pa_cons (pv 0) pa_nil)))) (pw_or1 (pt_cmpR op_ne (xLen T.f_len (pv 0)) (pv 2) (nomark _))))) (pss_one ps_never) pss_nil)
      (pss_one (ps_for PassesOwn.never rfl (pi_enumT (by rfl) T.f_enumerate (pa_cons (pv 0) pa_nil)) (pg_tup (by rfl) (pgs_cons (pg_name (i := 3) nd rfl (.inl rfl)) (pgs_cons (pg_name (i := 4) nd rfl (.inl rfl)) pgs_nil)))
        (pss_one (ps_if (pt_not (pt_val (pe_g (ok_is_row T) hr (pa_cons (pv 4) (pa_cons (pv 1) pa_nil))))) (pss_one ps_never) pss_nil)))), ?_⟩
    refine ⟨_, rfl, r, rfl, hR.imp (fun z => ⟨_, z⟩) (fun z => ⟨_, z⟩), fun H1 s1 => ⟨true, rfl, iteF ?_⟩⟩
    have hR1 := hR.same s1
    have el : (rowV rows).length = rows.length := by unfold rowV; rw [List.length_map]
    have lv : LenV K (.ref r) H1 rows.length := by
      rcases hR1 with z | z
      · exact .inl ⟨_, sqL_of z, by rw [el]⟩
      · exact .inr ⟨_, sqT_of z, by rw [el]⟩
    refine ⟨_, rfl, _, _, rfl, lv, _, rfl, rfl, _, rfl, iteNS (by rw [h1]) ?_⟩
    -- the walk, over a list or a tuple
    have key : ∀ (J : It) (G : Hp → Prop), Walk J (rowV rows).length G (YPair (fun i => some (.int (i : Nat))) (fun i => (rowV rows)[i]?)) → (∀ H', Same H1 H' → G H') → ∀ (g : TG) (tb : TS) (D : Ends) (σ : L2.St),
        (∀ i x H2 H3 σ, i < (rowV rows).length → Same H1 H2 → (∃ o o', σ = [some (.ref r), some (.int a), some (.int d), o, o']) → YPair (fun i => some (.int (i : Nat))) (fun i => (rowV rows)[i]?) i H2 x H3 →
          g x σ H3 fun σ2 H4 => tb { D with nx := fun σ' H' => (∃ o o', σ' = [some (.ref r), some (.int a), some (.int d), o, o']) ∧ Same H1 H', ct := fun σ' H' => (∃ o o', σ' = [some (.ref r), some (.int a), some (.int d), o, o']) ∧ Same H1 H', bk := D.nx } σ2 H4) →
        (∃ o o', σ = [some (.ref r), some (.int a), some (.int d), o, o']) → (∀ σ H', Same H1 H' → D.nx σ H') →
        ∃ W : Nat → Nat → L2.St → Hp → Prop, (∃ m, W 0 m σ H1) ∧ ∀ i m σ H, W i m σ H → (J.stop i H ∧ D.nx σ H) ∨ (J.go i H ∧ ∃ N : L2.St → Hp → Prop, (∀ σ' H', N σ' H' → ∃ m', m' < m ∧ W (i + 1) m' σ' H') ∧ ∀ x H', J.yld i H x H' → g x σ H' fun σ2 H2 => tb { D with nx := N, ct := N, bk := D.nx } σ2 H2) := by
      intro J G wk hG g tb D σ hs hσ hd
      exact for_it wk (fun _ σ H' => (∃ o o', σ = [some (.ref r), some (.int a), some (.int d), o, o']) ∧ Same H1 H') ⟨hσ, Same.refl _⟩ (fun _ _ H' _ z => hG H' z.2) (fun i x σ H2 H3 hi z y => hs i x H2 H3 σ hi z.2 z.1 y) (fun σ H' z => hd σ H' z.2)
    have turn : ∀ i x H2 H3 (σ : L2.St) (D : Ends), i < (rowV rows).length → Same H1 H2 → (∃ o o', σ = [some (.ref r), some (.int a), some (.int d), o, o']) → YPair (fun i => some (.int (i : Nat))) (fun i => (rowV rows)[i]?) i H2 x H3 →
        gTup K 2 (gCons (gName 3) (gCons (gName 4) gNil)) x σ H3 fun σ2 H4 => tIfS (tNot (tTest (tCall sp_is_row [] E0 (tCons (tVar 4) (tCons (tVar 1) tNil))))) tNever tNext { D with nx := fun σ' H' => (∃ o o', σ' = [some (.ref r), some (.int a), some (.int d), o, o']) ∧ Same H1 H', ct := fun σ' H' => (∃ o o', σ' = [some (.ref r), some (.int a), some (.int d), o, o']) ∧ Same H1 H', bk := D.nx } σ2 H4 := by
      rintro i x H2 H3 σ D hi s2 ⟨o, o', rfl⟩ ⟨t, k, v, rfl, nt, rfl, hk, hv⟩
      cases hk
      obtain ⟨ds, hds, rfl⟩ : ∃ ds ∈ rows, v = V.str (dg ds) := by
        have := List.mem_of_getElem? hv
        unfold rowV at this
        obtain ⟨ds, m, e⟩ := List.mem_map.mp this
        exact ⟨ds, m, e.symm⟩
      obtain ⟨k1, k2⟩ := h4 ds hds
      refine ⟨t, _, rfl, sqT_of upd_same, rfl, _, _, rfl, _, _, rfl, rfl, ?_⟩
      exact ⟨_, rfl, _, rfl, ds, a, rfl, k1, by omega, k2, fun H4 s4 => ⟨true, rfl, iteF ⟨⟨_, _, rfl⟩, (s2.trans (same_upd nt)).trans s4⟩⟩⟩
    refine ⟨_, rfl, r, rowV rows, rfl, ?_⟩
    rcases hR1 with z | z
    · exact .inl ⟨sqL_of z, key _ _ walk_enum (fun H' s' => sqL_of (s' _ _ z)) _ _ _ _ (fun i x H2 H3 σ hi s2 hσ y => turn i x H2 H3 σ _ hi s2 hσ y) ⟨_, _, rfl⟩ (fun σ H' s' => q _ (s1.trans s'))⟩
    · exact .inr ⟨sqT_of z, key _ _ walk_enumT (fun H' s' => sqT_of (s' _ _ z)) _ _ _ _ (fun i x H2 H3 σ hi s2 hσ y => turn i x H2 H3 σ _ hi s2 hσ y) ⟨_, _, rfl⟩ (fun σ H' s' => q _ (s1.trans s'))⟩
/-! check_size -/
theorem sc_check_size : FnScope ["many"] ["many"] (defScope s_check_size) := ⟨rfl, rfl, rfl, by decide +kernel, rfl, by decide +kernel, by decide +kernel⟩
def sp_check_size : Sp := fun vs H Q _ => ∃ n : Int, vs = [.int n] ∧ n ≤ 144 ∧ Q .non H
theorem ok_check_size (T : Tx P w K mg base) : OkG CX0 P w K mg base 1 "check_size" ["many"] sp_check_size := by
  obtain ⟨tF, hF⟩ := T.i_MOST_CELLS
  refine mkG (st := s_check_size) T.e_check_size T.g_check_size (fun _ _ _ _ _ _ us hl => match us, hl with | [_], _ => rfl) sc_check_size (fun vs H Q E h => ?_) (fun f cdv A outer s H vs Q E hr h => ?_)
  · obtain ⟨n, rfl, _⟩ := h
    rfl
  · obtain ⟨n, rfl, hn, q⟩ := h
    refine ⟨_, pss_one (ps_if (pt_cmpR op_gt (pv 0) (pe_glob (v := .int 144) (by rfl) hF ⟨_, rfl⟩) (nomark _)) (pss_one ps_never) pss_nil), ?_⟩
    refine ⟨_, rfl, _, _, rfl, rfl, _, rfl, ?_⟩
    rw [decide_eq_false (by omega)]
    exact iteF q
end
end K12
namespace K12
open PySem PySem.Spec PyProof.Rows L2
section
variable {P : Program} {w : World} {K : PySem.W.Frag} {mg : Str → Option Value} {base : Heap}
/-! ### a carpet in the heap -/
def carF (a b d : Int) (R B S : Addr) : List (Str × V) := [("a", .int a), ("b", .int b), ("d", .int d), ("rows", .ref R), ("basis", .ref B), ("shape", .ref S)]
structure CarX (K : PySem.W.Frag) (H : Hp) (p : Addr) (a b d : Int) (rows : List (List Nat)) (R B S N : Addr) (a' b' d' : Int) : Prop where
  ob : ∃ dx, H p = some (.ins (He.ga K "Carpet") dx (carF a b d R B S))
  hR : H R = some (.tup (rowV rows))
  hB : LatAt K H B a' b' d'
  lst : Lst (sigR a b d rows) a' b' d'
  la : a' ≤ a
  ld : d' ≤ d
  hS : H S = some (.tup [.int a', .int b', .int d', .ref N])
  hN : H N = some (.tup (rowV (nrows (sigR a b d rows) a' d')))
  tol : Tol a b d rows
def CarAt (K : PySem.W.Frag) (H : Hp) (p : Addr) (a b d : Int) (rows : List (List Nat)) : Prop := ∃ R B S N a' b' d', CarX K H p a b d rows R B S N a' b' d'
theorem CarX.same {H H' : Hp} {p : Addr} {a b d : Int} {rows : List (List Nat)} {R B S N : Addr} {a' b' d' : Int} (h : CarX K H p a b d rows R B S N a' b' d') (s : Same H H') : CarX K H' p a b d rows R B S N a' b' d' := by
  obtain ⟨⟨dx, h1⟩, h2, h3, h4, h5, h6, h7, h8, h9⟩ := h
  exact ⟨⟨dx, s _ _ h1⟩, s _ _ h2, h3.same s, h4, h5, h6, s _ _ h7, s _ _ h8, h9⟩
theorem CarAt.same {H H' : Hp} {p : Addr} {a b d : Int} {rows : List (List Nat)} (h : CarAt K H p a b d rows) (s : Same H H') : CarAt K H' p a b d rows := by
  obtain ⟨R, B, S, N, a', b', d', h⟩ := h
  exact ⟨R, B, S, N, a', b', d', h.same s⟩
theorem call_tupA {X : Cx} : CallR X (.type "tuple") (fun xs H Q => ∃ r rows, xs = [.ref r] ∧ RowsAt H r rows ∧ ∀ H' R, Same H H' → H' R = some (.tup (rowV rows)) → Q (.ref R) H') := by
  intro pins s σ H xs us Q I rv h
  obtain ⟨r, rows, rfl, hR, q⟩ := h
  refine call_tuple_of pins s σ H _ us Q I rv ⟨r, rowV rows, rfl, ?_⟩
  rcases hR with z | z
  · exact .inl ⟨sqL_of z, fun l hl => q _ l (same_upd hl) upd_same⟩
  · exact .inr ⟨sqT_of z, q _ r (Same.refl _) z⟩
end
section
variable {X : Cx} {k : Nat} {ps : List Str} {sp : Sp} {x : Str} {C : Addr} {p pos : Pos} {e : Expr} {es : List Expr} {t : TA}
/-- C(..) with a reading of one's own -/
theorem pe_kR {r : List V → Hp → VK → Prop} (O : OkI CX0 X.prog X.w X.K X.mg X.base k C ps sp) (hi : ∀ vs H Q, r vs H Q → ∀ x dx, H x = none → H dx = none → dx ≠ x → sp (.ref x :: (vs ++ [])) (upd (upd H dx (.own x)) x (.ins C dx [])) (fun v H2 => v = .non ∧ Q (.ref x) H2) E0)
    (hm : X.mg x = some (.ref C)) (hr : Room (k + 1) X.A) (ha : PA X (e :: es) t) (hg : Gl X x := by rfl) (hdb : (x == ("__debug__" : Str)) = false := by decide)
    (he : starEach (e :: es) X.env = (false, eval e X.env) :: starEach es X.env := by rfl) (hpl : (backTo pos (starEach es X.env)).any (·.1) = false := by rfl) :
    PE X (.Call (.Name x p) (e :: es) [] pos) (tCB r t) := by
  obtain ⟨f, fd, M, hb, F⟩ := O
  refine ⟨fun pins s σ H Q I h => ?_⟩
  refine wpAny_Call_Name_kw (ld_glob I hg hm ?_ hdb)
  refine PySem.W.callWith_K (h₀ := X.base) I.ok.mod.kin M.kp (thn (ha.run pos pins s σ H _ I h) fun us s1 ⟨vs, H1, I1, r1, q⟩ => ⟨I1.kIn, ?_⟩) he hpl
  exact run_make M F hr hb .nil pass0 I1 r1 (hi vs H1 Q q)
end
section
variable {P : Program} {w : World} {K : PySem.W.Frag} {mg : Str → Option Value} {base : Heap}
def rLat (K : PySem.W.Frag) : List V → Hp → VK → Prop := fun vs H Q => ∃ a b d, vs = [.int a, .int b, .int d] ∧ Bas a b d ∧ ∀ H' x, Same H H' → H x = none → LatAt K H' x a b d → Q (.ref x) H'
theorem rLat_ok {vs : List V} {H : Hp} {Q : VK} (h : rLat K vs H Q) : ∀ x dx, H x = none → H dx = none → dx ≠ x → sp_lat_init K (.ref x :: (vs ++ [])) (upd (upd H dx (.own x)) x (.ins (He.ga K "Lattice") dx [])) (fun v H2 => v = .non ∧ Q (.ref x) H2) E0 := by
  obtain ⟨a, b, d, rfl, hb, q⟩ := h
  exact lat_new hb q
/-- all but p as it was -/
def SameB (p : Addr) (H H' : Hp) : Prop := ∀ c o, H c = some o → c ≠ p → H' c = some o
theorem SameB.same {p : Addr} {H H' H2 : Hp} (h : SameB p H H') (s : Same H' H2) : SameB p H H2 := fun c o e n => s _ _ (h c o e n)
theorem SameB.upd {p : Addr} {H H' : Hp} {o : HO} (h : SameB p H H') : SameB p H (upd H' p o) := fun c x e n => by
  rw [upd_ne n]
  exact h c x e n
theorem SameB.of {p : Addr} {H H' : Hp} (h : Same H H') : SameB p H H' := fun c o e _ => h c o e
theorem SameB.rows {p r : Addr} {H H' : Hp} {rows : List (List Nat)} (s : SameB p H H') (h : RowsAt H r rows) (n : r ≠ p) : RowsAt H' r rows := h.imp (fun z => s _ _ z n) (fun z => s _ _ z n)
theorem sc_Carpet_init : FnScope ["self", "a", "b", "d", "rows", "told"] ["self", "a", "b", "d", "rows"] (defScope s_Carpet___init__) := ⟨rfl, rfl, rfl, by decide +kernel, rfl, by decide +kernel, by decide +kernel⟩
def sp_car_init (K : PySem.W.Frag) : Sp := fun vs H Q _ => ∃ (p dx r : Addr) (a b d : Int) (rows : List (List Nat)), vs = [.ref p, .int a, .int b, .int d, .ref r] ∧ H p = some (.ins (He.ga K "Carpet") dx []) ∧ RowsAt H r rows ∧ Tol a b d rows ∧
  ∀ H', CarAt K H' p a b d rows → SameB p H H' → Q .non H'
theorem ok_car_init (T : Tx P w K mg base) : OkI CX0 P w K mg base 9 (He.ga K "Carpet") ["self", "a", "b", "d", "rows"] (sp_car_init K) := by
  refine mkI (st := s_Carpet___init__) T.e_Carpet___init__ T.mk_Carpet (fun _ _ _ _ _ _ us hl => match us, hl with | [_, _, _, _, _], _ => rfl) sc_Carpet_init (fun vs H Q E h => ?_) (fun f cdv A outer s H vs Q E hr h => ?_)
  · obtain ⟨p, dx, r, a, b, d, rows, rfl, _⟩ := h
    rfl
  · obtain ⟨p, dx, r, a, b, d, rows, rfl, hp, hR, tol, q⟩ := h
    have nd := sc_Carpet_init.nd
    have cl := T.c_Carpet
    have al := tol.a_le
    have dl := tol.d_le
    obtain ⟨b1, b2, b3, b4⟩ := id tol.bas
    have rp : r ≠ p := fun z => by
      rw [z] at hR
      rcases hR with k | k <;> (rw [hp] at k; cases k)
    refine ⟨_, pss_cons (ps_expr (pe_g (ok_check_basis T) (hr.mono (by decide)) (pa_cons (pv 1) (pa_cons (pv 2) (pa_cons (pv 3) pa_nil)))))
      (pss_cons (ps_expr (pe_g (ok_check_size T) (hr.mono (by decide)) (pa_cons (pe_op op_mul (pv 1) (pv 3)) pa_nil)))
      (pss_cons (ps_expr (pe_g (ok_check_rows T) (hr.mono (by decide)) (pa_cons (pv 4) (pa_cons (pv 1) (pa_cons (pv 3) pa_nil)))))
      (pss_cons (ps_fld (pv 0) (pv 1) rfl)
      (pss_cons (ps_fld (pv 0) (pv 2) rfl)
      (pss_cons (ps_fld (pv 0) (pv 3) rfl)
      (pss_cons (ps_fld (pv 0) (pe_callTy call_tupA (by rfl) T.f_tuple (by decide +kernel) (pa_cons (pv 4) pa_nil)) rfl)
      (pss_cons (ps_set (i := 5) nd rfl (Or.inl rfl) (pe_kR (ok_lat_init T) (fun _ _ _ h => rLat_ok h) T.g_Lattice (hr.mono (by decide)) (pa_cons (pv 1) (pa_cons (pv 2) (pa_cons (pv 3) pa_nil)))))
      (pss_cons (ps_fld (pv 0) (pe_g (ok_least_lattice T) hr (pa_cons (pv 5) (pa_cons (pe_fld (pv 0) rfl) pa_nil))) rfl)
      (pss_one (ps_fld (pv 0) (pe_tup (pa_cons (pe_fld (pe_fld (pv 0) rfl) rfl) (pa_cons (pe_fld (pe_fld (pv 0) rfl) rfl) (pa_cons (pe_fld (pe_fld (pv 0) rfl) rfl) (pa_cons (pe_g (ok_normal_rows T) (hr.mono (by decide)) (pa_cons (pv 5) (pa_cons (pe_fld (pv 0) rfl) (pa_cons (pe_fld (pv 0) rfl) pa_nil)))) pa_nil))))) rfl)))))))))), ?_⟩
    refine ⟨_, rfl, _, rfl, _, rfl, a, b, d, rfl, tol.bas, ?_⟩
    refine ⟨_, rfl, _, rfl, _, _, rfl, rfl, .inl ⟨by omega, by omega⟩, _, rfl, tol.sz, ?_⟩
    refine ⟨_, rfl, _, rfl, _, rfl, r, a, d, rows, rfl, hR, ⟨?_, ?_, by omega, fun ds hds => ⟨?_, tol.fig ds hds⟩⟩, fun H1 s1 => ?_⟩
    · rw [tol.len]; omega
    · rw [tol.len]; omega
    · rw [tol.row ds hds]; omega
    have hp1 := s1 _ _ hp
    refine ⟨_, rfl, _, rfl, p, _, dx, _, rfl, hp1, cl, T.n_Carpet_a, (by show 0 < 1000; decide), ?_⟩
    refine ⟨_, rfl, _, rfl, p, _, dx, _, rfl, upd_same, cl, T.n_Carpet_b, (by show 1 < 1000; decide), ?_⟩
    refine ⟨_, rfl, _, rfl, p, _, dx, _, rfl, upd_same, cl, T.n_Carpet_d, (by show 2 < 1000; decide), ?_⟩
    have sb4 := (((SameB.of (p := p) s1).upd (o := .ins (He.ga K "Carpet") dx (putF "a" (.int a) []))).upd (o := .ins (He.ga K "Carpet") dx (putF "b" (.int b) (putF "a" (.int a) [])))).upd (o := .ins (He.ga K "Carpet") dx (putF "d" (.int d) (putF "b" (.int b) (putF "a" (.int a) []))))
    refine ⟨_, rfl, r, rows, rfl, sb4.rows hR rp, fun H5 R s5 h5 => ?_⟩
    refine ⟨_, rfl, p, _, dx, _, rfl, s5 _ _ upd_same, cl, T.n_Carpet_rows, (by show 3 < 1000; decide), ?_⟩
    have Rp : R ≠ p := fun z => by
      rw [z, s5 _ _ upd_same] at h5
      cases h5
    have sb6 := (sb4.same s5).upd (o := .ins (He.ga K "Carpet") dx (putF "rows" (.ref R) (putF "d" (.int d) (putF "b" (.int b) (putF "a" (.int a) [])))))
    have h6 : (upd H5 p (.ins (He.ga K "Carpet") dx (putF "rows" (.ref R) (putF "d" (.int d) (putF "b" (.int b) (putF "a" (.int a) [])))))) R = some (.tup (rowV rows)) := by
      rw [upd_ne Rp]
      exact h5
    refine ⟨_, rfl, _, rfl, _, rfl, a, b, d, rfl, tol.bas, fun H7 L s7 nL l7 => ?_⟩
    have hp7 := s7 _ _ (upd_same (H := H5) (a := p) (o := .ins (He.ga K "Carpet") dx (putF "rows" (.ref R) (putF "d" (.int d) (putF "b" (.int b) (putF "a" (.int a) []))))))
    have h7 := s7 _ _ h6
    refine ⟨_, rfl, _, rfl, p, _, dx, _, _, rfl, hp7, cl, T.n_Carpet_rows, rfl, L, R, a, b, d, rows, rfl, l7, h7, tol, fun H8 B a' b' d' s8 nB l8 hl la ld => ?_⟩
    have hp8 := s8 _ _ hp7
    have Bp : B ≠ p := fun z => by rw [z, hp7] at nB; cases nB
    have Lp : L ≠ p := fun z => by
      rw [z, upd_same] at nL
      cases nL
    refine ⟨_, rfl, p, _, dx, _, rfl, hp8, cl, T.n_Carpet_basis, (by show 4 < 1000; decide), ?_⟩
    obtain ⟨H9, e9⟩ : ∃ H9, H9 = upd H8 p (.ins (He.ga K "Carpet") dx (putF "basis" (.ref B) (putF "rows" (.ref R) (putF "d" (.int d) (putF "b" (.int b) (putF "a" (.int a) [])))))) := ⟨_, rfl⟩
    have sb9 : SameB p H H9 := by
      rw [e9]
      exact ((sb6.same s7).same s8).upd
    have hp9 : H9 p = some (.ins (He.ga K "Carpet") dx (putF "basis" (.ref B) (putF "rows" (.ref R) (putF "d" (.int d) (putF "b" (.int b) (putF "a" (.int a) [])))))) := by rw [e9, upd_same]
    have hR9 : H9 R = some (.tup (rowV rows)) := by
      rw [e9, upd_ne Rp]
      exact s8 _ _ h7
    have hB9 : LatAt K H9 B a' b' d' := by
      obtain ⟨dy, z⟩ := l8
      exact ⟨dy, by rw [e9, upd_ne Bp]; exact z⟩
    have hL9 : LatAt K H9 L a b d := by
      obtain ⟨dy, z⟩ := l7
      exact ⟨dy, by rw [e9, upd_ne Lp]; exact s8 _ _ z⟩
    rw [← e9]
    obtain ⟨dy, hb9⟩ := id hB9
    have lc := T.c_Lattice
    have v1 : NoAttr K (He.ga K "Carpet") "basis" := T.n_Carpet_basis
    refine ⟨_, rfl, p, _, dx, _, _, rfl, hp9, cl, v1, rfl, B, _, dy, _, _, rfl, hb9, lc, T.n_Lattice_a, rfl, ?_⟩
    refine ⟨_, rfl, p, _, dx, _, _, rfl, hp9, cl, v1, rfl, B, _, dy, _, _, rfl, hb9, lc, T.n_Lattice_b, rfl, ?_⟩
    refine ⟨_, rfl, p, _, dx, _, _, rfl, hp9, cl, v1, rfl, B, _, dy, _, _, rfl, hb9, lc, T.n_Lattice_d, rfl, ?_⟩
    refine ⟨_, rfl, _, rfl, p, _, dx, _, _, rfl, hp9, cl, T.n_Carpet_rows, rfl, _, rfl, p, _, dx, _, _, rfl, hp9, cl, v1, rfl, L, R, B, a, b, d, a', b', d', rows, rfl, hL9, hR9, hB9, tol, ⟨Int.le_of_lt hl.ha, Int.le_of_lt hl.hd, by omega, by omega⟩, fun H10 N s10 nN hN => ?_⟩
    refine ⟨four_line, fun S hS => ?_⟩
    have s11 := s10.trans (same_upd (o := .tup [.int a', .int b', .int d', .ref N]) hS)
    have hp10 := s11 _ _ hp9
    have Np : N ≠ p := fun z => by rw [z, hp9] at nN; cases nN
    have Sp' : S ≠ p := fun z => by rw [z, s10 _ _ hp9] at hS; cases hS
    refine ⟨_, rfl, p, _, dx, _, rfl, hp10, cl, T.n_Carpet_shape, (by show 5 < 1000; decide), ?_⟩
    refine q _ ⟨R, B, S, N, a', b', d', ⟨dx, ?_⟩, ?_, ?_, hl, la, ld, ?_, ?_, tol⟩ ((sb9.same s11).upd)
    · rw [upd_same]
      rfl
    · rw [upd_ne Rp]
      exact s11 _ _ hR9
    · obtain ⟨dz, z⟩ := hB9
      exact ⟨dz, by rw [upd_ne Bp]; exact s11 _ _ z⟩
    · rw [upd_ne Sp', upd_same]
    · rw [upd_ne Np]
      exact (same_upd hS) _ _ hN
/-- Carpet(..) made -/
theorem car_new {H : Hp} {Q : VK} {E : XK} {r : Addr} {a b d : Int} {rows : List (List Nat)} (hR : RowsAt H r rows) (tol : Tol a b d rows) (q : ∀ H' x, Same H H' → H x = none → CarAt K H' x a b d rows → Q (.ref x) H') : ∀ x dx, H x = none → H dx = none → dx ≠ x →
    sp_car_init K (.ref x :: ([.int a, .int b, .int d, .ref r] ++ [])) (upd (upd H dx (.own x)) x (.ins (He.ga K "Carpet") dx [])) (fun v H2 => v = .non ∧ Q (.ref x) H2) E := by
  intro x dx hx hdx ne
  have k0 : Same H (upd (upd H dx (.own x)) x (.ins (He.ga K "Carpet") dx [])) := fun c o e => by
    rw [upd_ne (ne_of_none e hx), upd_ne (ne_of_none e hdx)]
    exact e
  refine ⟨x, dx, r, a, b, d, rows, rfl, upd_same, hR.same k0, tol, fun H' l k => ⟨rfl, q H' x (fun c o e => ?_) hx l⟩⟩
  exact k c o (k0 _ _ e) (ne_of_none e hx)
def rCar (K : PySem.W.Frag) : List V → Hp → VK → Prop := fun vs H Q => ∃ r a b d rows, vs = [.int a, .int b, .int d, .ref r] ∧ RowsAt H r rows ∧ Tol a b d rows ∧ ∀ H' x, Same H H' → H x = none → CarAt K H' x a b d rows → Q (.ref x) H'
theorem rCar_ok {vs : List V} {H : Hp} {Q : VK} (h : rCar K vs H Q) : ∀ x dx, H x = none → H dx = none → dx ≠ x → sp_car_init K (.ref x :: (vs ++ [])) (upd (upd H dx (.own x)) x (.ins (He.ga K "Carpet") dx [])) (fun v H2 => v = .non ∧ Q (.ref x) H2) E0 := by
  obtain ⟨r, a, b, d, rows, rfl, hR, ht, q⟩ := h
  exact car_new hR ht q
end
end K12
namespace K12
open PySem PySem.Spec PyProof.Rows L2
/-! ### plain words -/
theorem inL_iff {a b d x y : Int} (ha : 0 < a) (hd : 0 < d) : inL a b d x y ↔ ((x - y / d * b) % a = 0 ∧ y % d = 0) := by
  constructor
  · rintro ⟨m, k, rfl, rfl⟩
    rw [Int.mul_ediv_cancel _ (show d ≠ 0 by omega)]
    exact ⟨by rw [Int.add_sub_cancel, Int.mul_emod_left], Int.mul_emod_left m d⟩
  · rintro ⟨h1, h2⟩
    obtain ⟨k, hk⟩ := Int.dvd_of_emod_eq_zero h1
    refine ⟨y / d, k, ?_, ?_⟩
    · have := Int.emod_add_mul_ediv y d
      rw [Int.mul_comm] at this
      omega
    · rw [Int.mul_comm k a]
      omega
theorem rowTo_add {f : Col} {y : Int} {k : Nat} (hf : per f k 0) (j : Nat) : rowTo f y (k + j) = rowTo f y k ++ rowTo f y j := by
  unfold rowTo
  rw [List.range_add, List.map_append, List.map_map]
  congr 1
  refine List.map_congr_left fun x _ => ?_
  show f ((k + x : Nat) : Int) y = f (x : Int) y
  have := hf (x : Int) y
  rw [Int.add_zero] at this
  rw [show ((k + x : Nat) : Int) = (x : Int) + k by omega]
  exact this
theorem rowTo_rep {f : Col} {y : Int} {k : Nat} (hf : per f k 0) : ∀ n : Nat, (List.replicate n ((rowTo f y k).map (· + 48))).flatten = (rowTo f y (k * n)).map (· + 48)
  | 0 => by simp [rowTo]
  | n + 1 => by
    rw [List.replicate_succ, List.flatten_cons, rowTo_rep hf n, ← List.map_append, ← rowTo_add hf, Nat.mul_succ, Nat.add_comm]
theorem rowTo_take {f : Col} {y : Int} {m n : Nat} (h : m ≤ n) : (rowTo f y n).take m = rowTo f y m := by
  unfold rowTo
  rw [← List.map_take, List.take_range, Nat.min_eq_left h]
theorem repS_cps (z : Str) (n : Nat) : (repS z n).cps.toList = (List.replicate n z.cps.toList).flatten := by
  show ((List.replicate n z.cps.toList).flatten.toArray).toList = _
  simp
theorem row_cut {f : Col} {y : Int} {k n m : Nat} (hf : per f k 0) (h : m ≤ k * n) : cutS (repS (dg (rowTo f y k)) n) none (some (m : Int)) = dg (rowTo f y m) := by
  have el : (repS (dg (rowTo f y k)) n).length = k * n := by
    show (repS (dg (rowTo f y k)) n).cps.size = _
    rw [← Array.length_toList, repS_cps, dg_cps, rowTo_rep hf, List.length_map, rowTo_len]
  refine str_ext ?_
  show (((repS (dg (rowTo f y k)) n).cps.toList.drop (HT.sIx _ 0 none)).take (HT.sIx _ _ (some (m : Int)) - HT.sIx _ 0 none)).toArray.toList = _
  rw [HT.sIx_none, HT.sIx_nat, el, Nat.min_eq_left h, Nat.sub_zero, List.drop_zero, repS_cps, dg_cps, rowTo_rep hf, ← List.map_take, rowTo_take h, dg_cps]
/-! ### the shape as data -/
def rowD (rows : List (List Nat)) : List PyData := rows.map fun r => .str (dg r)
def shD (a b d : Int) (rows : List (List Nat)) : PyData := .tuple [.int a, .int b, .int d, .tuple (rowD rows)]
theorem eqv_rows : ∀ rows rows' : List (List Nat), PyData.eqvAll (rowD rows) (rowD rows') = decide (rows = rows')
  | [], [] => by simp [rowD, PyData.eqvAll]
  | [], _ :: _ => by simp [rowD, PyData.eqvAll]
  | _ :: _, [] => by simp [rowD, PyData.eqvAll]
  | r :: rs, s :: ss => by
    show PyData.eqvAll (.str (dg r) :: rowD rs) (.str (dg s) :: rowD ss) = _
    rw [eqvAll_cons, eqv_rows rs ss, eqv_str]
    by_cases h : r = s
    · subst h
      by_cases k : rs = ss
      · subst k; simp
      · simp [k]
    · have : ¬ dg r = dg s := fun e => h (dg_inj e)
      simp [h, this]
theorem eqv_sh (a b d a' b' d' : Int) (rows rows' : List (List Nat)) : PyData.eqv (shD a b d rows) (shD a' b' d' rows') = decide (a = a' ∧ b = b' ∧ d = d' ∧ rows = rows') := by
  unfold shD
  rw [eqv_tup, eqvAll_cons, eqvAll_cons, eqvAll_cons, eqvAll_cons, eqvAll_nil, eqv_int, eqv_int, eqv_int, eqv_tup, eqv_rows, Bool.and_true]
  by_cases h1 : a = a' <;> by_cases h2 : b = b' <;> by_cases h3 : d = d' <;> by_cases h4 : rows = rows' <;> simp [h1, h2, h3, h4]
theorem lay_rows : ∀ {rows : List (List Nat)}, (∀ r ∈ rows, ∀ c ∈ r, c ≤ 9) → PyData.canLayAll0 (rowD rows) = true
  | [], _ => by simp [rowD, PyData.canLayAll0]
  | r :: rs, h => by
    show PyData.canLayAll0 (.str (dg r) :: rowD rs) = true
    simp only [PyData.canLayAll0, PyData.canLay0, Bool.and_eq_true]
    exact ⟨dg_ok (h r (List.mem_cons_self ..)), lay_rows fun r' m => h r' (List.mem_cons_of_mem _ m)⟩
theorem depth_rows : ∀ rows : List (List Nat), PyData.depthAll (rowD rows) = 0
  | [] => by simp [rowD, PyData.depthAll]
  | r :: rs => by
    show PyData.depthAll (.str (dg r) :: rowD rs) = 0
    simp only [PyData.depthAll, PyData.depth, depth_rows rs]
    rfl
theorem shaped_sh {a b d : Int} {rows : List (List Nat)} (h : ∀ r ∈ rows, ∀ c ∈ r, c ≤ 9) : SeqAt.shaped (shD a b d rows) = true := by
  simp only [SeqAt.shaped, shD, PyData.canLay0, PyData.canLayAll0, PyData.depth, PyData.depthAll, lay_rows h, depth_rows]
  decide
theorem dp_rows {K : PySem.W.Frag} {H : Hp} : ∀ rows : List (List Nat), DpAll K H (rowV rows) (rowD rows)
  | [] => .nil
  | r :: rs => .cons (.str _) (dp_rows rs)
theorem nrows_fig {f : Col} (hf : ∀ x y, f x y ≤ 9) (a d : Int) : ∀ r ∈ nrows f a d, ∀ c ∈ r, c ≤ 9 := by
  intro r hr c hc
  unfold nrows at hr
  obtain ⟨y, _, rfl⟩ := List.mem_map.mp hr
  obtain ⟨x, _, rfl⟩ := List.mem_map.mp hc
  exact hf _ _
section
variable {P : Program} {w : World} {K : PySem.W.Frag} {mg : Str → Option Value} {base : Heap}
/-! Carpet.lattice, least, sign -/
theorem sc_Carpet_lattice : FnScope ["self"] ["self"] (defScope s_Carpet_lattice) := ⟨rfl, rfl, rfl, by decide +kernel, rfl, by decide +kernel, by decide +kernel⟩
def sp_car_lattice (K : PySem.W.Frag) : Sp := fun vs H Q _ => ∃ (p : Addr) (a b d : Int) (rows : List (List Nat)), vs = [.ref p] ∧ CarAt K H p a b d rows ∧ ∀ H' x, Same H H' → LatAt K H' x a b d → Q (.ref x) H'
theorem ok_car_lattice (T : Tx P w K mg base) : OkM CX0 P w K mg base 6 (He.ga K "Carpet") "lattice" ["self"] (sp_car_lattice K) := by
  refine mkM (st := s_Carpet_lattice) T.e_Carpet_lattice T.m_Carpet_lattice (fun _ _ _ _ _ _ us hl => match us, hl with | [_], _ => rfl) sc_Carpet_lattice (fun vs H Q E h => ?_) (fun f cdv A outer s H vs Q E hr h => ?_)
  · obtain ⟨p, a, b, d, rows, rfl, _⟩ := h
    rfl
  · obtain ⟨p, a, b, d, rows, rfl, ⟨R, B, S, N, a', b', d', hx⟩, q⟩ := h
    obtain ⟨dx, hp⟩ := hx.ob
    have cl := T.c_Carpet
    refine ⟨_, pss_one (ps_ret (pe_kR (ok_lat_init T) (fun _ _ _ h => rLat_ok h) T.g_Lattice hr (pa_cons (pe_fld (pv 0) rfl) (pa_cons (pe_fld (pv 0) rfl) (pa_cons (pe_fld (pv 0) rfl) pa_nil))))), ?_⟩
    refine ⟨_, rfl, p, _, dx, _, _, rfl, hp, cl, T.n_Carpet_a, rfl, _, rfl, p, _, dx, _, _, rfl, hp, cl, T.n_Carpet_b, rfl, _, rfl, p, _, dx, _, _, rfl, hp, cl, T.n_Carpet_d, rfl, a, b, d, rfl, hx.tol.bas, fun H' x s nx l => q H' x s l⟩
theorem sc_Carpet_least : FnScope ["self"] ["self"] (defScope s_Carpet_least) := ⟨rfl, rfl, rfl, by decide +kernel, rfl, by decide +kernel, by decide +kernel⟩
def sp_car_least (K : PySem.W.Frag) : Sp := fun vs H Q _ => ∃ (p : Addr) (a b d : Int) (rows : List (List Nat)), vs = [.ref p] ∧ CarAt K H p a b d rows ∧ ∀ x a' b' d', LatAt K H x a' b' d' → Lst (sigR a b d rows) a' b' d' → a' ≤ a → d' ≤ d → Q (.ref x) H
theorem ok_car_least (T : Tx P w K mg base) : OkM CX0 P w K mg base 1 (He.ga K "Carpet") "least" ["self"] (sp_car_least K) := by
  refine mkM (st := s_Carpet_least) T.e_Carpet_least T.m_Carpet_least (fun _ _ _ _ _ _ us hl => match us, hl with | [_], _ => rfl) sc_Carpet_least (fun vs H Q E h => ?_) (fun f cdv A outer s H vs Q E hr h => ?_)
  · obtain ⟨p, a, b, d, rows, rfl, _⟩ := h
    rfl
  · obtain ⟨p, a, b, d, rows, rfl, ⟨R, B, S, N, a', b', d', hx⟩, q⟩ := h
    obtain ⟨dx, hp⟩ := hx.ob
    refine ⟨_, pss_one (ps_ret (pe_fld (pv 0) rfl)), ?_⟩
    exact ⟨_, rfl, p, _, dx, _, _, rfl, hp, T.c_Carpet, T.n_Carpet_basis, rfl, q B a' b' d' hx.hB hx.lst hx.la hx.ld⟩
theorem sc_Carpet_sign : FnScope ["self", "cell"] ["self", "cell"] (defScope s_Carpet_sign) := ⟨rfl, rfl, rfl, by decide +kernel, rfl, by decide +kernel, by decide +kernel⟩
def sp_car_sign (K : PySem.W.Frag) : Sp := fun vs H Q _ => ∃ (p t : Addr) (a b d x y : Int) (rows : List (List Nat)), vs = [.ref p, .ref t] ∧ CarAt K H p a b d rows ∧ H t = some (.tup [.int x, .int y]) ∧ ∀ H', Same H H' → Q (.str (dg [sigR a b d rows x y])) H'
theorem ok_car_sign (T : Tx P w K mg base) : OkM CX0 P w K mg base 7 (He.ga K "Carpet") "sign" ["self", "cell"] (sp_car_sign K) := by
  refine mkM (st := s_Carpet_sign) T.e_Carpet_sign T.m_Carpet_sign (fun _ _ _ _ _ _ us hl => match us, hl with | [_, _], _ => rfl) sc_Carpet_sign (fun vs H Q E h => ?_) (fun f cdv A outer s H vs Q E hr h => ?_)
  · obtain ⟨p, t, a, b, d, x, y, rows, rfl, _⟩ := h
    rfl
  · obtain ⟨p, t, a, b, d, x, y, rows, rfl, hc, ht, q⟩ := h
    obtain ⟨R, B, S, N, a', b', d', hx⟩ := id hc
    obtain ⟨dx, hp⟩ := hx.ob
    refine ⟨_, pss_one (ps_ret (pe_g (ok_sign_at T) (hr.mono (by decide)) (pa_cons (pe_m0 (ok_car_lattice T) T.c_Carpet hr (pv 0)) (pa_cons (pe_fld (pv 0) rfl) (pa_cons (pv 1) pa_nil))))), ?_⟩
    refine ⟨_, rfl, p, dx, _, rfl, hp, by rfl, p, a, b, d, rows, rfl, hc, fun H1 l s1 hl => ?_⟩
    exact ⟨_, rfl, p, _, dx, _, _, rfl, s1 _ _ hp, T.c_Carpet, T.n_Carpet_rows, rfl, _, rfl, l, R, t, a, b, d, x, y, rows, rfl, hl, s1 _ _ hx.hR, s1 _ _ ht, hx.tol, fun H2 s2 => q _ (s1.trans s2)⟩
/-! Carpet.__eq__ -/
theorem sc_Carpet_eq : FnScope ["self", "other"] ["self", "other"] (defScope s_Carpet___eq__) := ⟨rfl, rfl, rfl, by decide +kernel, rfl, by decide +kernel, by decide +kernel⟩
def sp_car_eq (K : PySem.W.Frag) : Sp := fun vs H Q _ => ∃ (p q : Addr) (a b d a2 b2 d2 : Int) (rows rows2 : List (List Nat)), vs = [.ref p, .ref q] ∧ CarAt K H p a b d rows ∧ CarAt K H q a2 b2 d2 rows2 ∧
  ∀ c, (c = true ↔ ∀ u v, sigR a b d rows u v = sigR a2 b2 d2 rows2 u v) → Q (.bl c) H
theorem dp_sh {H : Hp} {p : Addr} {a b d : Int} {rows : List (List Nat)} {R B S N : Addr} {a' b' d' : Int} (h : CarX K H p a b d rows R B S N a' b' d') : Dp K H (.ref S) (shD a' b' d' (nrows (sigR a b d rows) a' d')) :=
  .tup (sqT_of h.hS) (.cons (.int _) (.cons (.int _) (.cons (.int _) (.cons (.tup (sqT_of h.hN) (dp_rows _)) .nil))))
theorem fig_of {a b d : Int} {rows : List (List Nat)} (t : Tol a b d rows) (x y : Int) : sigR a b d rows x y ≤ 9 := by
  obtain ⟨_, _, _, _, h⟩ := t.at_ x y
  exact h
theorem ok_car_eq (T : Tx P w K mg base) : OkM CX0 P w K mg base 1 (He.ga K "Carpet") "__eq__" ["self", "other"] (sp_car_eq K) := by
  refine mkM (st := s_Carpet___eq__) T.e_Carpet___eq__ T.m_Carpet___eq__ (fun _ _ _ _ _ _ us hl => match us, hl with | [_, _], _ => rfl) sc_Carpet_eq (fun vs H Q E h => ?_) (fun f cdv A outer s H vs Q E hr h => ?_)
  · obtain ⟨p, q, a, b, d, a2, b2, d2, rows, rows2, rfl, _⟩ := h
    rfl
  · obtain ⟨p, p2, a, b, d, a2, b2, d2, rows, rows2, rfl, ⟨R, B, S, N, a', b', d', hx⟩, ⟨R2, B2, S2, N2, a2', b2', d2', hy⟩, q⟩ := h
    obtain ⟨dx, hp⟩ := hx.ob
    obtain ⟨dy, hp2⟩ := hy.ob
    refine ⟨_, pss_one (ps_ret (pe_and (pe_callB call_isi (by rfl) T.f_isinstance (by decide +kernel) (pa_cons (pv 1) (pa_cons (pe_glob (v := .ref (He.ga K "Carpet")) (by rfl) T.g_Carpet rfl) pa_nil)))
      (pe_one (pe_cmpR (op_eqD hr.units) (pe_fld (pv 0) rfl) (pe_fld (pv 1) rfl) (nomark _))))), ?_⟩
    refine ⟨_, rfl, _, _, _, _, true, rfl, .own _, .base (.ins hp2 T.c_Carpet T.ex.iD.1 T.ex.hn T.ex.tk T.ex.iD.2), kit_self, true, rfl, iteT ?_⟩
    refine ⟨_, rfl, p, _, dx, _, _, rfl, hp, T.c_Carpet, T.n_Carpet_shape, rfl, _, rfl, p2, _, dy, _, _, rfl, hp2, T.c_Carpet, T.n_Carpet_shape, rfl, _, _, dp_sh hx, dp_sh hy, shaped_sh (nrows_fig (fig_of hx.tol) _ _), shaped_sh (nrows_fig (fig_of hy.tol) _ _), ?_⟩
    refine q _ ?_
    rw [eqv_sh, decide_eq_true_eq]
    exact normal_iff hx.lst hy.lst
/-! Carpet.is_period -/
theorem sc_Carpet_is_period : FnScope ["self", "shift"] ["self", "shift"] (defScope s_Carpet_is_period) := ⟨rfl, rfl, rfl, by decide +kernel, rfl, by decide +kernel, by decide +kernel⟩
def sp_car_period (K : PySem.W.Frag) : Sp := fun vs H Q _ => ∃ (p t : Addr) (a b d x y : Int) (rows : List (List Nat)), vs = [.ref p, .ref t] ∧ CarAt K H p a b d rows ∧ H t = some (.tup [.int x, .int y]) ∧ ∀ H' c, Same H H' → (c = true ↔ per (sigR a b d rows) x y) → Q (.bl c) H'
theorem ok_car_period (T : Tx P w K mg base) : OkM CX0 P w K mg base 6 (He.ga K "Carpet") "is_period" ["self", "shift"] (sp_car_period K) := by
  obtain ⟨fc, fdc, Mc, bc, Fc⟩ := ok_contains T
  refine mkM (st := s_Carpet_is_period) T.e_Carpet_is_period T.m_Carpet_is_period (fun _ _ _ _ _ _ us hl => match us, hl with | [_, _], _ => rfl) sc_Carpet_is_period (fun vs H Q E h => ?_) (fun f cdv A outer s H vs Q E hr h => ?_)
  · obtain ⟨p, t, a, b, d, x, y, rows, rfl, _⟩ := h
    rfl
  · obtain ⟨p, t, a, b, d, x, y, rows, rfl, ⟨R, B, S, N, a', b', d', hx⟩, ht, q⟩ := h
    obtain ⟨dx, hp⟩ := hx.ob
    obtain ⟨dy, hb⟩ := hx.hB
    have al := hx.tol.a_le
    have dl := hx.tol.d_le
    have la := hx.la
    have ld := hx.ld
    refine ⟨_, pss_cons (ps_expr (pe_g (ok_check_shift T) (hr.mono (by decide)) (pa_cons (pv 1) pa_nil))) (pss_one (ps_ret (pe_cmpR (op_inOwn Fc hr bc Mc pass0) (pv 1) (pe_fld (pv 0) rfl) (by rfl)))), ?_⟩
    refine ⟨_, rfl, t, x, y, rfl, ht, ?_⟩
    refine ⟨_, rfl, _, rfl, p, _, dx, _, _, rfl, hp, T.c_Carpet, T.n_Carpet_basis, rfl, B, dy, _, rfl, hb, B, t, a', b', d', x, y, rfl, ⟨dy, hb⟩, ht, ⟨⟨hx.lst.ha, hx.lst.hb, hx.lst.hba, hx.lst.hd⟩, by omega, by omega⟩, fun H' s => ⟨_, rfl, q _ _ s ?_⟩⟩
    rw [decide_eq_true_eq, hx.lst.all, inL_iff hx.lst.ha hx.lst.hd]
def sp_period_bad (K : PySem.W.Frag) : Sp := fun vs H _ E => ∃ p v, vs = [p, v] ∧ ShV H v false ∧ partE K E H "shift"
theorem ok_car_period_bad (T : Tx P w K mg base) : OkM (L2.CX P w) P w K mg base 4 (He.ga K "Carpet") "is_period" ["self", "shift"] (sp_period_bad K) := by
  obtain ⟨fc, fdc, gc, kc, bc, Fc⟩ := ok_check_shift_bad T
  refine mkMX (st := s_Carpet_is_period) T.e_Carpet_is_period T.m_Carpet_is_period (fun _ _ _ _ _ _ us hl => match us, hl with | [_, _], _ => rfl) sc_Carpet_is_period (fun vs H Q E h => ?_) (fun f cdv A outer s H vs Q E hr h => ?_)
  · obtain ⟨p, v, rfl, _⟩ := h
    rfl
  · obtain ⟨p, v, rfl, hv, q⟩ := h
    refine ⟨_, pss_cons (ps_expr (pe_callS Fc hr (by rfl) gc kc bc (fun σ => passAt (takes_of rfl rfl rfl rfl) σ) (pa_cons (pv 1) pa_nil))) (pss_one ps_never), ?_⟩
    exact ⟨_, rfl, v, rfl, hv, q⟩
/-! check_carpet -/
theorem sc_check_carpet : FnScope ["value"] ["value"] (defScope s_check_carpet) := ⟨rfl, rfl, rfl, by decide +kernel, rfl, by decide +kernel, by decide +kernel⟩
def sp_check_carpet (K : PySem.W.Frag) : Sp := fun vs H Q _ => ∃ (p : Addr) (a b d : Int) (rows : List (List Nat)), vs = [.ref p] ∧ CarAt K H p a b d rows ∧ Q .non H
theorem ok_check_carpet (T : Tx P w K mg base) : OkG CX0 P w K mg base 1 "check_carpet" ["value"] (sp_check_carpet K) := by
  refine mkG (st := s_check_carpet) T.e_check_carpet T.g_check_carpet (fun _ _ _ _ _ _ us hl => match us, hl with | [_], _ => rfl) sc_check_carpet (fun vs H Q E h => ?_) (fun f cdv A outer s H vs Q E hr h => ?_)
  · obtain ⟨p, a, b, d, rows, rfl, _⟩ := h
    rfl
  · obtain ⟨p, a, b, d, rows, rfl, ⟨R, B, S, N, a', b', d', hx⟩, q⟩ := h
    obtain ⟨dx, hp⟩ := hx.ob
    refine ⟨_, pss_one (ps_if (pt_not (pt_val (pe_callB call_isi (by rfl) T.f_isinstance (by decide +kernel) (pa_cons (pv 0) (pa_cons (pe_glob (v := .ref (He.ga K "Carpet")) (by rfl) T.g_Carpet rfl) pa_nil))))) (pss_one ps_never) pss_nil), ?_⟩
    exact ⟨_, rfl, _, _, _, _, true, rfl, .own _, .base (.ins hp T.c_Carpet T.ex.iD.1 T.ex.hn T.ex.tk T.ex.iD.2), kit_self, true, rfl, iteF q⟩
/-- no carpet -/
inductive NoCar (H : Hp) : V → Prop where
  | non : NoCar H .non
  | int (i : Int) : NoCar H (.int i)
  | str (z : Str) : NoCar H (.str z)
  | lst {t : Addr} {xs : List V} (h : H t = some (.lst xs)) : NoCar H (.ref t)
def sp_carpet_bad (K : PySem.W.Frag) : Sp := fun vs H _ E => ∃ v, vs = [v] ∧ NoCar H v ∧ partE K E H "carpet"
theorem ok_check_carpet_bad (T : Tx P w K mg base) : OkG (L2.CX P w) P w K mg base 3 "check_carpet" ["value"] (sp_carpet_bad K) := by
  refine mkX (st := s_check_carpet) T.e_check_carpet T.g_check_carpet (fun _ _ _ _ _ _ us hl => match us, hl with | [_], _ => rfl) sc_check_carpet (fun vs H Q E h => ?_) (fun f cdv A outer s H vs Q E hr h => ?_)
  · obtain ⟨v, rfl, _⟩ := h
    rfl
  · obtain ⟨v, rfl, hv, q⟩ := h
    refine ⟨_, pss_one (ps_if (pt_not (pt_val (pe_callB call_isi (by rfl) T.f_isinstance (by decide +kernel) (pa_cons (pv 0) (pa_cons (pe_glob (v := .ref (He.ga K "Carpet")) (by rfl) T.g_Carpet rfl) pa_nil))))) (pss_one (ps_raiseBp rfl T.bp hr (takes_of rfl rfl rfl rfl) (by exact (pa_cons pe_str pa_nil)))) pss_nil), ?_⟩
    cases hv with
    | non => exact ⟨_, rfl, _, _, _, _, false, rfl, .own _, .base .non, T.ex.no1, false, rfl, iteT ⟨_, rfl, q⟩⟩
    | int i => exact ⟨_, rfl, _, _, _, _, false, rfl, .own _, .base (.int i), T.ex.no2, false, rfl, iteT ⟨_, rfl, q⟩⟩
    | str z => exact ⟨_, rfl, _, _, _, _, false, rfl, .own _, .base (.str z), T.ex.no4, false, rfl, iteT ⟨_, rfl, q⟩⟩
    | lst h => exact ⟨_, rfl, _, _, _, _, false, rfl, .own _, .base (.lst h), T.ex.no3, false, rfl, iteT ⟨_, rfl, q⟩⟩
end
end K12
namespace K12
open PySem PySem.Spec PyProof.Rows L2
/-! ### plain words -/
theorem rowTo_at {f g : Col} {y : Int} {n : Nat} (h : rowTo f y n = rowTo g y n) (u : Int) (u0 : 0 ≤ u) (u1 : u < n) : f u y = g u y := by
  have e : (rowTo f y n)[u.toNat]? = (rowTo g y n)[u.toNat]? := by rw [h]
  unfold rowTo at e
  rw [List.getElem?_map, List.getElem?_map, List.getElem?_range (by omega)] at e
  have e2 : f ((u.toNat : Nat) : Int) y = g ((u.toNat : Nat) : Int) y := Option.some.inj e
  rwa [Int.toNat_of_nonneg u0] at e2
theorem rowTo_get {f : Col} {y : Int} {n i : Nat} (h : i < n) : (rowTo f y n)[i]? = some (f (i : Nat) y) := by
  unfold rowTo
  rw [List.getElem?_map, List.getElem?_range h]
  rfl
def unTo (f g : Col) (y : Int) (n : Nat) : List Nat := (List.range n).filter fun i => !decide (f (i : Nat) y = g (i : Nat) y)
theorem unTo_succ (f g : Col) (y : Int) (n : Nat) : unTo f g y (n + 1) = unTo f g y n ++ (if (!decide (f (n : Nat) y = g (n : Nat) y)) = true then [n] else []) := by
  unfold unTo
  rw [List.range_succ, List.filter_append]
  cases z : decide (f (n : Nat) y = g (n : Nat) y) <;> simp only [List.filter, z, Bool.not_true, Bool.not_false, if_true, if_false] <;> simp
theorem unTo_len (f g : Col) (y : Int) (n : Nat) : (unTo f g y n).length ≤ n := by
  unfold unTo
  refine Nat.le_trans (List.length_filter_le _ _) ?_
  simp
/-- the first unlike column -/
theorem unTo_head {f g : Col} {y : Int} : ∀ {n : Nat}, rowTo f y n ≠ rowTo g y n → ∃ x, x < n ∧ (unTo f g y n)[0]? = some x ∧ f (x : Nat) y ≠ g (x : Nat) y ∧ ∀ u, u < x → f (u : Nat) y = g (u : Nat) y
  | 0, h => absurd rfl h
  | n + 1, h => by
    by_cases k : rowTo f y n = rowTo g y n
    · have hn : f (n : Nat) y ≠ g (n : Nat) y := fun e => h (by rw [rowTo_succ, rowTo_succ, k, e])
      have hz : unTo f g y n = [] := by
        unfold unTo
        rw [List.filter_eq_nil_iff]
        intro a ha
        have := rowTo_at k (a : Nat) (by omega) (by have := List.mem_range.mp ha; omega)
        simp [this]
      refine ⟨n, Nat.lt_succ_self n, ?_, hn, fun u hu => rowTo_at k (u : Nat) (by omega) (by omega)⟩
      rw [unTo_succ, hz, decide_eq_false hn]
      rfl
    · obtain ⟨x, h1, h2, h3, h4⟩ := unTo_head k
      refine ⟨x, by omega, ?_, h3, h4⟩
      rw [unTo_succ, List.getElem?_append_left (List.getElem?_eq_some_iff.mp h2).1]
      exact h2
section
variable {P : Program} {w : World} {K : PySem.W.Frag} {mg : Str → Option Value} {base : Heap}
/-! signs_of_row -/
theorem sc_signs_of_row : FnScope ["carpet", "y", "many", "least", "first", "x"] ["carpet", "y", "many"] (defScope s_signs_of_row) := ⟨rfl, rfl, rfl, by decide +kernel, rfl, by decide +kernel, by decide +kernel⟩
def sp_signs (K : PySem.W.Frag) : Sp := fun vs H Q _ => ∃ (p : Addr) (a b d y m : Int) (rows : List (List Nat)), vs = [.ref p, .int y, .int m] ∧ CarAt K H p a b d rows ∧ (0 < m ∧ m ≤ 20736 ∧ per (sigR a b d rows) m 0) ∧ ∀ H', Same H H' → Q (.str (dg (rowTo (sigR a b d rows) y m.toNat))) H'
theorem ok_signs_of_row (T : Tx P w K mg base) : OkG CX0 P w K mg base 8 "signs_of_row" ["carpet", "y", "many"] (sp_signs K) := by
  refine mkG (st := s_signs_of_row) T.e_signs_of_row T.g_signs_of_row (fun _ _ _ _ _ _ us hl => match us, hl with | [_, _, _], _ => rfl) sc_signs_of_row (fun vs H Q E h => ?_) (fun f cdv A outer s H vs Q E hr h => ?_)
  · obtain ⟨p, a, b, d, y, m, rows, rfl, _⟩ := h
    rfl
  · obtain ⟨p, a, b, d, y, m, rows, rfl, hc, ⟨m0, m1, pm⟩, q⟩ := h
    have nd := sc_signs_of_row.nd
    obtain ⟨R, B, S, N, a', b', d', hx⟩ := id hc
    obtain ⟨dx, hp⟩ := hx.ob
    refine ⟨_, pss_cons (ps_set (i := 3) nd rfl (Or.inl rfl) (pe_m0 (ok_car_least T) T.c_Carpet (hr.mono (by decide)) (pv 0)))
      (pss_cons (ps_set (i := 4) nd rfl (Or.inl rfl) (pe_join pe_str (pe_lc (own := [("x", 5)]) (g := gName 5) (tt := tYes)
          (te := tMeth (He.ga K "Carpet") "sign" (sp_car_sign K) [] E0 (tVar 0) (tCons (tTup (tCons (tVar 5) (tCons (tVar 1) tNil))) tNil))
          (by rfl) nd (pi_range1 rfl T.f_range (pa_cons (pe_callB (call_min2 rfl) (by rfl) T.f_min (by decide +kernel) (pa_cons (xInt T.f_int (pe_fld (pv 3) rfl)) (pa_cons (xInt T.f_int (pv 2)) pa_nil))) pa_nil))
          (blkOk_by (N := ["carpet", "y", "many", "least", "first", "x"]) (sc := defScope s_signs_of_row) (by decide +kernel)) (fun _ _ _ _ _ => pg_name (i := 5) nd rfl (Or.inl rfl)) (fun _ _ _ _ _ => pts_nil)
          (fun _ _ _ _ _ => pe_m (ok_car_sign T) T.c_Carpet hr (pv 0) (pa_cons (pe_tup (pa_cons (pv 5) (pa_cons (pv 1) pa_nil))) pa_nil)))))
      (pss_one (ps_ret (pe_slice sl_str (pe_op op_mulS (pv 4) (pe_op op_add (pe_op op_fdiv (pv 2) (pe_fld (pv 3) rfl)) pe_int)) po_none (po_some (pv 2)))))), ?_⟩
    refine ⟨_, rfl, p, dx, _, rfl, hp, by rfl, p, a, b, d, rows, rfl, hc, fun l a' b' d' hl hL la ld => ?_⟩
    obtain ⟨dy, hl⟩ := hl
    have a0 := hL.ha
    have am : a' ≤ m := Int.le_of_dvd m0 (hL.a_dvd pm)
    have fa := hL.pa
    have ea : ((a'.toNat : Nat) : Int) = a' := Int.toNat_of_nonneg (by omega)
    have em : ((m.toNat : Nat) : Int) = m := Int.toNat_of_nonneg (by omega)
    refine ⟨⟨_, rfl⟩, _, rfl, l, _, dy, _, _, rfl, hl, T.c_Lattice, T.n_Lattice_a, rfl, .inl ⟨_, rfl, _, rfl, .inl ⟨_, rfl, a', m, rfl, a', by rw [if_neg (by omega)], by omega, by omega, fun D hD => ?_⟩⟩⟩
    refine lc_range (fun j H' => Same H H' ∧ H' D = some (.lst ((rowTo (sigR a b d rows) y j).map fun c => V.str (dg [c])))) ⟨same_upd hD, upd_same⟩ ?_ ?_
    · rintro j H2 hj ⟨s2, hd⟩
      refine ⟨rfl, _, rfl, p, dx, _, rfl, s2 _ _ hp, by rfl, _, rfl, _, rfl, two_line, fun t ht => ?_⟩
      have s3 := same_upd (o := .tup [.int (0 + j), .int y]) ht
      refine ⟨p, t, a, b, d, 0 + j, y, rows, rfl, hc.same (s2.trans s3), upd_same, fun H4 s4 => ⟨_, (s3.trans s4) _ _ hd, ?_, sameD ((s2.trans s3).trans s4) hD, ?_⟩⟩
      · rw [List.length_map, rowTo_len]
        exact line_of (by omega)
      · rw [upd_same, rowTo_succ, List.map_append, Int.zero_add (j : Int)]
        rfl
    · rintro H2 ⟨s2, hd⟩
      rw [map_sign] at hd
      refine ⟨_, D, _, rfl, rfl, .inl (sqL_of hd), join_need (by rw [rowTo_len]; omega), ?_⟩
      rw [join_dg]
      have q0 : 0 ≤ m / a' := Int.ediv_nonneg (by omega) (by omega)
      have q1 : m / a' ≤ m := Int.ediv_le_self _ (by omega)
      have q2 : m < a' * (m / a' + 1) := by
        have h1 := Int.emod_add_mul_ediv m a'
        have h2 := Int.emod_lt_of_pos m a0
        rw [Int.mul_add, Int.mul_one]
        omega
      have q3 : a' * (m / a' + 1) ≤ m + a' := by
        have h1 := Int.emod_add_mul_ediv m a'
        have h2 := Int.emod_nonneg m (show a' ≠ 0 by omega)
        rw [Int.mul_add, Int.mul_one]
        omega
      have al := hx.tol.a_le
      have en : ((m / a' + 1).toNat : Int) = m / a' + 1 := Int.toNat_of_nonneg (by omega)
      have en2 : ((a'.toNat * (m / a' + 1).toNat : Nat) : Int) = a' * (m / a' + 1) := by rw [Int.natCast_mul, ea, en]
      refine ⟨_, rfl, _, rfl, _, rfl, l, _, dy, _, _, rfl, s2 _ _ hl, T.c_Lattice, T.n_Lattice_a, rfl, _, _, rfl, rfl, ⟨a0, by omega⟩, _, _, rfl, rfl, _, _, rfl, rfl, by omega, by omega, ?_, ?_⟩
      · rw [dg_len, rowTo_len]
        omega
      · refine ⟨_, rfl, m, rfl, _, rfl, ?_, ?_⟩
        · refine line_le ?_
          have : (repS (dg (rowTo (sigR a b d rows) y a'.toNat)) (m / a' + 1).toNat).length = a'.toNat * (m / a' + 1).toNat := by
            show (repS (dg (rowTo (sigR a b d rows) y a'.toNat)) (m / a' + 1).toNat).cps.size = _
            rw [← Array.length_toList, repS_cps, dg_cps, rowTo_rep (by rw [ea]; exact fa), List.length_map, rowTo_len]
          rw [this]
          omega
        · have e := row_cut (f := sigR a b d rows) (y := y) (k := a'.toNat) (n := (m / a' + 1).toNat) (m := m.toNat) (by rw [ea]; exact fa) (by omega)
          rw [em] at e
          rw [e]
          exact q _ s2
/-! parting_of -/
theorem sc_parting_of : FnScope ["one", "other", "both", "y", "row", "beside", "x"] ["one", "other"] (defScope s_parting_of) := ⟨rfl, rfl, rfl, by decide +kernel, rfl, by decide +kernel, by decide +kernel⟩
/-- a cell, or None -/
def PartV (H : Hp) (v : V) : Option (Int × Int) → Prop
  | none => v = .non
  | some (x, y) => ∃ t, v = .ref t ∧ H t = some (.tup [.int x, .int y])
def sp_parting (K : PySem.W.Frag) : Sp := fun vs H Q _ => ∃ (p q : Addr) (a b d a2 b2 d2 : Int) (rows rows2 : List (List Nat)), vs = [.ref p, .ref q] ∧ CarAt K H p a b d rows ∧ CarAt K H q a2 b2 d2 rows2 ∧
  ∀ H' v r, Same H H' → IsPart (sigR a b d rows) (sigR a2 b2 d2 rows2) r → PartV H' v r → Q v H'
theorem ok_parting_of (T : Tx P w K mg base) : OkG CX0 P w K mg base 9 "parting_of" ["one", "other"] (sp_parting K) := by
  refine mkG (st := s_parting_of) T.e_parting_of T.g_parting_of (fun _ _ _ _ _ _ us hl => match us, hl with | [_, _], _ => rfl) sc_parting_of (fun vs H Q E h => ?_) (fun f cdv A outer s H vs Q E hr h => ?_)
  · obtain ⟨p, q, a, b, d, a2, b2, d2, rows, rows2, rfl, _⟩ := h
    rfl
  · obtain ⟨p, p2, a, b, d, a2, b2, d2, rows, rows2, rfl, hc, hc2, q⟩ := h
    have nd := sc_parting_of.nd
    obtain ⟨R, B, S, N, a', b', d', hx⟩ := id hc
    obtain ⟨dx, hp⟩ := hx.ob
    obtain ⟨R2, B2, S2, N2, a2', b2', d2', hy⟩ := id hc2
    obtain ⟨dx2, hp2⟩ := hy.ob
    have hr1 : Room 1 _ := hr.mono (by decide)
    refine ⟨_, pss_cons (ps_set (i := 2) nd rfl (Or.inl rfl) (pe_g (ok_common_lattice T) (hr.mono (by decide)) (pa_cons (pe_m0 (ok_car_least T) T.c_Carpet hr1 (pv 0)) (pa_cons (pe_m0 (ok_car_least T) T.c_Carpet hr1 (pv 1)) pa_nil))))
      (pss_cons (ps_for PassesOwn.never rfl (pi_range1 rfl T.f_range (pa_cons (pe_fld (pv 2) rfl) pa_nil)) (pg_name (i := 3) nd rfl (Or.inl rfl))
        (pss_cons (ps_asg (pe_tup (pa_cons (pe_g (ok_signs_of_row T) hr (pa_cons (pv 0) (pa_cons (pv 3) (pa_cons (pe_fld (pv 2) rfl) pa_nil)))) (pa_cons (pe_g (ok_signs_of_row T) hr (pa_cons (pv 1) (pa_cons (pv 3) (pa_cons (pe_fld (pv 2) rfl) pa_nil)))) pa_nil)))
          (pg_tup (by rfl) (pgs_cons (pg_name (i := 4) nd rfl (.inr rfl)) (pgs_cons (pg_name (i := 5) nd rfl (.inr rfl)) pgs_nil))))
        (pss_one (ps_if (pt_cmpR op_ne (pv 4) (pv 5) (nomark _))
          (pss_one (ps_ret (pe_tup (pa_cons (pe_ix ix_list (pe_lc (own := [("x", 6)]) (g := gName 6) (by rfl) nd (pi_range1 rfl T.f_range (pa_cons (pe_fld (pv 2) rfl) pa_nil)) (blkOk_by (N := ["one", "other", "both", "y", "row", "beside", "x"]) (sc := defScope s_parting_of) (by decide +kernel)) (fun _ _ _ _ _ => pg_name (i := 6) nd rfl (Or.inl rfl))
              (fun _ _ _ _ _ => pts_one (pt_cmpR op_ne (pe_ix ix_str (pv 4) (pv 6) (fun _ _ => rfl)) (pe_ix ix_str (pv 5) (pv 6) (fun _ _ => rfl)) (nomark _))) (fun _ _ _ _ _ => pv 6)) pe_int (fun _ _ => rfl)) (pa_cons (pv 3) pa_nil))))) pss_nil))))
      (pss_one (ps_ret pe_non))), ?_⟩
    refine ⟨_, rfl, p, dx, _, rfl, hp, by rfl, p, a, b, d, rows, rfl, hc, fun l a' b' d' hl hL la ld => ?_⟩
    refine ⟨_, rfl, p2, dx2, _, rfl, hp2, by rfl, p2, a2, b2, d2, rows2, rfl, hc2, fun l2 a2' b2' d2' hl2 hL2 la2 ld2 => ?_⟩
    have al := hx.tol.a_le
    have dl := hx.tol.d_le
    have al2 := hy.tol.a_le
    have dl2 := hy.tol.d_le
    refine ⟨l, l2, a', b', d', a2', b2', d2', rfl, hl, hl2, ⟨hL.ha, hL.hb, hL.hba, hL.hd⟩, ⟨hL2.ha, hL2.hb, hL2.hba, hL2.hd⟩, ⟨by omega, by omega, by omega, by omega⟩, fun H1 o A' B' D' s1 ho hB hA hD i1 i2 i3 i4 => ?_⟩
    obtain ⟨dz, ho⟩ := ho
    obtain ⟨k1, k2, k3, k4⟩ := id hB
    have pa := (hL.all A' 0).mpr i1
    have pa2 := (hL2.all A' 0).mpr i2
    have pb := (hL.all B' D').mpr i3
    have pb2 := (hL2.all B' D').mpr i4
    have cl := T.c_Lattice
    have eA : ((A'.toNat : Nat) : Int) = A' := Int.toNat_of_nonneg (by omega)
    refine ⟨_, rfl, o, _, dz, _, _, rfl, ho, cl, T.n_Lattice_d, rfl, D', rfl, by omega, by omega, for_range (lo := 0) (n := D'.toNat) (fun i σ H' => (∃ o1 o2 o3, σ = [some (.ref p), some (.ref p2), some (.ref o), o1, o2, o3, none]) ∧ Same H1 H' ∧ ∀ y : Int, 0 ≤ y → y < i → rowTo (sigR a b d rows) y A'.toNat = rowTo (sigR a2 b2 d2 rows2) y A'.toNat) ⟨⟨_, _, _, rfl⟩, Same.refl _, fun y y0 y1 => by omega⟩ ?_ ?_⟩
    · rintro i σ H2 hi ⟨⟨o1, o2, o3, rfl⟩, s2, heq⟩
      have s12 := s1.trans s2
      rw [Int.zero_add]
      refine ⟨_, rfl, _, rfl, _, rfl, o, _, dz, _, _, rfl, s2 _ _ ho, cl, T.n_Lattice_a, rfl, p, a, b, d, (i : Nat), A', rows, rfl, hc.same s12, ⟨by omega, hA, pa⟩, fun H3 s3 => ?_⟩
      refine ⟨_, rfl, _, rfl, _, rfl, o, _, dz, _, _, rfl, (s2.trans s3) _ _ ho, cl, T.n_Lattice_a, rfl, p2, a2, b2, d2, (i : Nat), A', rows2, rfl, hc2.same (s12.trans s3), ⟨by omega, hA, pa2⟩, fun H4 s4 => ?_⟩
      refine ⟨two_line, fun t ht => ?_⟩
      have s5 := same_upd (o := .tup [.str (dg (rowTo (sigR a b d rows) (i : Nat) A'.toNat)), .str (dg (rowTo (sigR a2 b2 d2 rows2) (i : Nat) A'.toNat))]) ht
      have s25 := ((s2.trans s3).trans s4).trans s5
      refine ⟨t, _, rfl, sqT_of upd_same, rfl, _, _, rfl, _, _, rfl, rfl, ?_⟩
      refine ⟨_, rfl, _, rfl, rfl, _, rfl, ?_⟩
      by_cases z : rowTo (sigR a b d rows) i A'.toNat = rowTo (sigR a2 b2 d2 rows2) i A'.toNat
      · rw [decide_eq_true (by rw [z])]
        refine iteF ⟨⟨_, _, _, rfl⟩, s25, fun y y0 y1 => ?_⟩
        by_cases k : y = i
        · rw [k]; exact z
        · exact heq y y0 (by omega)
      · rw [decide_eq_false (fun k => z (dg_inj (V.str.inj k)))]
        obtain ⟨x, x1, x2, x3, x4⟩ := unTo_head z
        refine iteT ⟨_, rfl, o, _, dz, _, _, rfl, s25 _ _ ho, cl, T.n_Lattice_a, rfl, A', rfl, by omega, by omega, fun L hL' => ?_⟩
        refine lc_range (fun j H' => Same H1 H' ∧ H' L = some (.lst ((unTo (sigR a b d rows) (sigR a2 b2 d2 rows2) i j).map fun x => V.int ((x : Nat) : Int)))) ⟨s25.trans (same_upd hL'), upd_same⟩ ?_ ?_
        · rintro j H6 hj ⟨s6, h6⟩
          have len1 : (dg (rowTo (sigR a b d rows) i A'.toNat)).length ≤ sizeLine := by
            rw [dg_len, rowTo_len]
            exact line_le (by omega)
          have len2 : (dg (rowTo (sigR a2 b2 d2 rows2) i A'.toNat)).length ≤ sizeLine := by
            rw [dg_len, rowTo_len]
            exact line_le (by omega)
          refine ⟨rfl, _, rfl, _, rfl, _, _, _, rfl, rfl, len1, by rw [Int.zero_add]; exact dg_at (rowTo_get hj), _, rfl, _, rfl, _, _, _, rfl, rfl, len2, by rw [Int.zero_add]; exact dg_at (rowTo_get hj), rfl, _, rfl, ?_⟩
          have ed : decide (V.str ⟨#[sigR a b d rows (j : Nat) i + 48]⟩ = V.str ⟨#[sigR a2 b2 d2 rows2 (j : Nat) i + 48]⟩) = decide (sigR a b d rows (j : Nat) i = sigR a2 b2 d2 rows2 (j : Nat) i) := by
            by_cases k : sigR a b d rows (j : Nat) i = sigR a2 b2 d2 rows2 (j : Nat) i
            · rw [k]; simp
            · rw [decide_eq_false k, decide_eq_false]
              intro e
              have e2 : dg [sigR a b d rows (j : Nat) i] = dg [sigR a2 b2 d2 rows2 (j : Nat) i] := V.str.inj e
              exact k (List.cons.inj (dg_inj e2)).1
          rw [ed]
          by_cases k : sigR a b d rows (j : Nat) i = sigR a2 b2 d2 rows2 (j : Nat) i
          · rw [decide_eq_true k]
            refine iteF ⟨s6, ?_⟩
            rw [unTo_succ, decide_eq_true k]
            simpa using h6
          · rw [decide_eq_false k]
            refine iteT ⟨_, rfl, _, h6, ?_, ?_, ?_⟩
            · rw [List.length_map]
              have := unTo_len (sigR a b d rows) (sigR a2 b2 d2 rows2) i j
              exact line_of (by omega)
            · intro c w e
              have nL : c ≠ L := ne_of_none (s25 _ _ e) hL'
              rw [upd_ne nL]
              exact s6 _ _ e
            · rw [upd_same, unTo_succ, decide_eq_false k, Int.zero_add]
              simp
        · rintro H6 ⟨s6, h6⟩
          refine ⟨L, _, 0, .int ((x : Nat) : Int), rfl, rfl, sqL_of h6, atI_nat (j := 0) (by rw [List.getElem?_map, x2]; rfl), _, rfl, two_line, fun u hu => ?_⟩
          refine q _ _ (some ((x : Int), (i : Int))) ((s1.trans s6).trans (same_upd hu)) ?_ ⟨u, rfl, upd_same⟩
          refine Searched.part (A := A') (B := B') (D := D') (E := D') ⟨(fun e => by cases e), ?_⟩ (by omega) (by omega) (Int.le_refl _) pa pa2 pb pb2
          intro x' y' e
          injection e with e
          injection e with ex ey
          subst ex ey
          exact ⟨by omega, by omega, by omega, by omega, x3, fun v v0 v1 u u0 u1 => rowTo_at (heq v v0 v1) u u0 (by omega), fun u u0 u1 => by
            have := x4 u.toNat (by omega)
            rwa [Int.toNat_of_nonneg u0] at this⟩
    · rintro σ H2 ⟨⟨o1, o2, o3, rfl⟩, s2, heq⟩
      refine q _ _ none (s1.trans s2) ?_ rfl
      exact Searched.part (A := A') (B := B') (D := D') (E := D') ⟨(fun _ y y0 y1 x x0 x1 => rowTo_at (heq y y0 (by omega)) x x0 (by omega)), (fun x y e => by cases e)⟩ (by omega) (by omega) (Int.le_refl _) pa pa2 pb pb2
end
end K12
namespace K12
open PySem PySem.Spec PyProof.Rows L2 LamX NdefX
section
variable {P : Program} {w : World} {K : PySem.W.Frag} {mg : Str → Option Value} {base : Heap}
/-! parting_cell -/
theorem sc_parting_cell : FnScope ["one", "other"] ["one", "other"] (defScope s_parting_cell) := ⟨rfl, rfl, rfl, by decide +kernel, rfl, by decide +kernel, by decide +kernel⟩
theorem ok_parting_cell (T : Tx P w K mg base) : OkG CX0 P w K mg base 10 "parting_cell" ["one", "other"] (sp_parting K) := by
  refine mkG (st := s_parting_cell) T.e_parting_cell T.g_parting_cell (fun _ _ _ _ _ _ us hl => match us, hl with | [_, _], _ => rfl) sc_parting_cell (fun vs H Q E h => ?_) (fun f cdv A outer s H vs Q E hr h => ?_)
  · obtain ⟨p, q, a, b, d, a2, b2, d2, rows, rows2, rfl, _⟩ := h
    rfl
  · obtain ⟨p, p2, a, b, d, a2, b2, d2, rows, rows2, rfl, hc, hc2, q⟩ := h
    refine ⟨_, pss_cons (ps_expr (pe_g (ok_check_carpet T) (hr.mono (by decide)) (pa_cons (pv 0) pa_nil)))
      (pss_cons (ps_expr (pe_g (ok_check_carpet T) (hr.mono (by decide)) (pa_cons (pv 1) pa_nil)))
      (pss_one (ps_ret (pe_g (ok_parting_of T) hr (pa_cons (pv 0) (pa_cons (pv 1) pa_nil)))))), ?_⟩
    exact ⟨_, rfl, p, a, b, d, rows, rfl, hc, _, rfl, p2, a2, b2, d2, rows2, rfl, hc2, _, rfl, _, rfl, p, p2, a, b, d, a2, b2, d2, rows, rows2, rfl, hc, hc2, fun H' v r s hp hv => q H' v r s hp hv⟩
/-- carpet or not -/
def sp_carpet_any (K : PySem.W.Frag) : Sp := fun vs H Q E => ∃ v, vs = [v] ∧ ((∃ p a b d rows, v = .ref p ∧ CarAt K H p a b d rows ∧ Q .non H) ∨ (NoCar H v ∧ partE K E H "carpet"))
theorem ok_check_carpet_any (T : Tx P w K mg base) : OkG (L2.CX P w) P w K mg base 3 "check_carpet" ["value"] (sp_carpet_any K) := by
  refine mkX (st := s_check_carpet) T.e_check_carpet T.g_check_carpet (fun _ _ _ _ _ _ us hl => match us, hl with | [_], _ => rfl) sc_check_carpet (fun vs H Q E h => ?_) (fun f cdv A outer s H vs Q E hr h => ?_)
  · obtain ⟨v, rfl, _⟩ := h
    rfl
  · obtain ⟨v, rfl, h⟩ := h
    refine ⟨_, pss_one (ps_if (pt_not (pt_val (pe_callB call_isi (by rfl) T.f_isinstance (by decide +kernel) (pa_cons (pv 0) (pa_cons (pe_glob (v := .ref (He.ga K "Carpet")) (by rfl) T.g_Carpet rfl) pa_nil))))) (pss_one (ps_raiseBp rfl T.bp hr (takes_of rfl rfl rfl rfl) (by exact (pa_cons pe_str pa_nil)))) pss_nil), ?_⟩
    rcases h with ⟨p, a, b, d, rows, rfl, ⟨R, B, S, N, a', b', d', hx⟩, q⟩ | ⟨hv, q⟩
    · obtain ⟨dx, hp⟩ := hx.ob
      exact ⟨_, rfl, _, _, _, _, true, rfl, .own _, .base (.ins hp T.c_Carpet T.ex.iD.1 T.ex.hn T.ex.tk T.ex.iD.2), kit_self, true, rfl, iteF q⟩
    · cases hv with
      | non => exact ⟨_, rfl, _, _, _, _, false, rfl, .own _, .base .non, T.ex.no1, false, rfl, iteT ⟨_, rfl, q⟩⟩
      | int i => exact ⟨_, rfl, _, _, _, _, false, rfl, .own _, .base (.int i), T.ex.no2, false, rfl, iteT ⟨_, rfl, q⟩⟩
      | str z => exact ⟨_, rfl, _, _, _, _, false, rfl, .own _, .base (.str z), T.ex.no4, false, rfl, iteT ⟨_, rfl, q⟩⟩
      | lst h => exact ⟨_, rfl, _, _, _, _, false, rfl, .own _, .base (.lst h), T.ex.no3, false, rfl, iteT ⟨_, rfl, q⟩⟩
def sp_parting_bad (K : PySem.W.Frag) : Sp := fun vs H _ E => ∃ v v', vs = [v, v'] ∧ (NoCar H v ∨ ((∃ p a b d rows, v = .ref p ∧ CarAt K H p a b d rows) ∧ NoCar H v')) ∧ partE K E H "carpet"
theorem ok_parting_cell_bad (T : Tx P w K mg base) : OkG (L2.CX P w) P w K mg base 4 "parting_cell" ["one", "other"] (sp_parting_bad K) := by
  obtain ⟨fc, fdc, gc, kc, bc, Fc⟩ := ok_check_carpet_any T
  refine mkX (st := s_parting_cell) T.e_parting_cell T.g_parting_cell (fun _ _ _ _ _ _ us hl => match us, hl with | [_, _], _ => rfl) sc_parting_cell (fun vs H Q E h => ?_) (fun f cdv A outer s H vs Q E hr h => ?_)
  · obtain ⟨v, v', rfl, _⟩ := h
    rfl
  · obtain ⟨v, v', rfl, h, q⟩ := h
    refine ⟨_, pss_cons (ps_expr (pe_callS Fc hr (by rfl) gc kc bc (fun σ => passAt (takes_of rfl rfl rfl rfl) σ) (pa_cons (pv 0) pa_nil)))
      (pss_cons (ps_expr (pe_callS Fc hr (by rfl) gc kc bc (fun σ => passAt (takes_of rfl rfl rfl rfl) σ) (pa_cons (pv 1) pa_nil))) (pss_one ps_never)), ?_⟩
    rcases h with h | ⟨⟨p, a, b, d, rows, rfl, hc⟩, h⟩
    · exact ⟨_, rfl, v, rfl, .inr ⟨h, q⟩⟩
    · exact ⟨_, rfl, _, rfl, .inl ⟨p, a, b, d, rows, rfl, hc, _, rfl, v', rfl, .inr ⟨h, q⟩⟩⟩
/-! breaking_cell, wrongly called -/
theorem sc_breaking_cell : FnScope ["carpet", "shift"] ["carpet", "shift"] (defScope s_breaking_cell) := ⟨rfl, rfl, rfl, by decide +kernel, rfl, by decide +kernel, by decide +kernel⟩
def sp_breaking_bad (K : PySem.W.Frag) : Sp := fun vs H _ E => ∃ v v', vs = [v, v'] ∧ ((NoCar H v ∧ partE K E H "carpet") ∨ ((∃ p a b d rows, v = .ref p ∧ CarAt K H p a b d rows) ∧ ShV H v' false ∧ partE K E H "shift"))
theorem ok_breaking_cell_bad (T : Tx P w K mg base) : OkG (L2.CX P w) P w K mg base 4 "breaking_cell" ["carpet", "shift"] (sp_breaking_bad K) := by
  obtain ⟨fc, fdc, gc, kc, bc, Fc⟩ := ok_check_carpet_any T
  obtain ⟨fs, fds, gs, ks, bs, Fs⟩ := ok_check_shift_bad T
  refine mkX (st := s_breaking_cell) T.e_breaking_cell T.g_breaking_cell (fun _ _ _ _ _ _ us hl => match us, hl with | [_, _], _ => rfl) sc_breaking_cell (fun vs H Q E h => ?_) (fun f cdv A outer s H vs Q E hr h => ?_)
  · obtain ⟨v, v', rfl, _⟩ := h
    rfl
  · obtain ⟨v, v', rfl, h⟩ := h
    refine ⟨_, pss_cons (ps_expr (pe_callS Fc hr (by rfl) gc kc bc (fun σ => passAt (takes_of rfl rfl rfl rfl) σ) (pa_cons (pv 0) pa_nil)))
      (pss_cons (ps_expr (pe_callS Fs hr (by rfl) gs ks bs (fun σ => passAt (takes_of rfl rfl rfl rfl) σ) (pa_cons (pv 1) pa_nil))) (pss_one ps_never)), ?_⟩
    rcases h with ⟨h, q⟩ | ⟨⟨p, a, b, d, rows, rfl, hc⟩, h, q⟩
    · exact ⟨_, rfl, v, rfl, .inr ⟨h, q⟩⟩
    · exact ⟨_, rfl, _, rfl, .inl ⟨p, a, b, d, rows, rfl, hc, _, rfl, v', rfl, h, q⟩⟩
/-! rows_by -/
theorem sc_rows_by : FnScope ["lattice", "sign_of", "y", "x"] ["lattice", "sign_of"] (defScope s_rows_by) := ⟨rfl, rfl, rfl, by decide +kernel, rfl, by decide +kernel, by decide +kernel⟩
def scRows1 : Scope := { kind := .function, names := [(".0", .local), ("y", .cell), ("range", .globalImplicit), ("lattice", .cell), ("sign_of", .cell)], isGenerator := false, isCoroutine := false }
/-- what a function of places gives: g's figure; St: what it leans on in the heap -/
def sp_lam (g : Col) (St : Hp → Prop) : Sp := fun vs H Q _ => ∃ (t : Addr) (x y : Int), vs = [.ref t] ∧ H t = some (.tup [.int x, .int y]) ∧ St H ∧ ∀ H', Same H H' → Q (.str (dg [g x y])) H'
def sp_rows_by (P : Program) (w : World) (K : PySem.W.Frag) (mg : Str → Option Value) (base : Heap) : Sp := fun vs H Q _ => ∃ (l f : Addr) (a b d : Int) (F : NF) (body : Expr) (g : Col) (St : Hp → Prop), vs = [.ref l, .ref f] ∧ LatAt K H l a b d ∧ (0 ≤ a ∧ 0 ≤ d ∧ a ≤ 1000 ∧ d ≤ 1000) ∧
  H f = some (LamO f F body) ∧ H F.c = some (CodeO F.c F.qual) ∧ LOk P w K mg base 8 f F body (sp_lam g St) ∧ St H ∧ (∀ H H', St H → Same H H' → St H') ∧ ∀ H' r, Same H H' → H' r = some (.tup (rowV (nrows g a d))) → Q (.ref r) H'
abbrev rJoin (K : PySem.W.Frag) : V → List V → Hp → VK → Prop := fun x xs H Q => ∃ a p, ∃ ys : List Str, x = .str a ∧ xs = [.ref p] ∧ (SqL K H p (ys.map V.str) ∨ SqT K H p (ys.map V.str)) ∧ (ys.map (·.length)).sum + ys.length * a.length ≤ 16777216 ∧ Q (.str (Txt.join a ys)) H
theorem ok_rows_by (T : Tx P w K mg base) : OkG CX0 P w K mg base 9 "rows_by" ["lattice", "sign_of"] (sp_rows_by P w K mg base) := by
  refine mkG (st := s_rows_by) T.e_rows_by T.g_rows_by (fun _ _ _ _ _ _ us hl => match us, hl with | [_, _], _ => rfl) sc_rows_by (fun vs H Q E h => ?_) (fun f cdv A outer s H vs Q E hr h => ?_)
  · obtain ⟨l, f, a, b, d, F, body, g, St, rfl, _⟩ := h
    rfl
  · obtain ⟨l, lf, a, b, d, F, body, g, St, rfl, ⟨dx, hl⟩, ⟨l0, l1, l2, l3⟩, hf, hco, L, hst, stk, q⟩ := h
    have nd := sc_rows_by.nd
    let te2 : TE := tCallLm 1 lf F body (sp_lam g St) (tCons (tTup (tCons (tVar 3) (tCons (tVar 2) tNil))) tNil)
    let te1 : TE := tM1 (rJoin K) (tC (.str "")) (tLc (iRng1 (tCons (tFld K (tVar 0) "a") tNil)) (gName 3) tYes te2 [3])
    refine ⟨_, pss_one (ps_ret (pe_callTy call_tuple_of (by rfl) T.f_tuple (by decide +kernel) (pa_cons (pe_lc (own := [("y", 2)]) (g := gName 2) (tt := tYes) (te := te1) (by rfl) nd (pi_range1 rfl T.f_range (pa_cons (pe_fld (pv 0) rfl) pa_nil))
      (blkOk_by (N := ["lattice", "sign_of", "y", "x"]) (sc := defScope s_rows_by) (by decide +kernel)) (fun _ _ _ _ _ => pg_name (i := 2) nd rfl (Or.inr rfl)) (fun _ _ _ _ _ => pts_nil)
      (fun _ _ _ _ _ => by exact (pe_join pe_str (pe_lc (own := [("x", 3)]) (g := gName 3) (tt := tYes) (te := te2) (by rfl) nd (pi_range1 rfl T.f_range (pa_cons (pe_fld (pv 0) rfl) pa_nil)) (blkOk_by (own := [("x", 3)]) (N := ["lattice", "sign_of", "y", "x"]) (sc := scRows1) (by decide +kernel)) (fun _ _ _ _ _ => pg_name (i := 3) nd rfl (Or.inl rfl)) (fun _ _ _ _ _ => pts_nil)
        (fun _ _ _ _ _ => by exact (pe_callLm L hr rfl (by first | exact Or.inl rfl | exact Or.inr (Or.inl rfl) | exact Or.inr (Or.inr rfl)) (pa_cons (pe_tup (pa_cons (pv 3) (pa_cons (pv 2) pa_nil))) pa_nil)))))))  pa_nil))), ?_⟩
    refine ⟨_, rfl, l, _, dx, _, _, rfl, hl, T.c_Lattice, T.n_Lattice_d, rfl, d, rfl, by omega, by omega, fun D hD => ?_⟩
    refine lc_range (fun i H' => Same H H' ∧ H' D = some (.lst (rowV (rowsTo g a.toNat i)))) ⟨same_upd hD, upd_same⟩ ?_ ?_
    · rintro i H1 hi ⟨s1, h1⟩
      refine ⟨rfl, ⟨_, rfl⟩, _, rfl, l, _, dx, _, _, rfl, s1 _ _ hl, T.c_Lattice, T.n_Lattice_a, rfl, a, rfl, by omega, by omega, fun D2 hD2 => ?_⟩
      refine lc_range (fun j H' => Same H1 H' ∧ H' D2 = some (.lst ((rowTo g (i : Nat) j).map fun c => V.str (dg [c])))) ⟨same_upd hD2, upd_same⟩ ?_ ?_
      · rintro j H2 hj ⟨s2, h2⟩
        have s12 := s1.trans s2
        refine ⟨rfl, rfl, s12 _ _ hf, _, rfl, _, rfl, two_line, fun t ht => ?_⟩
        have s3 := same_upd (o := .tup [.int (0 + j), .int (0 + i)]) ht
        have s13 := s12.trans s3
        refine ⟨s13 _ _ hf, s13 _ _ hco, t, _, _, rfl, upd_same, stk _ _ hst s13, fun H4 s4 => ⟨_, (s3.trans s4) _ _ h2, ?_, sameD ((s2.trans s3).trans s4) hD2, ?_⟩⟩
        · rw [List.length_map, rowTo_len]
          exact line_of (by omega)
        · rw [upd_same, rowTo_succ, List.map_append, Int.zero_add, Int.zero_add]
          rfl
      · rintro H2 ⟨s2, h2⟩
        rw [map_sign] at h2
        refine ⟨_, D2, _, rfl, rfl, .inl (sqL_of h2), join_need (by rw [rowTo_len]; omega), ?_⟩
        rw [join_dg]
        refine ⟨_, s2 _ _ h1, ?_, sameD (s1.trans s2) hD, ?_⟩
        · unfold rowV rowsTo
          simp only [List.length_map, List.length_range]
          exact line_of (by omega)
        · rw [upd_same, rowsTo_succ]
          unfold rowV
          rw [List.map_append]
          rfl
    · rintro H1 ⟨s1, h1⟩
      refine ⟨D, _, rfl, .inl ⟨sqL_of h1, fun r hr => ?_⟩⟩
      refine q _ r (s1.trans (same_upd hr)) ?_
      rw [upd_same, nrows_eq]
end
end K12
namespace K12
open PySem PySem.Spec PyProof.Rows L2 LamX NdefX
/-! ### tables; what stays -/
def TT (K : PySem.W.Frag) : List (Addr × Str) := [((He.cT K ("law", none)).2, ("law" : Str) ++ ".<locals>." ++ "<lambda>"), ((He.cT K ("Carpet", some "moved_by")).2, ("Carpet.moved_by" : Str) ++ ".<locals>." ++ "<lambda>")]
structure G0 (T : List (Addr × Str)) (H H' : Hp) : Prop where
  ext : ExtN H H'
  dom : ∀ b, H' b = none → H b = none
  tab : Tabs T H'
theorem G0.same {T : List (Addr × Str)} {H H' H2 : Hp} (g : G0 T H H') (s : Same H' H2) : G0 T H H2 := ⟨fun b o e n => s _ _ (g.ext b o e n), fun b e => g.dom b (s.free e), g.tab.ext s⟩
theorem G0.of {T : List (Addr × Str)} {H H' : Hp} (s : Same H H') (t : Tabs T H) : G0 T H H' := ⟨fun b o e _ => s _ _ e, fun b e => s.free e, t.ext s⟩
theorem G0.trans {T : List (Addr × Str)} {H H' H2 : Hp} (g : G0 T H H') (h : G0 T H' H2) : G0 T H H2 := ⟨g.ext.trans h.ext, fun b e => g.dom b (h.dom b e), h.tab⟩
theorem LatAt.g0 {K : PySem.W.Frag} {H H' : Hp} {p : Addr} {a b d : Int} (h : LatAt K H p a b d) (s : ExtN H H') : LatAt K H' p a b d := by
  obtain ⟨dx, h⟩ := h
  exact ⟨dx, s _ _ h (fun ps z => by cases z)⟩
theorem CarX.g0 {K : PySem.W.Frag} {H H' : Hp} {p : Addr} {a b d : Int} {rows : List (List Nat)} {R B S N : Addr} {a' b' d' : Int} (h : CarX K H p a b d rows R B S N a' b' d') (s : ExtN H H') : CarX K H' p a b d rows R B S N a' b' d' := by
  obtain ⟨⟨dx, h1⟩, h2, h3, h4, h5, h6, h7, h8, h9⟩ := h
  exact ⟨⟨dx, s _ _ h1 (fun ps z => by cases z)⟩, s _ _ h2 (fun ps z => by cases z), h3.g0 s, h4, h5, h6, s _ _ h7 (fun ps z => by cases z), s _ _ h8 (fun ps z => by cases z), h9⟩
theorem CarAt.g0 {K : PySem.W.Frag} {H H' : Hp} {p : Addr} {a b d : Int} {rows : List (List Nat)} (h : CarAt K H p a b d rows) (s : ExtN H H') : CarAt K H' p a b d rows := by
  obtain ⟨R, B, S, N, a', b', d', h⟩ := h
  exact ⟨R, B, S, N, a', b', d', h.g0 s⟩
/-- what is no frozen cell stands ahead of the overlay -/
theorem cut_keep {Z : Ov} {H : Hp} (F : Froz Z) (t : ∀ b z, Z b = some z → H b = some z) {b : Addr} {o : HO} (e : H b = some o) (n : ∀ x v, o ≠ .frz x (CelO b v)) : cut Z H b = some o := by
  cases q : Z b with
  | some z =>
    obtain ⟨x, v, rfl⟩ := F.fz b z q
    rw [t b _ q] at e
    cases e
    exact absurd rfl (n x v)
  | none => rw [cut_none q]; exact e
theorem CarAt.cut {K : PySem.W.Frag} {Z : Ov} {H : Hp} (F : Froz Z) (t : ∀ b z, Z b = some z → H b = some z) {p : Addr} {a b d : Int} {rows : List (List Nat)} (h : CarAt K H p a b d rows) : CarAt K (cut Z H) p a b d rows := by
  obtain ⟨R, B, S, N, a', b', d', ⟨dx, h1⟩, h2, ⟨dy, h3⟩, h4, h5, h6, h7, h8, h9⟩ := h
  exact ⟨R, B, S, N, a', b', d', ⟨dx, cut_keep F t h1 (fun x v z => by cases z)⟩, cut_keep F t h2 (fun x v z => by cases z), ⟨dy, cut_keep F t h3 (fun x v z => by cases z)⟩, h4, h5, h6, cut_keep F t h7 (fun x v z => by cases z), cut_keep F t h8 (fun x v z => by cases z), h9⟩
theorem same_ovl {Z : Ov} {H H' : Hp} (t : ∀ b z, Z b = some z → H b = some z) (s : Same (cut Z H) H') : Same H (ovl Z H') := fun b o e => by
  cases q : Z b with
  | some z =>
    rw [ovl_some q, ← t b z q]
    exact e
  | none =>
    rw [ovl_none q]
    exact s _ _ (by rw [cut_none q]; exact e)
theorem same_cut {Z : Ov} {H H' : Hp} (n : ∀ b z, Z b = some z → H b = none) (s : Same (ovl Z H) H') : Same H (cut Z H') := fun b o e => by
  cases q : Z b with
  | some z => rw [n b z q] at e; cases e
  | none =>
    rw [cut_none q]
    exact s _ _ (by rw [ovl_none q]; exact e)
theorem ovl_same {Z : Ov} {H : Hp} (n : ∀ b z, Z b = some z → H b = none) : Same H (ovl Z H) := fun b o e => by
  cases q : Z b with
  | some z => rw [n b z q] at e; cases e
  | none => rw [ovl_none q]; exact e
/-! ### plain words -/
theorem sig_nrows {g : Col} {a b d : Int} (ha : 0 < a) (hd : 0 < d) (pa : per g a 0) (pb : per g b d) (u v : Int) : sigR a b d (nrows g a d) u v = g u v := by
  have x0 := Int.emod_nonneg (u - v / d * b) (show a ≠ 0 by omega)
  have x1 := Int.emod_lt_of_pos (u - v / d * b) ha
  have y0 := Int.emod_nonneg v (show d ≠ 0 by omega)
  have y1 := Int.emod_lt_of_pos v hd
  unfold sigR nrows
  rw [List.getD_eq_getElem?_getD, List.getD_eq_getElem?_getD, List.getElem?_map, List.getElem?_range (by omega), Option.map_some, Option.getD_some, List.getElem?_map, List.getElem?_range (by omega), Option.map_some, Option.getD_some, Int.toNat_of_nonneg x0, Int.toNat_of_nonneg y0]
  exact (reduce pa pb u v).symm
theorem tol_nrows {g : Col} {a b d : Int} (h : Bas a b d) (hg : ∀ x y, g x y ≤ 9) (sz : a * d ≤ 144) : Tol a b d (nrows g a d) := by
  refine ⟨h, by unfold nrows; simp, fun r hr => ?_, nrows_fig hg a d, sz⟩
  unfold nrows at hr
  obtain ⟨y, _, rfl⟩ := List.mem_map.mp hr
  simp
section
variable {P : Program} {w : World} {K : PySem.W.Frag} {mg : Str → Option Value} {base : Heap}
theorem mkMC {x qual : Str} {st : Stmt} {c : Str} {N ps : List Str} {k : Nat} {sp : Sp} (F : ∃ fd, FunD K x qual (defArgs st) (defBody st) (defScope st) [] [] (He.fAd K (c, some x)) fd) (g : Meth K (He.ga K c) x (He.ma K (He.ga K c) x))
    (b : ∀ (kV doc pm : Value) (an : Option Addr) (cdv ct : Value) (us : List Value), us.length = ps.length → bindArgs (PySem.W.fnOf x qual (defArgs st) (defBody st) (defScope st) .none kV doc pm an cdv ct) ⟨us, []⟩ = pure (ps.zip us))
    (S : FnScope N ps (defScope st)) (len : ∀ vs H Q E, sp vs H Q E → vs.length = ps.length)
    (hbody : ∀ (f : Addr) (A : Around) (outer : List Env) (s : Shared) (H : Hp) (vs : List V) (Q : VK) (E : XK), Room k (A.deeper (envOfC qual (defScope st) s.heap.objs.size f (.ref (He.codeOf K (c, some x))))) → sp vs H Q E →
      ∃ t, PSs (cxOf CX0 P w K mg base N qual (defScope st) f (.ref (He.codeOf K (c, some x))) A outer s H E).nox (defBody st) t ∧ t { nx := fun _ H' => Q .non H', rt := Q } (start N vs) H) : OkM CX0 P w K mg base (k + 1) (He.ga K c) x ps sp := by
  obtain ⟨fd, F⟩ := F
  refine ⟨_, fd, g, F.bindsN b, ?_⟩
  obtain ⟨oc, od, dV, kV, doc, pm, an, cdv, ct, osl, rfl, lk, hcd, _, _⟩ := F.ex
  obtain ⟨cc, rfl⟩ := He.codeIn_ref hcd
  have ec : He.codeOf K (c, some x) = cc := He.codeOf_eq lk rfl
  refine fn_of lk hcd S len fun A outer s H vs Q E hr hsp => ?_
  rw [← ec] at hr ⊢
  obtain ⟨t, a, b⟩ := hbody _ A outer s H vs Q E hr hsp
  exact ⟨t, a.nox, b⟩
/-! moved_by -/
theorem sc_moved_by : FnScope ["self", "shift", "least", "rows"] ["self", "shift"] (defScope s_Carpet_moved_by) := ⟨rfl, rfl, rfl, by decide +kernel, rfl, by decide +kernel, by decide +kernel⟩
def lamSc : Scope := { kind := .function, names := [("place", .local), ("self", .free), ("shift", .free)], isGenerator := false, isCoroutine := false, more := [] }
theorem nsc_lam : NScope ["place", "self", "shift"] ["place"] ["self", "shift"] lamSc := nscope_by (by decide +kernel)
theorem clo_only {cells : List (Str × Addr)} : ∀ y d, (cloFrom cells lamSc.names []).lookup y = some d → y = ("self" : Str) ∨ y = ("shift" : Str) := by
  intro y d e
  rcases cloFrom_mem (PySem.mem_of_lookup e) with h | ⟨h1, _⟩
  · cases h
  · have h1 : (y, NameKind.free) ∈ [(("place" : Str), NameKind.local), (("self" : Str), NameKind.free), (("shift" : Str), NameKind.free)] := h1
    simp only [List.mem_cons, Prod.mk.injEq, List.not_mem_nil, or_false] at h1
    rcases h1 with ⟨_, z⟩ | ⟨z, _⟩ | ⟨z, _⟩
    · cases z
    · exact .inl z
    · exact .inr z
def sp_moved_by (K : PySem.W.Frag) : Sp := fun vs H Q _ => ∃ (p t : Addr) (a b d sx sy : Int) (rows : List (List Nat)), vs = [.ref p, .ref t] ∧ CarAt K H p a b d rows ∧ H t = some (.tup [.int sx, .int sy]) ∧ Tabs (TT K) H ∧
  ∀ H' x a' b' d' rows', G0 (TT K) H H' → CarAt K H' x a' b' d' rows' → (∀ u v, sigR a' b' d' rows' u v = sigR a b d rows (u - sx) (v - sy)) → Q (.ref x) H'
theorem ok_moved_by (T : Tx P w K mg base) : OkM CX0 P w K mg base 11 (He.ga K "Carpet") "moved_by" ["self", "shift"] (sp_moved_by K) := by
  obtain ⟨fr, fdr, gr, kr, br, Fr⟩ := ok_rows_by T
  have TB := T.tb ("Carpet", some "moved_by") (by simp [tf])
  refine mkMC (st := s_Carpet_moved_by) (c := "Carpet") T.e_Carpet_moved_by T.m_Carpet_moved_by (fun _ _ _ _ _ _ us hl => match us, hl with | [_, _], _ => rfl) sc_moved_by (fun vs H Q E h => ?_) (fun f A outer s H vs Q E hr h => ?_)
  · obtain ⟨p, t, a, b, d, sx, sy, rows, rfl, _⟩ := h
    rfl
  · obtain ⟨p, t, a, b, d, sx, sy, rows, rfl, hc, ht, hT, q⟩ := h
    have nd := sc_moved_by.nd
    obtain ⟨R, B, S, N, a', b', d', hx⟩ := id hc
    obtain ⟨dx, hp⟩ := hx.ob
    have hfree : ∀ y ∈ lamSc.names, y.2 = NameKind.free → (defScope s_Carpet_moved_by).names.lookup y.1 = some .cell ∨ (defScope s_Carpet_moved_by).names.lookup y.1 = some .free := by
      intro y hy e
      have hy : y ∈ [(("place" : Str), NameKind.local), (("self" : Str), NameKind.free), (("shift" : Str), NameKind.free)] := hy
      simp only [List.mem_cons, List.not_mem_nil, or_false] at hy
      rcases hy with rfl | rfl | rfl
      · cases e
      · exact .inl rfl
      · exact .inl rfl
    refine ⟨_, pss_cons (ps_expr (pe_g (ok_check_shift T) (hr.mono (by decide)) (pa_cons (pv 1) pa_nil)))
      (pss_cons (ps_set (i := 2) nd rfl (Or.inl rfl) (pe_fld (pv 0) rfl))
      (pss_cons (ps_set (i := 3) nd rfl (Or.inl rfl) (pe_callZ (y1 := "self") (y2 := "shift") (j1 := 0) (j2 := 1) Fr (hr.mono (by decide)) (by rfl) gr kr br (fun ok => Caps.made (scope := lamSc) ok hfree (by decide) (by rfl)) clo_only (fun _ _ _ => rfl)
        (pa_cons (pv 2) (pa_cons (pe_lam (T := TT K) TB rfl (by simp only [TT]; exact List.mem_cons_of_mem _ (List.mem_singleton.mpr rfl)) (fun z hz e => by
          simp only [TT, List.mem_cons, List.not_mem_nil, or_false] at hz
          rcases hz with rfl | rfl
          · exact absurd e T.ex.tn
          · rfl) (by rfl) hfree) pa_nil))))
      (pss_one (ps_ret (pe_kR (ok_car_init T) (fun _ _ _ h => rCar_ok h) T.g_Carpet hr (pa_cons (pe_fld (pv 2) rfl) (pa_cons (pe_fld (pv 2) rfl) (pa_cons (pe_fld (pv 2) rfl) (pa_cons (pv 3) pa_nil))))))))), ?_⟩
    refine ⟨_, rfl, t, sx, sy, rfl, ht, ?_⟩
    refine ⟨_, rfl, p, _, dx, _, _, rfl, hp, T.c_Carpet, T.n_Carpet_basis, rfl, ?_⟩
    refine ⟨_, _, rfl, rfl, _, rfl, hT, fun lf c' H1 e1 n1 T1 f0 f1 c1 => ?_⟩
    intro Z cz nz
    have s1 := ovl_same nz
    obtain ⟨dy, hb1⟩ := hx.hB.g0 e1
    have la := hx.la
    have ld := hx.ld
    have al := hx.tol.a_le
    have dl := hx.tol.d_le
    have a0 := hx.lst.ha
    have d0 := hx.lst.hd
    refine ⟨B, lf, a', b', d', _, _, fun x y => sigR a b d rows (x - sx) (y - sy), fun H' => (∀ b z, Z b = some z → H' b = some z) ∧ CarAt K H' p a b d rows ∧ H' t = some (.tup [.int sx, .int sy]), rfl, ⟨dy, s1 _ _ hb1⟩, ⟨by omega, by omega, by omega, by omega⟩, s1 _ _ f1, s1 _ _ c1, ?_, ⟨fun b z e => ovl_some e, (hc.g0 e1).same s1, s1 _ _ (e1 _ _ ht (fun ps z => by cases z))⟩, fun H2 H3 hs ss => ⟨fun b z e => ss _ _ (hs.1 b z e), hs.2.1.same ss, ss _ _ hs.2.2⟩, fun H2 r s2 h2 => ?_⟩
    · refine lok_of (N := ["place", "self", "shift"]) (ps := ["place"]) (fr := ["self", "shift"]) nsc_lam (fun _ _ us hl => match us, hl with | [_], _ => rfl) (fun vs H Q E h => ?_) (fun A outer s H vs Q hr h => ?_)
      · obtain ⟨t, x, y, rfl, _⟩ := h
        rfl
      · obtain ⟨u, x, y, rfl, hu, ⟨hz, hcz, htz⟩, q⟩ := h
        refine ⟨Z, [.ref p, .ref t], _, cz, hz, pe_m (ok_car_sign T) T.c_Carpet hr (pv 1) (pa_cons (pe_tup (pa_cons (pe_op op_sub (pe_ix ix_tup (pv 0) pe_int (fun _ _ => rfl)) (pe_ix ix_tup (pv 2) pe_int (fun _ _ => rfl))) (pa_cons (pe_op op_sub (pe_ix ix_tup (pv 0) pe_int (fun _ _ => rfl)) (pe_ix ix_tup (pv 2) pe_int (fun _ _ => rfl))) pa_nil))) pa_nil), ?_⟩
        have hcc := hcz.cut cz.froz hz
        obtain ⟨R2, B2, S2, N2, a2', b2', d2', hy⟩ := id hcc
        obtain ⟨dz, hpz⟩ := hy.ob
        have hu2 := sqT_of (K := K) (cut_keep cz.froz hz hu (fun x v z => by cases z))
        have ht2 := sqT_of (K := K) (cut_keep cz.froz hz htz (fun x v z => by cases z))
        refine ⟨_, rfl, p, dz, _, rfl, hpz, by rfl, _, rfl, u, _, 0, _, rfl, rfl, hu2, at0, _, rfl, t, _, 0, _, rfl, rfl, ht2, at0, _, _, rfl, rfl, _, rfl, u, _, 1, _, rfl, rfl, hu2, at1, _, rfl, t, _, 1, _, rfl, rfl, ht2, at1, _, _, rfl, rfl, two_line, fun v hv => ?_⟩
        have s5 := same_upd (o := .tup [.int (x - sx), .int (y - sy)]) hv
        exact ⟨p, v, a, b, d, _, _, rows, rfl, hcc.same s5, upd_same, fun H6 s6 => q _ (same_ovl hz (s5.trans s6))⟩
    · have s3 := same_cut nz s2
      obtain ⟨dy, hb3⟩ : LatAt K (cut Z H2) B a' b' d' := LatAt.same ⟨dy, hb1⟩ s3
      have hr3 : (cut Z H2) r = some (.tup (rowV (nrows (fun x y => sigR a b d rows (x - sx) (y - sy)) a' d'))) := cut_keep cz.froz (fun b z e => s2 _ _ (ovl_some e)) h2 (fun x v z => by cases z)
      have lc := T.c_Lattice
      have g1 : G0 (TT K) H H1 := ⟨e1, n1, T1⟩
      have eg : (fun x y => sigR a b d rows (x - sx) (y - sy)) = mov (sigR a b d rows) (-sx) (-sy) := by
        funext x y
        unfold mov
        rw [Int.sub_eq_add_neg, Int.sub_eq_add_neg]
      have hL : Lst (mov (sigR a b d rows) (-sx) (-sy)) a' b' d' := hx.lst.mov
      have sz : a' * d' ≤ 144 := Int.le_trans (Int.mul_le_mul la ld (by omega) (by omega)) hx.tol.sz
      refine ⟨_, rfl, B, _, dy, _, _, rfl, hb3, lc, T.n_Lattice_a, rfl, _, rfl, B, _, dy, _, _, rfl, hb3, lc, T.n_Lattice_b, rfl, _, rfl, B, _, dy, _, _, rfl, hb3, lc, T.n_Lattice_d, rfl, _, rfl, r, a', b', d', _, rfl, .inr hr3, tol_nrows ⟨hx.lst.ha, hx.lst.hb, hx.lst.hba, hx.lst.hd⟩ (fun x y => fig_of hx.tol _ _) sz, fun H4 x s4 nx hx4 => ?_⟩
      refine q H4 x a' b' d' _ ((g1.same s3).same s4) hx4 fun u v => ?_
      rw [eg]
      rw [sig_nrows hx.lst.ha hx.lst.hd hL.pa hL.pb]
      unfold mov
      rw [Int.sub_eq_add_neg, Int.sub_eq_add_neg]
end
end K12
namespace K12
open PySem PySem.Spec PyProof.Rows L2 LamX NdefX
section
variable {P : Program} {w : World} {K : PySem.W.Frag} {mg : Str → Option Value} {base : Heap}
/-! breaking_of, breaking_cell -/
theorem sc_breaking_of : FnScope ["carpet", "shift"] ["carpet", "shift"] (defScope s_breaking_of) := ⟨rfl, rfl, rfl, by decide +kernel, rfl, by decide +kernel, by decide +kernel⟩
def sp_breaking (K : PySem.W.Frag) : Sp := fun vs H Q _ => ∃ (p t : Addr) (a b d x y : Int) (rows : List (List Nat)), vs = [.ref p, .ref t] ∧ CarAt K H p a b d rows ∧ H t = some (.tup [.int x, .int y]) ∧ Tabs (TT K) H ∧
  ∀ H' v r, G0 (TT K) H H' → IsPart (sigR a b d rows) (mov (sigR a b d rows) x y) r → PartV H' v r → Q v H'
theorem ok_breaking_of (T : Tx P w K mg base) : OkG CX0 P w K mg base 12 "breaking_of" ["carpet", "shift"] (sp_breaking K) := by
  refine mkG (st := s_breaking_of) T.e_breaking_of T.g_breaking_of (fun _ _ _ _ _ _ us hl => match us, hl with | [_, _], _ => rfl) sc_breaking_of (fun vs H Q E h => ?_) (fun f cdv A outer s H vs Q E hr h => ?_)
  · obtain ⟨p, t, a, b, d, x, y, rows, rfl, _⟩ := h
    rfl
  · obtain ⟨p, t, a, b, d, x, y, rows, rfl, hc, ht, hT, q⟩ := h
    obtain ⟨R, B, S, N, a', b', d', hx⟩ := id hc
    obtain ⟨dx, hp⟩ := hx.ob
    refine ⟨_, pss_one (ps_ret (pe_g (ok_parting_of T) (hr.mono (by decide)) (pa_cons (pv 0) (pa_cons (pe_m (ok_moved_by T) T.c_Carpet hr (pv 0) (pa_cons (pe_tup (pa_cons (pe_un un_neg (pe_ix ix_tup (pv 1) pe_int (fun _ _ => rfl))) (pa_cons (pe_un un_neg (pe_ix ix_tup (pv 1) pe_int (fun _ _ => rfl))) pa_nil))) pa_nil)) pa_nil)))), ?_⟩
    refine ⟨_, rfl, _, rfl, p, dx, _, rfl, hp, by rfl, _, rfl, t, _, 0, _, rfl, rfl, sqT_of ht, at0, x, rfl, _, rfl, t, _, 1, _, rfl, rfl, sqT_of ht, at1, y, rfl, two_line, fun u hu => ?_⟩
    have s1 := same_upd (o := .tup [.int (-x), .int (-y)]) hu
    refine ⟨p, u, a, b, d, -x, -y, rows, rfl, hc.same s1, upd_same, hT.ext s1, fun H2 m a2 b2 d2 rows2 g2 hm e => ?_⟩
    refine ⟨p, m, a, b, d, a2, b2, d2, rows, rows2, rfl, (hc.same s1).g0 g2.ext, hm, fun H3 v r s3 hpart hv => ?_⟩
    have g : G0 (TT K) H H2 := ⟨fun b o e n => g2.ext b o (s1 _ _ e) n, fun b e => s1.free (g2.dom b e), g2.tab⟩
    refine q H3 v r (g.same s3) ?_ hv
    have e2 : sigR a2 b2 d2 rows2 = mov (sigR a b d rows) x y := by
      funext u v
      rw [e]
      unfold mov
      rw [Int.sub_neg, Int.sub_neg]
    rw [← e2]
    exact hpart
theorem ok_breaking_cell (T : Tx P w K mg base) : OkG CX0 P w K mg base 13 "breaking_cell" ["carpet", "shift"] (sp_breaking K) := by
  refine mkG (st := s_breaking_cell) T.e_breaking_cell T.g_breaking_cell (fun _ _ _ _ _ _ us hl => match us, hl with | [_, _], _ => rfl) sc_breaking_cell (fun vs H Q E h => ?_) (fun f cdv A outer s H vs Q E hr h => ?_)
  · obtain ⟨p, t, a, b, d, x, y, rows, rfl, _⟩ := h
    rfl
  · obtain ⟨p, t, a, b, d, x, y, rows, rfl, hc, ht, hT, q⟩ := h
    refine ⟨_, pss_cons (ps_expr (pe_g (ok_check_carpet T) (hr.mono (by decide)) (pa_cons (pv 0) pa_nil)))
      (pss_cons (ps_expr (pe_g (ok_check_shift T) (hr.mono (by decide)) (pa_cons (pv 1) pa_nil)))
      (pss_one (ps_ret (pe_g (ok_breaking_of T) hr (pa_cons (pv 0) (pa_cons (pv 1) pa_nil)))))), ?_⟩
    exact ⟨_, rfl, p, a, b, d, rows, rfl, hc, _, rfl, t, x, y, rfl, ht, _, rfl, _, rfl, p, t, a, b, d, x, y, rows, rfl, hc, ht, hT, fun H' v r g hp hv => q H' v r g hp hv⟩
/-! ### the law's pool -/
def Pool (H : Hp) (p : Addr) : Prop := ∃ i j : Int, H p = some (.lst [.int i, .int j]) ∧ 0 ≤ j ∧ j < 2147483647
structure SaP (p : Addr) (H H' : Hp) : Prop where
  ext : ∀ b o, H b = some o → b ≠ p → H' b = some o
  dom : ∀ b, H' b = none → H b = none
  pool : Pool H' p
theorem Pool.same {H H' : Hp} {p : Addr} (h : Pool H p) (s : Same H H') : Pool H' p := by
  obtain ⟨i, j, h1, h2⟩ := h
  exact ⟨i, j, s _ _ h1, h2⟩
theorem SaP.of {H H' : Hp} {p : Addr} (s : Same H H') (h : Pool H p) : SaP p H H' := ⟨fun b o e _ => s _ _ e, fun b e => s.free e, h.same s⟩
theorem SaP.same {H H' H2 : Hp} {p : Addr} (g : SaP p H H') (s : Same H' H2) : SaP p H H2 := ⟨fun b o e n => s _ _ (g.ext b o e n), fun b e => g.dom b (s.free e), g.pool.same s⟩
theorem SaP.trans {H H' H2 : Hp} {p : Addr} (g : SaP p H H') (h : SaP p H' H2) : SaP p H H2 := ⟨fun b o e n => h.ext _ _ (g.ext b o e n) n, fun b e => g.dom b (h.dom b e), h.pool⟩
theorem SaP.pre {H H' H2 : Hp} {p : Addr} (s : Same H H') (g : SaP p H' H2) : SaP p H H2 := ⟨fun b o e n => g.ext _ _ (s _ _ e) n, fun b e => s.free (g.dom b e), g.pool⟩
theorem Pool.ne {H : Hp} {p b : Addr} {o : HO} (h : Pool H p) (e : H b = some o) (n : ∀ i j : Int, o ≠ .lst [.int i, .int j]) : b ≠ p := fun z => by
  obtain ⟨i, j, h1, _⟩ := h
  rw [z, h1] at e
  exact n i j (Option.some.inj e).symm
/-! _law_draw -/
theorem sc__law_draw : FnScope ["_law_pool", "_law_many", "_law_found"] ["_law_pool", "_law_many"] (defScope s__law_draw) := ⟨rfl, rfl, rfl, by decide +kernel, rfl, by decide +kernel, by decide +kernel⟩
def sp_draw : Sp := fun vs H Q _ => ∃ (p : Addr) (m : Int), vs = [.ref p, .int m] ∧ Pool H p ∧ 1 ≤ m ∧ m < 1073741824 ∧ ∀ H' v, SaP p H H' → 0 ≤ v → v < m → Q (.int v) H'
theorem ok_draw (T : Tx P w K mg base) : OkG CX0 P w K mg base 1 "_law_draw" ["_law_pool", "_law_many"] sp_draw := by
  refine mkG (st := s__law_draw) T.e__law_draw T.g__law_draw (fun _ _ _ _ _ _ us hl => match us, hl with | [_, _], _ => rfl) sc__law_draw (fun vs H Q E h => ?_) (fun f cdv A outer s H vs Q E hr h => ?_)
  · obtain ⟨p, m, rfl, _⟩ := h
    rfl
  · obtain ⟨p, m, rfl, ⟨i, j, hp, j0, j1⟩, m1, m2, q⟩ := h
    have nd := sc__law_draw.nd
    refine ⟨_, pss_cons (ps_if (pt_cmpR op_gt (pe_ix ix_list (pv 0) pe_int (fun _ _ => rfl)) pe_int (nomark _))
        (pss_cons (ps_set (i := 2) nd rfl (Or.inl rfl) (pe_op op_mod (xInt T.f_int (pe_ix ix_list (pv 0) pe_int (fun _ _ => rfl))) (pv 1)))
        (pss_cons (ps_asg (pe_op op_fdiv (pe_ix ix_list (pv 0) pe_int (fun _ _ => rfl)) (pv 1)) (pg_sub (pv 0) pe_int set_list (fun _ => rfl)))
        (pss_one (ps_ret (pv 2))))) pss_nil)
      (pss_cons (ps_asg (pe_op op_mod (xInt T.f_int (pe_op op_add (pe_op op_mul (pe_ix ix_list (pv 0) pe_int (fun _ _ => rfl)) pe_int) pe_int)) pe_int) (pg_sub (pv 0) pe_int set_list (fun _ => rfl)))
      (pss_one (ps_ret (pe_op op_mod (pe_op op_fdiv (pe_op op_mod (xInt T.f_int (pe_op op_mul (pe_ix ix_list (pv 0) pe_int (fun _ _ => rfl)) (pe_ix ix_list (pv 0) pe_int (fun _ _ => rfl)))) pe_int) pe_int) (pv 1))))), ?_⟩
    refine ⟨_, rfl, p, _, 0, _, rfl, rfl, sqL_of hp, at0, _, _, rfl, rfl, _, rfl, ?_⟩
    have step : ∀ i' j' : Int, 0 ≤ j' → j' < 2147483647 → SaP p H (upd H p (.lst [.int i', .int j'])) := fun i' j' h0 h1 => ⟨fun b o e n => by rw [upd_ne n]; exact e, fun b e => by
      by_cases z : b = p
      · rw [z, upd_same] at e; cases e
      · rw [upd_ne z] at e; exact e, i', j', upd_same, h0, h1⟩
    by_cases c : 0 < i
    · rw [decide_eq_true c]
      refine iteT ⟨_, rfl, p, _, 0, _, rfl, rfl, sqL_of hp, at0, .inl ⟨_, rfl, _, rfl, _, _, rfl, rfl, by show (0 : Int) < m; omega, ?_⟩⟩
      refine ⟨_, rfl, p, _, 0, _, rfl, rfl, sqL_of hp, at0, _, rfl, _, _, rfl, rfl, ⟨by omega, m2⟩, _, rfl, p, _, _, 0, rfl, rfl, hp, rfl, _, rfl, ?_⟩
      exact q _ _ (step _ _ j0 j1) (Int.emod_nonneg _ (by omega)) (Int.emod_lt_of_pos _ (by omega))
    · rw [decide_eq_false c]
      refine iteF ⟨_, rfl, p, _, 1, _, rfl, rfl, sqL_of hp, at1, _, _, rfl, rfl, .inl ⟨by omega, by omega⟩, _, _, rfl, rfl, .inl ⟨_, rfl, _, _, rfl, rfl, by show (0 : Int) < 2147483647; decide, _, rfl, p, _, _, 1, rfl, rfl, hp, rfl, ?_⟩⟩
      obtain ⟨j', hj'⟩ : ∃ j', j' = (j * 48271 + 11) % 2147483647 := ⟨_, rfl⟩
      have n0 : 0 ≤ j' := by rw [hj']; exact Int.emod_nonneg _ (by decide)
      have n1 : j' < 2147483647 := by rw [hj']; exact Int.emod_lt_of_pos _ (by decide)
      have h2 : (upd H p (.lst ([V.int i, V.int j].set 1 (V.int ((j * 48271 + 11) % 2147483647))))) p = some (.lst [.int i, .int j']) := by rw [upd_same, hj']; rfl
      refine ⟨_, rfl, p, _, 1, _, rfl, rfl, sqL_of h2, at1, _, rfl, p, _, 1, _, rfl, rfl, sqL_of h2, at1, _, _, rfl, rfl, .inl ⟨by omega, by omega⟩, .inl ⟨_, rfl, _, _, rfl, rfl, by show (0 : Int) < 2147483629; decide, _, _, rfl, rfl, ⟨by decide, by decide⟩, ?_⟩⟩
      refine ⟨_, rfl, _, _, rfl, rfl, by show (0 : Int) < m; omega, ?_⟩
      exact q _ _ (step i ((j * 48271 + 11) % 2147483647) (Int.emod_nonneg _ (by decide)) (Int.emod_lt_of_pos _ (by decide))) (Int.emod_nonneg _ (by omega)) (Int.emod_lt_of_pos _ (by omega))
/-! _law_pick -/
theorem sc__law_pick : FnScope ["_law_pool", "_law_some"] ["_law_pool", "_law_some"] (defScope s__law_pick) := ⟨rfl, rfl, rfl, by decide +kernel, rfl, by decide +kernel, by decide +kernel⟩
def sp_pick : Sp := fun vs H Q _ => ∃ (p l : Addr) (xs : List V), vs = [.ref p, .ref l] ∧ Pool H p ∧ H l = some (.lst xs) ∧ l ≠ p ∧ 1 ≤ xs.length ∧ xs.length < 1000 ∧ ∀ H' v, SaP p H H' → v ∈ xs → Q v H'
theorem ok_pick (T : Tx P w K mg base) : OkG CX0 P w K mg base 2 "_law_pick" ["_law_pool", "_law_some"] sp_pick := by
  refine mkG (st := s__law_pick) T.e__law_pick T.g__law_pick (fun _ _ _ _ _ _ us hl => match us, hl with | [_, _], _ => rfl) sc__law_pick (fun vs H Q E h => ?_) (fun f cdv A outer s H vs Q E hr h => ?_)
  · obtain ⟨p, l, xs, rfl, _⟩ := h
    rfl
  · obtain ⟨p, l, xs, rfl, hp, hl, nl, h1, h2, q⟩ := h
    refine ⟨_, pss_one (ps_ret (pe_ix ix_list (pv 1) (pe_g (ok_draw T) hr (pa_cons (pv 0) (pa_cons (xLen T.f_len (pv 1)) pa_nil))) (fun _ _ => rfl))), ?_⟩
    refine ⟨_, rfl, _, rfl, _, rfl, _, xs.length, rfl, .inl ⟨_, sqL_of hl, rfl⟩, p, _, rfl, hp, by omega, by omega, fun H' v s v0 v1 => ?_⟩
    have hv : v.toNat < xs.length := by omega
    refine ⟨l, xs, v, xs[v.toNat], rfl, rfl, sqL_of (s.ext _ _ hl nl), ?_, q _ _ s (List.getElem_mem hv)⟩
    have e := atI_nat (List.getElem?_eq_getElem hv)
    rwa [Int.toNat_of_nonneg v0] at e
/-! _law_three -/
theorem sc__law_three : FnScope ["_law_pool", "_law_most", "_law_wide"] ["_law_pool", "_law_most"] (defScope s__law_three) := ⟨rfl, rfl, rfl, by decide +kernel, rfl, by decide +kernel, by decide +kernel⟩
def sp_three : Sp := fun vs H Q _ => ∃ (p : Addr) (m : Int), vs = [.ref p, .int m] ∧ Pool H p ∧ 1 ≤ m ∧ m < 1000 ∧ ∀ H' r a b d, SaP p H H' → H r = none → H' r = some (.lst [.int a, .int b, .int d]) → Bas a b d → a ≤ m → d ≤ m → Q (.ref r) H'
theorem ok_three (T : Tx P w K mg base) : OkG CX0 P w K mg base 2 "_law_three" ["_law_pool", "_law_most"] sp_three := by
  refine mkG (st := s__law_three) T.e__law_three T.g__law_three (fun _ _ _ _ _ _ us hl => match us, hl with | [_, _], _ => rfl) sc__law_three (fun vs H Q E h => ?_) (fun f cdv A outer s H vs Q E hr h => ?_)
  · obtain ⟨p, m, rfl, _⟩ := h
    rfl
  · obtain ⟨p, m, rfl, hp, h1, h2, q⟩ := h
    have nd := sc__law_three.nd
    refine ⟨_, pss_cons (ps_set (i := 2) nd rfl (Or.inl rfl) (pe_op op_add pe_int (pe_g (ok_draw T) hr (pa_cons (pv 0) (pa_cons (pv 1) pa_nil)))))
      (pss_one (ps_ret (pe_lst (pa_cons (pv 2) (pa_cons (pe_g (ok_draw T) hr (pa_cons (pv 0) (pa_cons (pv 2) pa_nil))) (pa_cons (pe_op op_add pe_int (pe_g (ok_draw T) hr (pa_cons (pv 0) (pa_cons (pv 1) pa_nil)))) pa_nil)))))), ?_⟩
    refine ⟨_, rfl, _, rfl, p, m, rfl, hp, h1, by omega, fun H1 a s1 a0 a1 => ⟨_, _, rfl, rfl, ?_⟩⟩
    refine ⟨_, rfl, _, rfl, _, rfl, p, 1 + a, rfl, s1.pool, by omega, by omega, fun H2 b s2 b0 b1 => ?_⟩
    refine ⟨_, rfl, _, rfl, p, m, rfl, s2.pool, h1, by omega, fun H3 d s3 d0 d1 => ⟨_, _, rfl, rfl, by show 3 ≤ sizeLine; decide, fun r hr => ?_⟩⟩
    have s13 := (s1.trans s2).trans s3
    exact q _ r (1 + a) b (1 + d) (s13.same (same_upd hr)) (s13.dom r hr) upd_same ⟨by omega, b0, b1, by omega⟩ (by omega) (by omega)
end
end K12
namespace K12
open PySem PySem.Spec PyProof.Rows L2 LamX NdefX
section
variable {P : Program} {w : World} {K : PySem.W.Frag} {mg : Str → Option Value} {base : Heap}
/-! _law_opened -/
theorem sc__law_opened : FnScope ["_law_script", "_law_k", "_law_start", "_law_whole", "_law_seed"] ["_law_script", "_law_k"] (defScope s__law_opened) := ⟨rfl, rfl, rfl, by decide +kernel, rfl, by decide +kernel, by decide +kernel⟩
def sp_opened (K : PySem.W.Frag) : Sp := fun vs H Q _ => ∃ (a : Addr) (ns : List Int) (k : Nat), vs = [.ref a, .int k] ∧ SqL K H a (ns.map V.int) ∧ k ≤ 2 ∧ ∀ H' p, Same H H' → H p = none → Pool H' p → Q (.ref p) H'
theorem head_int (ns : List Int) (lo hi : Option Int) : ∃ z : Int, (cutV (ns.map V.int) lo hi ++ [V.int 0])[0]? = some (V.int z) := by
  unfold cutV
  rw [List.map_drop.symm, List.map_take.symm]
  generalize (ns.drop (HT.sIx (ns.map V.int).length 0 lo)).take (HT.sIx (ns.map V.int).length (ns.map V.int).length hi - HT.sIx (ns.map V.int).length 0 lo) = zs
  cases zs with
  | nil => exact ⟨0, rfl⟩
  | cons z r => exact ⟨z, rfl⟩
theorem ok_opened (T : Tx P w K mg base) : OkG CX0 P w K mg base 1 "_law_opened" ["_law_script", "_law_k"] (sp_opened K) := by
  refine mkG (st := s__law_opened) T.e__law_opened T.g__law_opened (fun _ _ _ _ _ _ us hl => match us, hl with | [_, _], _ => rfl) sc__law_opened (fun vs H Q E h => ?_) (fun f cdv A outer s H vs Q E hr h => ?_)
  · obtain ⟨a, ns, k, rfl, _⟩ := h
    rfl
  · obtain ⟨a, ns, k, rfl, hS, hk, q⟩ := h
    have nd := sc__law_opened.nd
    refine ⟨_, pss_cons (ps_set (i := 2) nd rfl (Or.inl rfl) (pe_ix ix_list (pe_op op_cat (pe_slice sl_list (pv 0) (po_some (pv 1)) (po_some (pe_op op_add (pv 1) pe_int))) (pe_lst (pa_cons pe_int pa_nil))) pe_int (fun _ _ => rfl)))
      (pss_cons (ps_set (i := 3) nd rfl (Or.inl rfl) (pe_callB (call_max2 rfl) (by rfl) T.f_max (by decide +kernel) (pa_cons (xInt T.f_int (pv 2)) (pa_cons (xInt T.f_int (pe_op op_sub (pe_un un_neg pe_int) (pv 2))) pa_nil))))
      (pss_cons (ps_set (i := 4) nd rfl (Or.inl rfl) (pe_op op_mod (pe_op op_mul (pe_op op_add (pe_op op_add (pe_op op_mod (xInt T.f_int (pv 3)) pe_int) (pe_op op_mul pe_int (pv 1))) pe_int) pe_int) pe_int))
      (pss_one (ps_ret (pe_lst (pa_cons (pe_op op_mul (xInt T.f_int (pe_cmpR op_ge (pv 3) (pe_op op_pow pe_int pe_int) (nomark _))) (pv 3)) (pa_cons (pv 4) pa_nil))))))), ?_⟩
    refine ⟨_, rfl, _, rfl, k, rfl, _, rfl, _, _, rfl, rfl, _, rfl, a, _, rfl, hS, fun c hc => ?_⟩
    have s1 := same_upd (o := .lst (cutV (ns.map V.int) (some (k : Int)) (some ((k : Int) + 1)))) hc
    refine ⟨by show 1 ≤ sizeLine; decide, fun e he => ?_⟩
    have s2 := same_upd (o := .lst [.int 0]) he
    have hlen : (cutV (ns.map V.int) (some (k : Int)) (some ((k : Int) + 1))).length + [V.int 0].length ≤ sizeLine := by
      have : (cutV (ns.map V.int) (some (k : Int)) (some ((k : Int) + 1))).length ≤ 1 := by
        unfold cutV
        rw [List.length_take]
        have e1 : HT.sIx (ns.map V.int).length 0 (some (k : Int)) = min k (ns.map V.int).length := HT.sIx_nat _ _ _
        have e2 : HT.sIx (ns.map V.int).length (ns.map V.int).length (some ((k : Int) + 1)) = min (k + 1) (ns.map V.int).length := HT.sIx_nat _ _ (k + 1)
        rw [e1, e2]
        omega
      refine Nat.le_trans (Nat.add_le_add_right this 1) (by decide)
    refine ⟨c, e, _, _, rfl, rfl, s2 _ _ upd_same, upd_same, hlen, fun g hg => ?_⟩
    obtain ⟨z, hz⟩ := head_int ns (some (k : Int)) (some ((k : Int) + 1))
    have s3 := (s1.trans s2).trans (same_upd (o := .lst (cutV (ns.map V.int) (some (k : Int)) (some ((k : Int) + 1)) ++ [V.int 0])) hg)
    refine ⟨g, _, 0, _, rfl, rfl, sqL_of upd_same, atI_nat (j := 0) hz, ?_⟩
    refine ⟨_, rfl, .inl ⟨_, rfl, 1, rfl, _, rfl, _, _, rfl, rfl, .inl ⟨_, rfl, _, _, rfl, ?_⟩⟩⟩
    obtain ⟨w', hw⟩ : ∃ w', w' = (if -1 - z > z then -1 - z else z) := ⟨_, rfl⟩
    rw [← hw]
    have m0 := Int.emod_nonneg w' (show (2147483647 : Int) ≠ 0 by decide)
    have m1 := Int.emod_lt_of_pos w' (show (0 : Int) < 2147483647 by decide)
    refine ⟨_, rfl, .inl ⟨_, rfl, _, _, rfl, rfl, by show (0 : Int) < 2147483647; decide, _, rfl, _, _, rfl, rfl, .inl ⟨by decide, by decide⟩, _, _, rfl, rfl, _, _, rfl, rfl, _, _, rfl, rfl, .inl ⟨by omega, by omega⟩, _, _, rfl, rfl, by show (0 : Int) < 2147483629; decide, ?_⟩⟩
    refine ⟨_, rfl, _, _, rfl, rfl, ⟨by decide, by decide, by decide⟩, _, _, rfl, rfl, .inr ⟨_, rfl, _, rfl, _, _, rfl, rfl, .inl ?_, _, rfl, two_line, fun r hr => ?_⟩⟩
    · split <;> exact ⟨by decide, by decide⟩
    · exact q _ r (s3.trans (same_upd hr)) (s3.free hr) ⟨_, _, upd_same, Int.emod_nonneg _ (by decide), by
        have := Int.emod_lt_of_pos ((w' % 2147483647 + 7919 * (k : Int) + 1) * 48271) (show (0 : Int) < 2147483629 by decide)
        omega⟩
/-! _law_place -/
theorem sc__law_place : FnScope ["_law_three_here", "_law_x", "_law_y", "_law_wide", "_law_slant", "_law_high"] ["_law_three_here", "_law_x", "_law_y"] (defScope s__law_place) := ⟨rfl, rfl, rfl, by decide +kernel, rfl, by decide +kernel, by decide +kernel⟩
def sp_lplace (K : PySem.W.Frag) : Sp := fun vs H Q _ => ∃ (t : Addr) (a b d x y : Int), vs = [.ref t, .int x, .int y] ∧ H t = some (.lst [.int a, .int b, .int d]) ∧ (Bas a b d ∧ a < 1000 ∧ d < 1000) ∧ ∀ H' r, Same H H' → H' r = some (.tup [.int ((x - y / d * b) % a), .int (y % d)]) → Q (.ref r) H'
theorem ok_lplace (T : Tx P w K mg base) : OkG CX0 P w K mg base 1 "_law_place" ["_law_three_here", "_law_x", "_law_y"] (sp_lplace K) := by
  refine mkG (st := s__law_place) T.e__law_place T.g__law_place (fun _ _ _ _ _ _ us hl => match us, hl with | [_, _, _], _ => rfl) sc__law_place (fun vs H Q E h => ?_) (fun f cdv A outer s H vs Q E hr h => ?_)
  · obtain ⟨t, a, b, d, x, y, rfl, _⟩ := h
    rfl
  · obtain ⟨t, a, b, d, x, y, rfl, ht, ⟨⟨h1, h2, h3, h4⟩, h5, h6⟩, q⟩ := h
    have nd := sc__law_place.nd
    refine ⟨_, pss_cons (ps_asg (pv 0) (pg_lst (by rfl) (pgs_cons (pg_name (i := 3) nd rfl (.inl rfl)) (pgs_cons (pg_name (i := 4) nd rfl (.inl rfl)) (pgs_cons (pg_name (i := 5) nd rfl (.inl rfl)) pgs_nil)))))
      (pss_one (ps_ret (pe_tup (pa_cons (pe_op op_mod (pe_op op_sub (pv 1) (pe_op op_mul (pv 4) (pe_op op_fdiv (pv 2) (pv 5)))) (pv 3)) (pa_cons (pe_op op_mod (pv 2) (pv 5)) pa_nil))))), ?_⟩
    refine ⟨_, rfl, t, _, rfl, sqL_of ht, rfl, _, _, rfl, _, _, rfl, _, _, rfl, rfl, ?_⟩
    refine ⟨_, rfl, _, rfl, _, rfl, _, rfl, _, _, rfl, rfl, ⟨by omega, by omega⟩, _, _, rfl, rfl, .inl ⟨by omega, by omega⟩, _, _, rfl, rfl, _, rfl, _, _, rfl, rfl, by show (0 : Int) < a; omega, _, rfl, _, rfl, _, _, rfl, rfl, by show (0 : Int) < d; omega, two_line, fun r hr => ?_⟩
    refine q _ r (same_upd hr) ?_
    rw [upd_same]
    show some (HO.tup [.int ((x - b * (y / d)) % a), .int (y % d)]) = _
    rw [Int.mul_comm b]
/-! what is told -/
def ToldAt (H : Hp) (t : Addr) (a b d : Int) (rows : List (List Nat)) : Prop := ∃ u l, H t = some (.lst [.ref u, .ref l]) ∧ H u = some (.lst [.int a, .int b, .int d]) ∧ H l = some (.lst (rowV rows))
theorem rowV_no {rows : List (List Nat)} {i j : Int} : HO.lst (rowV rows) ≠ HO.lst [.int i, .int j] := fun z => by
  injection z with z
  cases rows with
  | nil => cases z
  | cons r rs =>
    injection z with z _
    cases z
theorem ToldAt.same {H H' : Hp} {t : Addr} {a b d : Int} {rows : List (List Nat)} (h : ToldAt H t a b d rows) (s : Same H H') : ToldAt H' t a b d rows := by
  obtain ⟨u, l, h1, h2, h3⟩ := h
  exact ⟨u, l, s _ _ h1, s _ _ h2, s _ _ h3⟩
theorem ToldAt.sap {H H' : Hp} {p t : Addr} {a b d : Int} {rows : List (List Nat)} (h : ToldAt H t a b d rows) (hp : Pool H p) (s : SaP p H H') : ToldAt H' t a b d rows := by
  obtain ⟨u, l, h1, h2, h3⟩ := h
  exact ⟨u, l, s.ext _ _ h1 (hp.ne h1 fun i j z => by cases z), s.ext _ _ h2 (hp.ne h2 fun i j z => by cases z), s.ext _ _ h3 (hp.ne h3 fun i j => rowV_no)⟩
/-! _law_colour -/
theorem sc__law_colour : FnScope ["_law_told", "_law_x", "_law_y", "_law_place_here"] ["_law_told", "_law_x", "_law_y"] (defScope s__law_colour) := ⟨rfl, rfl, rfl, by decide +kernel, rfl, by decide +kernel, by decide +kernel⟩
def sp_colour : Sp := fun vs H Q _ => ∃ (t : Addr) (a b d x y : Int) (rows : List (List Nat)), vs = [.ref t, .int x, .int y] ∧ ToldAt H t a b d rows ∧ Tol a b d rows ∧ ∀ H', Same H H' → Q (.int ((sigR a b d rows x y : Nat) : Int)) H'
theorem ok_colour (T : Tx P w K mg base) : OkG CX0 P w K mg base 2 "_law_colour" ["_law_told", "_law_x", "_law_y"] sp_colour := by
  refine mkG (st := s__law_colour) T.e__law_colour T.g__law_colour (fun _ _ _ _ _ _ us hl => match us, hl with | [_, _, _], _ => rfl) sc__law_colour (fun vs H Q E h => ?_) (fun f cdv A outer s H vs Q E hr h => ?_)
  · obtain ⟨t, a, b, d, x, y, rows, rfl, _⟩ := h
    rfl
  · obtain ⟨t, a, b, d, x, y, rows, rfl, ⟨u, l, ht, hu, hl⟩, tol, q⟩ := h
    have nd := sc__law_colour.nd
    have al := tol.a_le
    have dl := tol.d_le
    obtain ⟨row, e1, e2, e3, e4⟩ := tol.at_ x y
    obtain ⟨b1, b2, b3, b4⟩ := id tol.bas
    refine ⟨_, pss_cons (ps_set (i := 3) nd rfl (Or.inl rfl) (pe_g (ok_lplace T) hr (pa_cons (pe_ix ix_list (pv 0) pe_int (fun _ _ => rfl)) (pa_cons (pv 1) (pa_cons (pv 2) pa_nil)))))
      (pss_one (ps_ret (pe_callTy call_int_str (by rfl) T.f_int (by decide +kernel) (pa_cons (pe_ix ix_str (pe_ix ix_list (pe_ix ix_list (pv 0) pe_int (fun _ _ => rfl)) (pe_ix ix_tup (pv 3) pe_int (fun _ _ => rfl)) (fun _ _ => rfl)) (pe_ix ix_tup (pv 3) pe_int (fun _ _ => rfl)) (fun _ _ => rfl)) pa_nil)))), ?_⟩
    refine ⟨_, rfl, t, _, 0, _, rfl, rfl, sqL_of ht, at0, _, rfl, _, rfl, u, a, b, d, x, y, rfl, hu, ⟨tol.bas, by omega, by omega⟩, fun H1 r s1 h1 => ?_⟩
    have hr1 := sqT_of (K := K) h1
    refine ⟨_, rfl, t, _, 1, _, rfl, rfl, sqL_of (s1 _ _ ht), at1, _, rfl, r, _, 1, _, rfl, rfl, hr1, at1, l, _, _, _, rfl, rfl, sqL_of (s1 _ _ hl), rowV_atI (Int.emod_nonneg _ (by omega)) e1, _, rfl, r, _, 0, _, rfl, rfl, hr1, at0, _, _, _, rfl, rfl, ?_, dg_atI (Int.emod_nonneg _ (by omega)) e2, ?_⟩
    · rw [dg_len]
      exact line_le (by omega)
    · exact ⟨dg [sigR a b d rows x y], _, rfl, int_dg e4, by rw [dg_len]; show 1 ≤ 640; decide, q _ s1⟩
/-! _law_rows -/
theorem sc__law_rows : FnScope ["_law_pool", "_law_three_here", "_law_signs", "_law_lines", "_law_j", "_law_i"] ["_law_pool", "_law_three_here"] (defScope s__law_rows) := ⟨rfl, rfl, rfl, by decide +kernel, rfl, by decide +kernel, by decide +kernel⟩
def sp_rows (K : PySem.W.Frag) : Sp := fun vs H Q _ => ∃ (p t : Addr) (a b d : Int), vs = [.ref p, .ref t] ∧ Pool H p ∧ H t = some (.lst [.int a, .int b, .int d]) ∧ (Bas a b d ∧ a * d ≤ 144) ∧ ∀ H' r rows, SaP p H H' → H r = none → H' r = some (.lst (rowV rows)) → Tol a b d rows → Q (.ref r) H'
theorem sign_mem {v : V} (h : v ∈ [V.str "01", V.str "01", V.str "012", V.str "0123", V.str "7788", V.str "0001", V.str "0"]) : ∃ ds : List Nat, v = .str (dg ds) ∧ 1 ≤ ds.length ∧ ds.length ≤ 10 ∧ ∀ c ∈ ds, c ≤ 9 := by
  have e1 : ("01" : Str) = dg [0, 1] := by decide +kernel
  have e2 : ("012" : Str) = dg [0, 1, 2] := by decide +kernel
  have e3 : ("0123" : Str) = dg [0, 1, 2, 3] := by decide +kernel
  have e4 : ("7788" : Str) = dg [7, 7, 8, 8] := by decide +kernel
  have e5 : ("0001" : Str) = dg [0, 0, 0, 1] := by decide +kernel
  have e6 : ("0" : Str) = dg [0] := by decide +kernel
  rw [e1, e2, e3, e4, e5, e6] at h
  simp only [List.mem_cons, List.not_mem_nil, or_false] at h
  rcases h with rfl | rfl | rfl | rfl | rfl | rfl | rfl
  all_goals exact ⟨_, rfl, by decide, by decide, by decide⟩
theorem Tol.of_lens {a b d : Int} {rows : List (List Nat)} (h : Bas a b d) (sz : a * d ≤ 144) (h1 : rows.length = d.toNat) (h2 : ∀ r ∈ rows, r.length = a.toNat ∧ ∀ c ∈ r, c ≤ 9) : Tol a b d rows := ⟨h, h1, fun r m => (h2 r m).1, fun r m => (h2 r m).2, sz⟩
theorem ok_rows (T : Tx P w K mg base) : OkG CX0 P w K mg base 3 "_law_rows" ["_law_pool", "_law_three_here"] (sp_rows K) := by
  refine mkG (st := s__law_rows) T.e__law_rows T.g__law_rows (fun _ _ _ _ _ _ us hl => match us, hl with | [_, _], _ => rfl) sc__law_rows (fun vs H Q E h => ?_) (fun f cdv A outer s H vs Q E hr h => ?_)
  · obtain ⟨p, t, a, b, d, rfl, _⟩ := h
    rfl
  · obtain ⟨p, t, a, b, d, rfl, hp, ht, ⟨⟨b1, b2, b3, b4⟩, sz⟩, q⟩ := h
    have nd := sc__law_rows.nd
    have al : a ≤ 144 := by
      have : a * 1 ≤ a * d := Int.mul_le_mul_of_nonneg_left b4 (by omega)
      omega
    have dl : d ≤ 144 := by
      have : 1 * d ≤ a * d := Int.mul_le_mul_of_nonneg_right b1 (by omega)
      omega
    have tp : t ≠ p := hp.ne ht fun i j z => by cases z
    refine ⟨_, pss_cons (ps_set (i := 2) nd rfl (Or.inr rfl) (pe_g (ok_pick T) hr (pa_cons (pv 0) (pa_cons (pe_lst (pa_cons pe_str (pa_cons pe_str (pa_cons pe_str (pa_cons pe_str (pa_cons pe_str (pa_cons pe_str (pa_cons pe_str pa_nil)))))))) pa_nil))))
      (pss_cons (ps_set (i := 3) nd rfl (Or.inl rfl) (pe_lst pa_nil))
      (pss_cons (ps_for PassesOwn.never rfl (pi_range1 rfl T.f_range (pa_cons (pe_ix ix_list (pv 1) pe_int (fun _ _ => rfl)) pa_nil)) (pg_name (i := 4) nd rfl (Or.inl rfl))
        (pss_one (ps_expr (pe_bm PySem.F.plainAttrs_list PySem.F.slot_list_append PySem.F.type_list_append mt_append (pv 3) (pa_cons (pe_join pe_str (pe_lc (own := [("_law_i", 5)]) (g := gName 5) (tt := tYes)
          (te := tOp rIxS (tVar 2) (tCall sp_draw [] E0 (tCons (tVar 0) (tCons (tCB (rLen K) (tCons (tVar 2) tNil)) tNil))))
          (by rfl) nd (pi_range1 rfl T.f_range (pa_cons (pe_ix ix_list (pv 1) pe_int (fun _ _ => rfl)) pa_nil)) (blkOk_by (N := ["_law_pool", "_law_three_here", "_law_signs", "_law_lines", "_law_j", "_law_i"]) (sc := defScope s__law_rows) (by decide +kernel)) (fun _ _ _ _ _ => pg_name (i := 5) nd rfl (Or.inl rfl)) (fun _ _ _ _ _ => pts_nil)
          (fun _ _ _ _ _ => pe_ix ix_str (pv 2) (pe_g (ok_draw T) (hr.mono (by decide)) (pa_cons (pv 0) (pa_cons (xLen T.f_len (pv 2)) pa_nil))) (fun _ _ => rfl)))) pa_nil)))))
      (pss_one (ps_ret (pv 3))))), ?_⟩
    refine ⟨_, rfl, by show 7 ≤ sizeLine; decide, fun l0 hl0 => ?_⟩
    have s0 := same_upd (o := .lst [.str "01", .str "01", .str "012", .str "0123", .str "7788", .str "0001", .str "0"]) hl0
    have hp0 := hp.same s0
    refine ⟨p, l0, _, rfl, hp0, upd_same, hp0.ne upd_same (fun i j z => by cases z), by decide, by decide, fun H1 v s1 hv => ?_⟩
    obtain ⟨ds, rfl, n1, n2, n3⟩ := sign_mem hv
    have g1 := SaP.pre s0 s1
    refine ⟨Nat.zero_le _, fun F hF => ?_⟩
    have Fp : F ≠ p := fun z => by
      obtain ⟨i, j, e, _⟩ := s1.pool
      rw [← z, hF] at e
      cases e
    have g2 := g1.same (same_upd (o := .lst []) hF)
    refine ⟨_, rfl, t, _, 2, _, rfl, rfl, sqL_of (g2.ext _ _ ht tp), rfl, d, rfl, by omega, by omega, for_range (lo := 0) (n := d.toNat) (fun i σ H' => (∃ o, σ = [some (.ref p), some (.ref t), some (.str (dg ds)), some (.ref F), o, none]) ∧ SaP p H H' ∧ ∃ rows, H' F = some (.lst (rowV rows)) ∧ rows.length = i ∧ ∀ r ∈ rows, r.length = a.toNat ∧ ∀ c ∈ r, c ≤ 9)
      ⟨⟨_, rfl⟩, g2, [], upd_same, rfl, fun r m => by cases m⟩ ?_ ?_⟩
    · rintro i σ H2 hi ⟨⟨o, rfl⟩, g3, rows, h2, hrl, hrr⟩
      refine ⟨_, rfl, .inl ⟨rfl, _, sqL_of h2⟩, ⟨_, rfl⟩, _, rfl, t, _, 0, _, rfl, rfl, sqL_of (g3.ext _ _ ht tp), rfl, a, rfl, by omega, by omega, fun D hD => ?_⟩
      have Dp' : D ≠ p := fun z => by
        obtain ⟨i, j, e, _⟩ := g3.pool
        rw [← z, hD] at e
        cases e
      have FD : F ≠ D := ne_of_none h2 hD
      refine lc_range (fun j H' => SaP p H2 H' ∧ ∃ cs : List Nat, H' D = some (.lst (cs.map fun c => V.str (dg [c]))) ∧ cs.length = j ∧ ∀ c ∈ cs, c ≤ 9) ⟨SaP.of (same_upd hD) g3.pool, [], upd_same, rfl, fun c m => by cases m⟩ ?_ ?_
      · rintro j H3 hj ⟨g4, cs, h3, hcl, hcc⟩
        refine ⟨rfl, _, rfl, _, rfl, _, rfl, _, (dg ds).length, rfl, ⟨by rw [dg_len]; exact line_le (by omega), rfl⟩, p, _, rfl, g4.pool, by rw [dg_len]; omega, by rw [dg_len]; omega, fun H4 v g5 v0 v1 => ?_⟩
        rw [dg_len] at v1
        have hv : v.toNat < ds.length := by omega
        have h4 := g5.ext _ _ h3 Dp'
        refine ⟨_, _, _, rfl, rfl, by rw [dg_len]; exact line_le (by omega), dg_atI v0 (List.getElem?_eq_getElem hv), _, h4, by rw [List.length_map, hcl]; exact line_of (by omega), ?_, cs ++ [ds[v.toNat]], ?_, by simp [hcl], ?_⟩
        · have g6 := g4.trans g5
          refine ⟨fun b o e n => ?_, fun b e => ?_, ?_⟩
          · rw [upd_ne (ne_of_none e hD)]
            exact g6.ext _ _ e n
          · by_cases z : b = D
            · rw [z, upd_same] at e
              cases e
            · rw [upd_ne z] at e
              exact g6.dom _ e
          · obtain ⟨i, j, e, h⟩ := g6.pool
            exact ⟨i, j, by rw [upd_ne Dp'.symm]; exact e, h⟩
        · rw [upd_same, List.map_append]
          rfl
        · intro c m
          rcases List.mem_append.mp m with m | m
          · exact hcc c m
          · rw [List.mem_singleton.mp m]
            exact n3 _ (List.getElem_mem hv)
      · rintro H3 ⟨g4, cs, h3, hcl, hcc⟩
        rw [map_sign] at h3
        refine ⟨_, D, _, rfl, rfl, .inl (sqL_of h3), join_need (by omega), ?_⟩
        rw [join_dg]
        have h4 := g4.ext _ _ h2 Fp
        have g5 := g3.trans g4
        refine ⟨F, _, _, rfl, rfl, h4, ?_, ⟨_, rfl⟩, ⟨fun b o e n => ?_, fun b e => ?_, ?_⟩, rows ++ [cs], ?_, by simp [hrl], ?_⟩
        · unfold rowV
          rw [List.length_map, hrl]
          exact line_of (by omega)
        · have nF : b ≠ F := fun z => by
            rw [z] at e
            have := g1.dom F hF
            rw [this] at e
            cases e
          rw [upd_ne nF]
          exact g5.ext _ _ e n
        · by_cases z : b = F
          · rw [z, upd_same] at e
            cases e
          · rw [upd_ne z] at e
            exact g5.dom _ e
        · obtain ⟨i, j, e, h⟩ := g5.pool
          exact ⟨i, j, by rw [upd_ne Fp.symm]; exact e, h⟩
        · rw [upd_same]
          unfold rowV
          rw [List.map_append]
          rfl
        · intro r m
          rcases List.mem_append.mp m with m | m
          · exact hrr r m
          · rw [List.mem_singleton.mp m]
            exact ⟨hcl, hcc⟩
    · rintro σ H2 ⟨⟨o, rfl⟩, g3, rows, h2, hrl, hrr⟩
      exact ⟨_, rfl, q H2 F rows g3 (g1.dom F hF) h2 (Tol.of_lens ⟨b1, b2, b3, b4⟩ sz hrl hrr)⟩
end
end K12
namespace K12
open PySem PySem.Spec PyProof.Rows L2 LamX NdefX
section
variable {P : Program} {w : World} {K : PySem.W.Frag} {mg : Str → Option Value} {base : Heap}
/-! _law_made -/
theorem sc__law_made : FnScope ["_law_told"] ["_law_told"] (defScope s__law_made) := ⟨rfl, rfl, rfl, by decide +kernel, rfl, by decide +kernel, by decide +kernel⟩
def sp_made (K : PySem.W.Frag) : Sp := fun vs H Q _ => ∃ (t : Addr) (a b d : Int) (rows : List (List Nat)), vs = [.ref t] ∧ ToldAt H t a b d rows ∧ Tol a b d rows ∧ ∀ H' x, Same H H' → H x = none → CarAt K H' x a b d rows → Q (.ref x) H'
theorem ok_made (T : Tx P w K mg base) : OkG CX0 P w K mg base 11 "_law_made" ["_law_told"] (sp_made K) := by
  refine mkG (st := s__law_made) T.e__law_made T.g__law_made (fun _ _ _ _ _ _ us hl => match us, hl with | [_], _ => rfl) sc__law_made (fun vs H Q E h => ?_) (fun f cdv A outer s H vs Q E hr h => ?_)
  · obtain ⟨t, a, b, d, rows, rfl, _⟩ := h
    rfl
  · obtain ⟨t, a, b, d, rows, rfl, ⟨u, l, ht, hu, hl⟩, tol, q⟩ := h
    have k1 := sqL_of (K := K) ht
    have k2 := sqL_of (K := K) hu
    refine ⟨_, pss_one (ps_ret (pe_kR (ok_car_init T) (fun _ _ _ h => rCar_ok h) T.g_Carpet hr (pa_cons (pe_ix ix_list (pe_ix ix_list (pv 0) pe_int (fun _ _ => rfl)) pe_int (fun _ _ => rfl)) (pa_cons (pe_ix ix_list (pe_ix ix_list (pv 0) pe_int (fun _ _ => rfl)) pe_int (fun _ _ => rfl))
      (pa_cons (pe_ix ix_list (pe_ix ix_list (pv 0) pe_int (fun _ _ => rfl)) pe_int (fun _ _ => rfl)) (pa_cons (pe_ix ix_list (pv 0) pe_int (fun _ _ => rfl)) pa_nil)))))), ?_⟩
    refine ⟨_, rfl, t, _, 0, _, rfl, rfl, k1, at0, u, _, 0, .int a, rfl, rfl, k2, rfl, ?_⟩
    refine ⟨_, rfl, t, _, 0, _, rfl, rfl, k1, at0, u, _, 1, .int b, rfl, rfl, k2, rfl, ?_⟩
    refine ⟨_, rfl, t, _, 0, _, rfl, rfl, k1, at0, u, _, 2, .int d, rfl, rfl, k2, rfl, ?_⟩
    exact ⟨_, rfl, t, _, 1, _, rfl, rfl, k1, at1, l, a, b, d, rows, rfl, .inl hl, tol, q⟩
/-! _law_window -/
theorem sc__law_window : FnScope ["_law_one", "_law_other", "_law_wide"] ["_law_one", "_law_other"] (defScope s__law_window) := ⟨rfl, rfl, rfl, by decide +kernel, rfl, by decide +kernel, by decide +kernel⟩
def sp_window : Sp := fun vs H Q _ => ∃ (t t2 : Addr) (a b d a2 b2 d2 : Int) (rows rows2 : List (List Nat)), vs = [.ref t, .ref t2] ∧ ToldAt H t a b d rows ∧ ToldAt H t2 a2 b2 d2 rows2 ∧ Tol a b d rows ∧ Tol a2 b2 d2 rows2 ∧
  ∀ H' r w, Same H H' → H' r = some (.lst [.int w, .int 40]) → 0 < w → w ≤ a * a2 → a ∣ w → a2 ∣ w → Q (.ref r) H'
theorem ok_window (T : Tx P w K mg base) : OkG CX0 P w K mg base 1 "_law_window" ["_law_one", "_law_other"] sp_window := by
  refine mkG (st := s__law_window) T.e__law_window T.g__law_window (fun _ _ _ _ _ _ us hl => match us, hl with | [_, _], _ => rfl) sc__law_window (fun vs H Q E h => ?_) (fun f cdv A outer s H vs Q E hr h => ?_)
  · obtain ⟨t, t2, a, b, d, a2, b2, d2, rows, rows2, rfl, _⟩ := h
    rfl
  · obtain ⟨t, t2, a, b, d, a2, b2, d2, rows, rows2, rfl, ⟨u, l, ht, hu, hl⟩, ⟨u2, l2, ht2, hu2, hl2⟩, tol, tol2, q⟩ := h
    have nd := sc__law_window.nd
    have k1 := sqL_of (K := K) ht
    have k2 := sqL_of (K := K) hu
    have k3 := sqL_of (K := K) ht2
    have k4 := sqL_of (K := K) hu2
    have a1 := tol.bas.1
    have a3 := tol2.bas.1
    refine ⟨_, pss_cons (ps_set (i := 2) nd rfl (Or.inl rfl) (pe_ix ix_list (pe_ix ix_list (pv 0) pe_int (fun _ _ => rfl)) pe_int (fun _ _ => rfl)))
      (pss_cons (ps_while PassesOwn.never (pt_cmpR op_ne (pe_op op_mod (pv 2) (pe_ix ix_list (pe_ix ix_list (pv 1) pe_int (fun _ _ => rfl)) pe_int (fun _ _ => rfl))) pe_int (nomark _))
        (pss_one (ps_set (i := 2) nd rfl (Or.inl rfl) (pe_op op_add (pv 2) (pe_ix ix_list (pe_ix ix_list (pv 0) pe_int (fun _ _ => rfl)) pe_int (fun _ _ => rfl))))))
      (pss_one (ps_ret (pe_lst (pa_cons (pv 2) (pa_cons pe_int pa_nil)))))), ?_⟩
    refine ⟨_, rfl, t, _, 0, _, rfl, rfl, k1, at0, u, _, 0, .int a, rfl, rfl, k2, rfl, ?_⟩
    refine while_by (fun σ H' => H' = H ∧ ∃ k : Int, σ = [some (.ref t), some (.ref t2), some (.int (k * a))] ∧ 0 < k ∧ k ≤ a2) (fun σ H' => match σ with | [_, _, some (.int w)] => (a * a2 - w).toNat | _ => 0) ⟨rfl, 1, by rw [Int.one_mul]; rfl, by decide, a3⟩ ?_ ?_
    · rintro σ H' ⟨rfl, k, rfl, k0, k1'⟩
      refine ⟨_, rfl, _, rfl, t2, _, 0, _, rfl, rfl, k3, at0, u2, _, 0, .int a2, rfl, rfl, k4, rfl, _, _, rfl, rfl, by show (0 : Int) < a2; omega, rfl, _, rfl, ?_⟩
      have ka : k * a ≤ a2 * a := Int.mul_le_mul_of_nonneg_right k1' (by omega)
      by_cases z : k * a % a2 = 0
      · rw [decide_eq_true (show V.int (k * a % a2) = V.int 0 by rw [z])]
        refine iteF ⟨_, rfl, two_line, fun r hr => ?_⟩
        exact q _ r (k * a) (same_upd hr) upd_same (Int.mul_pos k0 (by omega)) (by rw [Int.mul_comm a]; exact ka) ⟨k, Int.mul_comm k a⟩ (Int.dvd_of_emod_eq_zero z)
      · rw [decide_eq_false (fun e => z (V.int.inj e))]
        have kl : k < a2 := by
          by_cases e : k = a2
          · rw [e, Int.mul_emod_right] at z
            exact absurd rfl z
          · omega
        refine iteT ⟨_, rfl, _, rfl, t, _, 0, _, rfl, rfl, k1, at0, u, _, 0, .int a, rfl, rfl, k2, rfl, _, _, rfl, rfl, ⟨rfl, k + 1, by rw [Int.add_mul, Int.one_mul]; rfl, by omega, by omega⟩, ?_⟩
        have k2a : (k + 1) * a ≤ a2 * a := Int.mul_le_mul_of_nonneg_right (by omega) (by omega)
        rw [Int.add_mul, Int.one_mul] at k2a
        have : a * a2 = a2 * a := Int.mul_comm _ _
        show (a * a2 - (k * a + a)).toNat < (a * a2 - k * a).toNat
        omega
    · rintro σ H' Q1 Q2 hq ⟨v, hv, w, hw, p1, x1, i1, v1, e1, e2, hs1, hx1, p2, x2, i2, v2, e3, e4, hs2, hx2, i, j, e5, e6, hj, h1, k, e, h2⟩
      exact ⟨v, hv, w, hw, p1, x1, i1, v1, e1, e2, hs1, hx1, p2, x2, i2, v2, e3, e4, hs2, hx2, i, j, e5, e6, hj, h1, k, e, hq _ _ h2⟩
/-! _law_parting -/
theorem sc__law_parting : FnScope ["_law_one", "_law_other", "_law_wide", "_law_high", "_law_y", "_law_x"] ["_law_one", "_law_other", "_law_wide", "_law_high"] (defScope s__law_parting) := ⟨rfl, rfl, rfl, by decide +kernel, rfl, by decide +kernel, by decide +kernel⟩
def sp_lparting : Sp := fun vs H Q _ => ∃ (t t2 : Addr) (a b d a2 b2 d2 W Y : Int) (rows rows2 : List (List Nat)), vs = [.ref t, .ref t2, .int W, .int Y] ∧ ToldAt H t a b d rows ∧ ToldAt H t2 a2 b2 d2 rows2 ∧ Tol a b d rows ∧ Tol a2 b2 d2 rows2 ∧ (0 ≤ W ∧ W < 1000000 ∧ 0 ≤ Y ∧ Y < 1000000) ∧
  ∀ H' v r, Same H H' → Searched (sigR a b d rows) (sigR a2 b2 d2 rows2) W Y r → PartV H' v r → Q v H'
theorem colour_ne (i j : Nat) : decide (V.int (i : Int) = V.int (j : Int)) = decide (i = j) := by
  by_cases h : i = j
  · rw [h]; simp
  · rw [decide_eq_false h, decide_eq_false]
    intro e
    have := V.int.inj e
    omega
theorem ok_lparting (T : Tx P w K mg base) : OkG CX0 P w K mg base 3 "_law_parting" ["_law_one", "_law_other", "_law_wide", "_law_high"] sp_lparting := by
  refine mkG (st := s__law_parting) T.e__law_parting T.g__law_parting (fun _ _ _ _ _ _ us hl => match us, hl with | [_, _, _, _], _ => rfl) sc__law_parting (fun vs H Q E h => ?_) (fun f cdv A outer s H vs Q E hr h => ?_)
  · obtain ⟨t, t2, a, b, d, a2, b2, d2, W, Y, rows, rows2, rfl, _⟩ := h
    rfl
  · obtain ⟨t, t2, a, b, d, a2, b2, d2, W, Y, rows, rows2, rfl, hT, hT2, tol, tol2, ⟨w0, w1, y0, y1⟩, q⟩ := h
    have nd := sc__law_parting.nd
    refine ⟨_, pss_cons (ps_for PassesOwn.never rfl (pi_range1 rfl T.f_range (pa_cons (pv 3) pa_nil)) (pg_name (i := 4) nd rfl (Or.inl rfl))
        (pss_one (ps_for PassesOwn.never rfl (pi_range1 rfl T.f_range (pa_cons (pv 2) pa_nil)) (pg_name (i := 5) nd rfl (Or.inl rfl))
          (pss_one (ps_if (pt_cmpR op_ne (pe_g (ok_colour T) hr (pa_cons (pv 0) (pa_cons (pv 5) (pa_cons (pv 4) pa_nil)))) (pe_g (ok_colour T) hr (pa_cons (pv 1) (pa_cons (pv 5) (pa_cons (pv 4) pa_nil)))) (nomark _))
            (pss_one (ps_ret (pe_tup (pa_cons (pv 5) (pa_cons (pv 4) pa_nil))))) pss_nil)))))
      (pss_one (ps_ret pe_non)), ?_⟩
    refine ⟨_, rfl, Y, rfl, by omega, by omega, for_range (lo := 0) (n := Y.toNat) (fun i σ H' => (∃ o o', σ = [some (.ref t), some (.ref t2), some (.int W), some (.int Y), o, o']) ∧ Same H H' ∧ ∀ y : Int, 0 ≤ y → y < i → ∀ x : Int, 0 ≤ x → x < W → sigR a b d rows x y = sigR a2 b2 d2 rows2 x y) ⟨⟨_, _, rfl⟩, Same.refl _, fun y h0 h1 => by omega⟩ ?_ ?_⟩
    · rintro i σ H1 hi ⟨⟨o, o', rfl⟩, s1, hy⟩
      rw [Int.zero_add]
      refine ⟨_, rfl, W, rfl, by omega, by omega, for_range (lo := 0) (n := W.toNat) (fun j σ H' => (∃ o', σ = [some (.ref t), some (.ref t2), some (.int W), some (.int Y), some (.int (i : Nat)), o']) ∧ Same H H' ∧ ∀ x : Int, 0 ≤ x → x < j → sigR a b d rows x (i : Nat) = sigR a2 b2 d2 rows2 x (i : Nat)) ⟨⟨_, rfl⟩, s1, fun x h0 h1 => by omega⟩ ?_ ?_⟩
      · rintro j σ H2 hj ⟨⟨o', rfl⟩, s2, hx⟩
        rw [Int.zero_add]
        refine ⟨_, rfl, _, rfl, _, rfl, t, a, b, d, _, _, rows, rfl, hT.same s2, tol, fun H3 s3 => ?_⟩
        refine ⟨_, rfl, _, rfl, _, rfl, t2, a2, b2, d2, _, _, rows2, rfl, hT2.same (s2.trans s3), tol2, fun H4 s4 => ⟨rfl, _, rfl, ?_⟩⟩
        have s24 := (s2.trans s3).trans s4
        rw [colour_ne]
        by_cases z : sigR a b d rows (j : Nat) (i : Nat) = sigR a2 b2 d2 rows2 (j : Nat) (i : Nat)
        · rw [decide_eq_true z]
          refine iteF ⟨⟨_, rfl⟩, s24, fun x h0 h1 => ?_⟩
          by_cases k : x = j
          · rw [k]; exact z
          · exact hx x h0 (by omega)
        · rw [decide_eq_false z]
          refine iteT ⟨_, rfl, _, rfl, two_line, fun u hu => ?_⟩
          refine q _ _ (some ((j : Int), (i : Int))) (s24.trans (same_upd hu)) ⟨(fun e => by cases e), ?_⟩ ⟨u, rfl, upd_same⟩
          intro x y e
          injection e with e
          injection e with ex ey
          subst ex ey
          exact ⟨by omega, by omega, by omega, by omega, z, fun v v0 v1 u u0 u1 => hy v v0 v1 u u0 u1, fun u u0 u1 => hx u u0 u1⟩
      · rintro σ H2 ⟨⟨o', rfl⟩, s2, hx⟩
        refine ⟨⟨_, _, rfl⟩, s2, fun y h0 h1 x x0 x1 => ?_⟩
        by_cases k : y = i
        · rw [k]; exact hx x x0 (by omega)
        · exact hy y h0 (by omega) x x0 x1
    · rintro σ H1 ⟨⟨o, o', rfl⟩, s1, hy⟩
      exact q _ _ none s1 ⟨fun _ y h0 h1 x x0 x1 => hy y h0 (by omega) x x0 x1, fun x y e => by cases e⟩ rfl
/-! _law_bent -/
theorem sc__law_bent : FnScope ["_law_pool", "_law_told", "_law_rows_here", "_law_y", "_law_x"] ["_law_pool", "_law_told"] (defScope s__law_bent) := ⟨rfl, rfl, rfl, by decide +kernel, rfl, by decide +kernel, by decide +kernel⟩
def sp_bent : Sp := fun vs H Q _ => ∃ (p t : Addr) (a b d : Int) (rows : List (List Nat)), vs = [.ref p, .ref t] ∧ Pool H p ∧ ToldAt H t a b d rows ∧ Tol a b d rows ∧ ∀ H' r rows2, SaP p H H' → ToldAt H' r a b d rows2 → Tol a b d rows2 → Q (.ref r) H'
theorem bent_mem {v : V} (h : v ∈ [V.str "0", V.str "1", V.str "9"]) : ∃ c : Nat, v = .str (dg [c]) ∧ c ≤ 9 := by
  have e1 : ("0" : Str) = dg [0] := by decide +kernel
  have e2 : ("1" : Str) = dg [1] := by decide +kernel
  have e3 : ("9" : Str) = dg [9] := by decide +kernel
  rw [e1, e2, e3] at h
  simp only [List.mem_cons, List.not_mem_nil, or_false] at h
  rcases h with rfl | rfl | rfl
  all_goals exact ⟨_, rfl, by decide⟩
theorem cut_head {ds : List Nat} {x : Nat} (h : x ≤ ds.length) : cutS (dg ds) none (some (x : Int)) = dg (ds.take x) := by
  refine str_ext ?_
  show (((dg ds).cps.toList.drop (HT.sIx _ 0 none)).take (HT.sIx _ _ (some (x : Int)) - HT.sIx _ 0 none)).toArray.toList = _
  rw [HT.sIx_none, HT.sIx_nat, dg_len, Nat.min_eq_left h, Nat.sub_zero, List.drop_zero, dg_cps, dg_cps, List.map_take]
theorem cut_tail {ds : List Nat} {x : Nat} (h : x ≤ ds.length) : cutS (dg ds) (some (x : Int)) none = dg (ds.drop x) := by
  refine str_ext ?_
  show (((dg ds).cps.toList.drop (HT.sIx _ 0 (some (x : Int)))).take (HT.sIx _ _ none - HT.sIx _ 0 (some (x : Int)))).toArray.toList = _
  rw [HT.sIx_none, HT.sIx_nat, dg_len, Nat.min_eq_left h, dg_cps, dg_cps, List.map_drop, List.take_of_length_le (by simp)]
theorem ok_bent (T : Tx P w K mg base) : OkG CX0 P w K mg base 3 "_law_bent" ["_law_pool", "_law_told"] sp_bent := by
  refine mkG (st := s__law_bent) T.e__law_bent T.g__law_bent (fun _ _ _ _ _ _ us hl => match us, hl with | [_, _], _ => rfl) sc__law_bent (fun vs H Q E h => ?_) (fun f cdv A outer s H vs Q E hr h => ?_)
  · obtain ⟨p, t, a, b, d, rows, rfl, _⟩ := h
    rfl
  · obtain ⟨p, t, a, b, d, rows, rfl, hp, hT, tol, q⟩ := h
    have nd := sc__law_bent.nd
    have al := tol.a_le
    have dl := tol.d_le
    obtain ⟨b1, b2, b3, b4⟩ := id tol.bas
    refine ⟨_, pss_cons (ps_par (i := 2) (j := 3) (by rfl) nd rfl rfl (by decide) rfl rfl (pa_cons (pe_callTy call_list_of (by rfl) T.f_list (by decide +kernel) (pa_cons (pe_ix ix_list (pv 1) pe_int (fun _ _ => rfl)) pa_nil)) (pa_cons (pe_g (ok_draw T) (hr.mono (by decide)) (pa_cons (pv 0) (pa_cons (pe_ix ix_list (pe_ix ix_list (pv 1) pe_int (fun _ _ => rfl)) pe_int (fun _ _ => rfl)) pa_nil))) pa_nil)) (by rfl))
      (pss_cons (ps_set (i := 4) nd rfl (Or.inl rfl) (pe_g (ok_draw T) (hr.mono (by decide)) (pa_cons (pv 0) (pa_cons (pe_ix ix_list (pe_ix ix_list (pv 1) pe_int (fun _ _ => rfl)) pe_int (fun _ _ => rfl)) pa_nil))))
      (pss_cons (ps_asg (pe_op op_add_str (pe_op op_add_str (pe_slice sl_str (pe_ix ix_list (pv 2) (pv 3) (fun _ _ => rfl)) po_none (po_some (pv 4))) (pe_g (ok_pick T) hr (pa_cons (pv 0) (pa_cons (pe_lst (pa_cons pe_str (pa_cons pe_str (pa_cons pe_str pa_nil)))) pa_nil)))) (pe_slice sl_str (pe_ix ix_list (pv 2) (pv 3) (fun _ _ => rfl)) (po_some (pe_op op_add (pv 4) pe_int)) po_none))
          (pg_sub (pv 2) (pv 3) set_list (fun _ => rfl)))
      (pss_one (ps_ret (pe_lst (pa_cons (pe_ix ix_list (pv 1) pe_int (fun _ _ => rfl)) (pa_cons (pv 2) pa_nil))))))), ?_⟩
    obtain ⟨u, l, ht, hu, hl⟩ := id hT
    refine ⟨_, rfl, t, _, 1, _, rfl, rfl, sqL_of ht, at1, l, _, rfl, .inl (sqL_of hl), fun R hR => ?_⟩
    have s1 := same_upd (o := .lst (rowV rows)) hR
    have Rp : R ≠ p := fun z => by
      obtain ⟨i, j, e, _⟩ := hp
      rw [← z, hR] at e
      cases e
    have hp1 := hp.same s1
    obtain ⟨u1, l1, ht1, hu1, hl1⟩ := hT.same s1
    refine ⟨_, rfl, _, rfl, t, _, 0, _, rfl, rfl, sqL_of ht1, at0, u1, _, 2, .int d, rfl, rfl, sqL_of hu1, rfl, p, d, rfl, hp1, b4, by omega, fun H2 y s2 y0 y1 => ⟨_, _, rfl, ?_⟩⟩
    have h2 := s2.ext _ _ (upd_same (H := H) (a := R) (o := .lst (rowV rows))) Rp
    have hT2 := (hT.same s1).sap hp1 s2
    obtain ⟨u2, l2, ht2, hu2, hl2⟩ := id hT2
    refine ⟨_, rfl, _, rfl, t, _, 0, _, rfl, rfl, sqL_of ht2, at0, u2, _, 0, .int a, rfl, rfl, sqL_of hu2, rfl, p, a, rfl, s2.pool, b1, by omega, fun H3 x s3 x0 x1 => ?_⟩
    have h3 := s3.ext _ _ h2 Rp
    have hT3 := hT2.sap s2.pool s3
    have hy : y.toNat < rows.length := by rw [tol.len]; omega
    have ey : ((y.toNat : Nat) : Int) = y := Int.toNat_of_nonneg y0
    have ex : ((x.toNat : Nat) : Int) = x := Int.toNat_of_nonneg x0
    have hrow := tol.row _ (List.getElem_mem hy)
    have hrl : (rows[y.toNat]).length ≤ 144 := by rw [hrow]; omega
    have iy : ∀ {H : Hp}, H R = some (.lst (rowV rows)) → atI (rowV rows) y = some (.str (dg rows[y.toNat])) := fun _ => rowV_atI y0 (List.getElem?_eq_getElem hy)
    refine ⟨_, rfl, _, rfl, R, _, _, _, rfl, rfl, sqL_of h3, iy h3, _, rfl, x, rfl, _, rfl, by rw [dg_len]; exact line_le (by omega), ?_⟩
    have c1 := cut_head (ds := rows[y.toNat]) (x := x.toNat) (by rw [hrow]; omega)
    rw [ex] at c1
    rw [c1]
    refine ⟨_, rfl, by show 3 ≤ sizeLine; decide, fun g hg => ?_⟩
    have s4 := same_upd (o := .lst [.str "0", .str "1", .str "9"]) hg
    have hp4 := s3.pool.same s4
    refine ⟨p, g, _, rfl, hp4, upd_same, hp4.ne upd_same (fun i j z => by cases z), by decide, by decide, fun H5 v s5 hv => ?_⟩
    obtain ⟨c, rfl, c9⟩ := bent_mem hv
    have h5 := s5.ext _ _ (s4 _ _ h3) Rp
    have hT5 := (hT3.same s4).sap hp4 s5
    refine ⟨_, _, rfl, rfl, ?_, ?_⟩
    · rw [dg_len, dg_len, List.length_take]
      exact line_le (by simp; omega)
    rw [dg_app]
    refine ⟨_, rfl, _, rfl, R, _, _, _, rfl, rfl, sqL_of h5, iy h5, _, rfl, _, _, rfl, rfl, x + 1, rfl, _, rfl, by rw [dg_len]; exact line_le (by omega), ?_⟩
    have c2 := cut_tail (ds := rows[y.toNat]) (x := x.toNat + 1) (by rw [hrow]; omega)
    rw [show ((x.toNat + 1 : Nat) : Int) = x + 1 by omega] at c2
    rw [c2]
    refine ⟨_, _, rfl, rfl, ?_, ?_⟩
    · rw [dg_len, dg_len, List.length_append, List.length_take, List.length_drop]
      exact line_le (by simp; omega)
    rw [dg_app]
    refine ⟨_, rfl, _, rfl, R, _, y, y.toNat, rfl, rfl, h5, ?_, ?_⟩
    · have el : (rowV rows).length = rows.length := by unfold rowV; rw [List.length_map]
      unfold ixN
      rw [if_pos y0, if_pos (by rw [el]; omega)]
    obtain ⟨nr, hnr⟩ : ∃ nr, nr = (rows[y.toNat]).take x.toNat ++ [c] ++ (rows[y.toNat]).drop (x.toNat + 1) := ⟨_, rfl⟩
    rw [← hnr]
    have eset : (rowV rows).set y.toNat (V.str (dg nr)) = rowV (rows.set y.toNat nr) := by
      unfold rowV
      rw [List.map_set]
    rw [eset]
    have g5 : SaP p H H5 := (SaP.pre s1 ((s2.trans s3).trans (SaP.pre s4 s5)))
    obtain ⟨u5, l5, ht5, hu5, hl5⟩ := id hT5
    have nR : ∀ {b o}, H b = some o → b ≠ R := fun e => ne_of_none e hR
    have tR := nR ht
    have h6t : (upd H5 R (.lst (rowV (rows.set y.toNat nr)))) t = some (.lst [.ref u5, .ref l5]) := by rw [upd_ne tR]; exact ht5
    refine ⟨_, rfl, t, _, 0, _, rfl, rfl, sqL_of h6t, at0, _, rfl, two_line, fun r hr => ?_⟩
    have eu : u5 = u := by
      have e := g5.ext _ _ ht (hp.ne ht fun i j z => by cases z)
      rw [ht5] at e
      injection e with e
      injection e with e
      injection e with e _
      injection e
    have uR : u5 ≠ R := by rw [eu]; exact nR hu
    have s7 := same_upd (o := .lst [.ref u5, .ref R]) hr
    have g6 : SaP p H (upd H5 R (.lst (rowV (rows.set y.toNat nr)))) := by
      refine ⟨fun b o e n => ?_, fun b e => ?_, ?_⟩
      · rw [upd_ne (nR e)]
        exact g5.ext _ _ e n
      · by_cases z : b = R
        · rw [z, upd_same] at e; cases e
        · rw [upd_ne z] at e
          exact g5.dom _ e
      · obtain ⟨i, j, e, h⟩ := g5.pool
        exact ⟨i, j, by rw [upd_ne Rp.symm]; exact e, h⟩
    refine q _ r _ (g6.same s7) ⟨u5, R, upd_same, s7 _ _ (by rw [upd_ne uR]; exact hu5), s7 _ _ upd_same⟩ ?_
    have nrl : nr.length = a.toNat := by
      rw [hnr, List.length_append, List.length_append, List.length_take, List.length_drop, hrow]
      simp
      omega
    have nrf : ∀ c' ∈ nr, c' ≤ 9 := by
      intro c' m
      rw [hnr] at m
      have hf := tol.fig _ (List.getElem_mem hy)
      rcases List.mem_append.mp m with m | m
      · rcases List.mem_append.mp m with m | m
        · exact hf _ (List.mem_of_mem_take m)
        · rw [List.mem_singleton.mp m]; exact c9
      · exact hf _ (List.mem_of_mem_drop m)
    refine Tol.of_lens tol.bas tol.sz (by rw [List.length_set, tol.len]) fun r' m => ?_
    rcases List.mem_or_eq_of_mem_set m with m | m
    · exact ⟨tol.row _ m, tol.fig _ m⟩
    · rw [m]; exact ⟨nrl, nrf⟩
end
end K12
namespace K12
open PySem PySem.Spec PyProof.Rows L2 LamX NdefX
section
variable {P : Program} {w : World} {K : PySem.W.Frag} {mg : Str → Option Value} {base : Heap}
/-! _law_coarser -/
theorem sc__law_coarser : FnScope ["_law_pool", "_law_told", "_law_wide", "_law_slant", "_law_high", "_law_across", "_law_up", "_law_three_here", "_law_lines", "_law_y", "_law_x"] ["_law_pool", "_law_told"] (defScope s__law_coarser) := ⟨rfl, rfl, rfl, by decide +kernel, rfl, by decide +kernel, by decide +kernel⟩
def sp_coarser : Sp := fun vs H Q _ => ∃ (p t : Addr) (a b d : Int) (rows : List (List Nat)), vs = [.ref p, .ref t] ∧ Pool H p ∧ ToldAt H t a b d rows ∧ Tol a b d rows ∧ ∀ H' r a2 b2 d2 rows2, SaP p H H' → ToldAt H' r a2 b2 d2 rows2 → Tol a2 b2 d2 rows2 → inL a b d b2 d2 → d2 ≤ 3 * d → Q (.ref r) H'
theorem ac_mem {v : V} (h : v ∈ [V.int 1, V.int 1, V.int 2, V.int 3]) : ∃ i : Int, v = .int i ∧ 1 ≤ i ∧ i ≤ 3 := by
  simp only [List.mem_cons, List.not_mem_nil, or_false] at h
  rcases h with rfl | rfl | rfl | rfl
  all_goals exact ⟨_, rfl, by decide, by decide⟩
theorem up_mem {v : V} (h : v ∈ [V.int 1, V.int 2, V.int 2, V.int 3]) : ∃ i : Int, v = .int i ∧ 1 ≤ i ∧ i ≤ 3 := by
  simp only [List.mem_cons, List.not_mem_nil, or_false] at h
  rcases h with rfl | rfl | rfl | rfl
  all_goals exact ⟨_, rfl, by decide, by decide⟩
theorem coarse_in {a b d ac up k : Int} : inL a b d ((b * up + a * k) % (a * ac)) (d * up) := by
  obtain ⟨c, hc⟩ := dvd_mod_sub (m := a * ac) (n := b * up + a * k)
  refine ⟨up, k + ac * c, Int.mul_comm _ _, ?_⟩
  rw [Int.add_mul, Int.mul_comm k a, Int.mul_comm up b, Int.mul_comm (ac * c) a, ← Int.mul_assoc]
  omega
theorem log_small {c : Nat} (h : c ≤ 9) : ((c : Int)).natAbs.log2 < 1920 := by
  have : ∀ c ∈ List.range 10, ((c : Int)).natAbs.log2 < 1920 := by decide +kernel
  exact this c (List.mem_range.mpr (by omega))
theorem coarser_rest (T : Tx P w K mg base) {f : Addr} {cdv : Value} {A : Around} {outer : List Env} {s : Shared} {H : Hp} {E : XK} {Q : VK} {p t : Addr} {a b d : Int} {rows : List (List Nat)} (hr : Room 3 (A.deeper (envOfC "_law_coarser" (defScope s__law_coarser) s.heap.objs.size f cdv)))
    (tol : Tol a b d rows) (q : ∀ H' r a2 b2 d2 rows2, SaP p H H' → ToldAt H' r a2 b2 d2 rows2 → Tol a2 b2 d2 rows2 → inL a b d b2 d2 → d2 ≤ 3 * d → Q (.ref r) H') :
    ∃ tr : TS, PSs (cxOf CX0 P w K mg base ["_law_pool", "_law_told", "_law_wide", "_law_slant", "_law_high", "_law_across", "_law_up", "_law_three_here", "_law_lines", "_law_y", "_law_x"] "_law_coarser" (defScope s__law_coarser) f cdv A outer s H E).nox ((defBody s__law_coarser).drop 3) tr ∧
      ∀ (ac up : Int) (H1 : Hp), SaP p H H1 → ToldAt H1 t a b d rows → 1 ≤ ac → ac ≤ 3 → 1 ≤ up → up ≤ 3 → a * ac * d * up ≤ 144 →
        tr { nx := fun _ H' => Q .non H', rt := Q } [some (.ref p), some (.ref t), some (.int a), some (.int b), some (.int d), some (.int ac), some (.int up), none, none, none, none] H1 := by
  have nd := sc__law_coarser.nd
  refine ⟨_, pss_cons (ps_par (i := 7) (j := 8) (by rfl) nd rfl rfl (by decide) rfl rfl (pa_cons (pe_lst (pa_cons (pe_op op_mul (pv 2) (pv 5)) (pa_cons (pe_op op_mod (pe_op op_add (pe_op op_mul (pv 3) (pv 6)) (pe_op op_mul (pv 2) (pe_g (ok_draw T) (hr.mono (by decide)) (pa_cons (pv 0) (pa_cons (pv 5) pa_nil))))) (pe_op op_mul (pv 2) (pv 5))) (pa_cons (pe_op op_mul (pv 4) (pv 6)) pa_nil)))) (pa_cons (pe_lst pa_nil) pa_nil)) (by rfl))
      (pss_cons (ps_for PassesOwn.never rfl (pi_range1 rfl T.f_range (pa_cons (pe_ix ix_list (pv 7) pe_int (fun _ _ => rfl)) pa_nil)) (pg_name (i := 9) nd rfl (Or.inr rfl))
        (pss_one (ps_expr (pe_bm PySem.F.plainAttrs_list PySem.F.slot_list_append PySem.F.type_list_append mt_append (pv 8) (pa_cons (pe_join pe_str (pe_lc (own := [("_law_x", 10)]) (g := gName 10) (tt := tYes)
          (by rfl) nd (pi_range1 rfl T.f_range (pa_cons (pe_ix ix_list (pv 7) pe_int (fun _ _ => rfl)) pa_nil)) (blkOk_by (N := ["_law_pool", "_law_told", "_law_wide", "_law_slant", "_law_high", "_law_across", "_law_up", "_law_three_here", "_law_lines", "_law_y", "_law_x"]) (sc := defScope s__law_coarser) (by decide +kernel)) (fun _ _ _ _ _ => pg_name (i := 10) nd rfl (Or.inl rfl)) (fun _ _ _ _ _ => pts_nil)
          (fun _ _ _ _ _ => pe_callTy call_str_int (by rfl) T.f_str (by decide +kernel) (pa_cons (pe_g (ok_colour T) (hr.mono (by decide)) (pa_cons (pv 1) (pa_cons (pv 10) (pa_cons (pv 9) pa_nil)))) pa_nil)))) pa_nil)))))
      (pss_one (ps_ret (pe_lst (pa_cons (pv 7) (pa_cons (pv 8) pa_nil)))))), fun ac up H1 g1 hT a1 a3 u1 u3 hsz => ?_⟩
  have al := tol.a_le
  have dl := tol.d_le
  obtain ⟨b1, b2, b3, b4⟩ := id tol.bas
  have aa : a * ac ≤ 144 * 3 := Int.mul_le_mul al a3 (by omega) (by omega)
  have aa0 : 0 < a * ac := Int.mul_pos (by omega) (by omega)
  have du : d * up ≤ 144 * 3 := Int.mul_le_mul dl u3 (by omega) (by omega)
  have du0 : 0 < d * up := Int.mul_pos (by omega) (by omega)
  have du3 : d * up ≤ 3 * d := by
    have := Int.mul_le_mul_of_nonneg_left u3 (show 0 ≤ d by omega)
    omega
  refine ⟨_, rfl, _, rfl, _, _, rfl, rfl, .inl ⟨by omega, by omega⟩, ?_⟩
  refine ⟨_, rfl, _, rfl, _, _, rfl, rfl, .inl ⟨by omega, by omega⟩, _, rfl, _, rfl, _, rfl, p, ac, rfl, g1.pool, a1, by omega, fun H2 k s2 k0 k1 => ?_⟩
  refine ⟨_, _, rfl, rfl, .inl ⟨by omega, by omega⟩, _, _, rfl, rfl, _, rfl, _, rfl, _, _, rfl, rfl, .inl ⟨by omega, by omega⟩, _, _, rfl, rfl, aa0, ?_⟩
  refine ⟨_, rfl, _, rfl, _, _, rfl, rfl, .inl ⟨by omega, by omega⟩, by show 3 ≤ sizeLine; decide, fun U hU => ⟨Nat.zero_le _, fun F hF => ⟨_, _, rfl, ?_⟩⟩⟩
  have hb0 : 0 ≤ ((b * up + a * k) % (a * ac)) := Int.emod_nonneg _ (by omega)
  have hb1 : ((b * up + a * k) % (a * ac)) < a * ac := Int.emod_lt_of_pos _ aa0
  have g2 := g1.trans s2
  have sU := same_upd (o := .lst [.int (a * ac), .int ((b * up + a * k) % (a * ac)), .int (d * up)]) hU
  have hF' : (upd H2 U (.lst [.int (a * ac), .int ((b * up + a * k) % (a * ac)), .int (d * up)])) F = none := hF
  have sF := same_upd (o := .lst []) hF'
  have s3 := sU.trans sF
  have g3 := g2.same s3
  have hT3 := (hT.sap g1.pool s2).same s3
  have U3 : (upd (upd H2 U (.lst [.int (a * ac), .int ((b * up + a * k) % (a * ac)), .int (d * up)])) F (.lst [])) U = some (.lst [.int (a * ac), .int ((b * up + a * k) % (a * ac)), .int (d * up)]) := sF _ _ upd_same
  have UF : U ≠ F := fun z => by rw [← z, upd_same] at hF'; cases hF'
  refine ⟨_, rfl, U, _, 2, .int (d * up), rfl, rfl, sqL_of U3, rfl, d * up, rfl, by omega, by omega, for_range (lo := 0) (n := (d * up).toNat) (fun i σ H' => (∃ o, σ = [some (.ref p), some (.ref t), some (.int a), some (.int b), some (.int d), some (.int ac), some (.int up), some (.ref U), some (.ref F), o, none]) ∧ Same (upd H2 U (.lst [.int (a * ac), .int ((b * up + a * k) % (a * ac)), .int (d * up)])) H' ∧ H' F = some (.lst (rowV (rowsTo (sigR a b d rows) (a * ac).toNat i)))) ⟨⟨_, rfl⟩, sF, upd_same⟩ ?_ ?_⟩
  · rintro i σ H4 hi ⟨⟨o, rfl⟩, s4, h4⟩
    rw [Int.zero_add]
    have hT4 := ((hT.sap g1.pool s2).same sU).same s4
    refine ⟨_, rfl, .inl ⟨rfl, _, sqL_of h4⟩, ⟨_, rfl⟩, _, rfl, U, _, 0, .int (a * ac), rfl, rfl, sqL_of (s4 _ _ upd_same), rfl, a * ac, rfl, by omega, by omega, fun D hD => ?_⟩
    refine lc_range (fun j H' => Same H4 H' ∧ H' D = some (.lst ((rowTo (sigR a b d rows) (i : Nat) j).map fun c => V.str (dg [c])))) ⟨same_upd hD, upd_same⟩ ?_ ?_
    · rintro j H5 hj ⟨s5, h5⟩
      rw [Int.zero_add]
      refine ⟨rfl, _, rfl, _, rfl, _, rfl, t, a, b, d, _, _, rows, rfl, hT4.same s5, tol, fun H6 s6 => ⟨_, rfl, log_small (fig_of tol _ _), ?_⟩⟩
      rw [str_dg (fig_of tol _ _)]
      refine ⟨_, s6 _ _ h5, ?_, sameD (s5.trans s6) hD, ?_⟩
      · rw [List.length_map, rowTo_len]
        exact line_of (by omega)
      · rw [upd_same, rowTo_succ, List.map_append]
        rfl
    · rintro H5 ⟨s5, h5⟩
      rw [map_sign] at h5
      refine ⟨_, D, _, rfl, rfl, .inl (sqL_of h5), join_need (by rw [rowTo_len]; omega), ?_⟩
      rw [join_dg]
      refine ⟨F, _, _, rfl, rfl, s5 _ _ h4, ?_, ⟨_, rfl⟩, ?_, ?_⟩
      · unfold rowV rowsTo
        simp only [List.length_map, List.length_range]
        exact line_of (by omega)
      · intro c o e
        rw [upd_ne (ne_of_none e hF')]
        exact (s4.trans s5) _ _ e
      · rw [upd_same, rowsTo_succ]
        unfold rowV
        rw [List.map_append]
        rfl
  · rintro σ H4 ⟨⟨o, rfl⟩, s4, h4⟩
    refine ⟨_, rfl, _, rfl, two_line, fun r hr => ?_⟩
    have s6 := same_upd (o := .lst [.ref U, .ref F]) hr
    refine q _ r (a * ac) ((b * up + a * k) % (a * ac)) (d * up) (nrows (sigR a b d rows) (a * ac) (d * up)) ((g2.same sU).same (s4.trans s6)) ⟨U, F, upd_same, s6 _ _ (s4 _ _ upd_same), s6 _ _ h4⟩ (tol_nrows ⟨by omega, hb0, hb1, by omega⟩ (fig_of tol) (by rw [← Int.mul_assoc]; exact hsz)) coarse_in du3
theorem ok_coarser (T : Tx P w K mg base) : OkG CX0 P w K mg base 4 "_law_coarser" ["_law_pool", "_law_told"] sp_coarser := by
  refine mkG (st := s__law_coarser) T.e__law_coarser T.g__law_coarser (fun _ _ _ _ _ _ us hl => match us, hl with | [_, _], _ => rfl) sc__law_coarser (fun vs H Q E h => ?_) (fun f cdv A outer s H vs Q E hr h => ?_)
  · obtain ⟨p, t, a, b, d, rows, rfl, _⟩ := h
    rfl
  · obtain ⟨p, t, a, b, d, rows, rfl, hp, hT, tol, q⟩ := h
    have nd := sc__law_coarser.nd
    have al := tol.a_le
    have dl := tol.d_le
    obtain ⟨b1, b2, b3, b4⟩ := id tol.bas
    obtain ⟨tr, hrest, rd⟩ := coarser_rest (t := t) (outer := outer) (E := E) T hr tol q
    refine ⟨_, pss_cons (ps_asg (pe_ix ix_list (pv 1) pe_int (fun _ _ => rfl)) (pg_lst (by rfl) (pgs_cons (pg_name (i := 2) nd rfl (.inl rfl)) (pgs_cons (pg_name (i := 3) nd rfl (.inl rfl)) (pgs_cons (pg_name (i := 4) nd rfl (.inl rfl)) pgs_nil)))))
      (pss_cons (ps_par (i := 5) (j := 6) (by rfl) nd rfl rfl (by decide) rfl rfl (pa_cons (pe_g (ok_pick T) (hr.mono (by decide)) (pa_cons (pv 0) (pa_cons (pe_lst (pa_cons pe_int (pa_cons pe_int (pa_cons pe_int (pa_cons pe_int pa_nil))))) pa_nil))) (pa_cons (pe_g (ok_pick T) (hr.mono (by decide)) (pa_cons (pv 0) (pa_cons (pe_lst (pa_cons pe_int (pa_cons pe_int (pa_cons pe_int (pa_cons pe_int pa_nil))))) pa_nil))) pa_nil)) (by rfl))
      (pss_cons (ps_if (pt_cmpR op_gt (pe_op op_mul (pe_op op_mul (pe_op op_mul (pv 2) (pv 5)) (pv 4)) (pv 6)) pe_int (nomark _)) (pss_one (ps_asg (pe_tup (pa_cons pe_int (pa_cons pe_int pa_nil))) (pg_tup (by rfl) (pgs_cons (pg_name (i := 5) nd rfl (.inl rfl)) (pgs_cons (pg_name (i := 6) nd rfl (.inl rfl)) pgs_nil))))) pss_nil)
      hrest)), ?_⟩
    obtain ⟨u, l, ht, hu, hl⟩ := id hT
    refine ⟨_, rfl, t, _, 0, _, rfl, rfl, sqL_of ht, at0, u, _, rfl, sqL_of hu, rfl, _, _, rfl, _, _, rfl, _, _, rfl, rfl, ?_⟩
    refine ⟨_, rfl, four_line, fun l0 hl0 => ?_⟩
    have s0 := same_upd (o := .lst [.int 1, .int 1, .int 2, .int 3]) hl0
    have hp0 := hp.same s0
    refine ⟨p, l0, _, rfl, hp0, upd_same, hp0.ne upd_same (fun i j z => by cases z), by decide, by decide, fun H1 v s1 hv => ?_⟩
    obtain ⟨ac, rfl, c1, c3⟩ := ac_mem hv
    refine ⟨_, rfl, four_line, fun l1 hl1 => ?_⟩
    have s2 := same_upd (o := .lst [.int 1, .int 2, .int 2, .int 3]) hl1
    have hp2 := s1.pool.same s2
    refine ⟨p, l1, _, rfl, hp2, upd_same, hp2.ne upd_same (fun i j z => by cases z), by decide, by decide, fun H3 v s3 hv => ⟨_, _, rfl, ?_⟩⟩
    obtain ⟨up, rfl, u1, u3⟩ := up_mem hv
    have g3 : SaP p H H3 := SaP.pre s0 (s1.trans (SaP.pre s2 s3))
    have hT3 := hT.sap hp g3
    have aa : a * ac ≤ 144 * 3 := Int.mul_le_mul al c3 (by omega) (by omega)
    have aa0 : 0 < a * ac := Int.mul_pos (by omega) (by omega)
    have ad : a * ac * d ≤ 432 * 144 := Int.mul_le_mul (by omega) dl (by omega) (by omega)
    have ad0 : 0 < a * ac * d := Int.mul_pos aa0 (by omega)
    refine ⟨_, rfl, _, rfl, _, _, rfl, rfl, .inl ⟨by omega, by omega⟩, _, rfl, _, _, rfl, rfl, .inl ⟨by omega, by omega⟩, _, rfl, _, _, rfl, rfl, .inl ⟨by omega, by omega⟩, _, _, rfl, rfl, _, rfl, ?_⟩
    by_cases z : 48 < a * ac * d * up
    · rw [decide_eq_true z]
      refine iteT ⟨two_line, fun x hx => ⟨x, _, rfl, sqT_of upd_same, rfl, _, _, rfl, _, _, rfl, rfl, ?_⟩⟩
      have s4 := same_upd (o := .tup [.int 1, .int 1]) hx
      refine rd 1 1 _ (g3.same s4) (hT3.same s4) (by decide) (by decide) (by decide) (by decide) ?_
      rw [Int.mul_one, Int.mul_one]
      exact tol.sz
    · rw [decide_eq_false z]
      refine iteF ?_
      exact rd ac up H3 g3 hT3 c1 c3 u1 u3 (by omega)
end
end K12
namespace K12
open PySem PySem.Spec PyProof.Rows L2 LamX NdefX
section
variable {P : Program} {w : World} {K : PySem.W.Frag} {mg : Str → Option Value} {base : Heap}
/-! ### answers as data -/
def partD : Option (Int × Int) → PyData
  | none => .none
  | some (x, y) => .tuple [.int x, .int y]
theorem partD_dp {H : Hp} {v : V} : ∀ {r : Option (Int × Int)}, PartV H v r → Dp K H v (partD r)
  | none, h => by
    have h : v = .non := h
    subst h
    exact .non
  | some (x, y), ⟨t, e, h⟩ => by
    subst e
    exact dp_pair h
theorem partD_shaped : ∀ r : Option (Int × Int), SeqAt.shaped (partD r) = true
  | none => by simp [SeqAt.shaped, partD, PyData.canLay0, PyData.depth]
  | some (x, y) => shaped_pair x y
theorem partD_eq : ∀ r : Option (Int × Int), PyData.eqv (partD r) (partD r) = true
  | none => by simp [partD, PyData.eqv]
  | some (x, y) => by
    show PyData.eqv (.tuple [.int x, .int y]) (.tuple [.int x, .int y]) = true
    rw [eqv_pair]
    simp
theorem PartV.same {H H' : Hp} {v : V} : ∀ {r : Option (Int × Int)}, PartV H v r → Same H H' → PartV H' v r
  | none, h, _ => h
  | some (x, y), ⟨t, e, h⟩, s => ⟨t, e, s _ _ h⟩
theorem PartV.isN {H : Hp} {v : V} : ∀ {r : Option (Int × Int)}, PartV H v r → decide (v = .non) = decide (r = none)
  | none, h => by
    have h : v = .non := h
    subst h
    simp
  | some (x, y), ⟨t, e, h⟩ => by
    subst e
    simp
theorem IsPart.same_iff {f g : Col} : ∀ {r : Option (Int × Int)}, IsPart f g r → (r = none ↔ ∀ u v, f u v = g u v)
  | none, h => ⟨fun _ => h, fun _ => rfl⟩
  | some (x, y), h => ⟨(fun e => by cases e), fun e => absurd (e x y) h.2.2.1⟩
/-! _law_pair_right -/
theorem sc__law_pair_right : FnScope ["_law_one", "_law_other", "_law_first", "_law_second", "_law_wide", "_law_high", "_law_due"] ["_law_one", "_law_other"] (defScope s__law_pair_right) := ⟨rfl, rfl, rfl, by decide +kernel, rfl, by decide +kernel, by decide +kernel⟩
def sp_pair_right : Sp := fun vs H Q _ => ∃ (t t2 : Addr) (a b d a2 b2 d2 : Int) (rows rows2 : List (List Nat)), vs = [.ref t, .ref t2] ∧ ToldAt H t a b d rows ∧ ToldAt H t2 a2 b2 d2 rows2 ∧ Tol a b d rows ∧ Tol a2 b2 d2 rows2 ∧
  (∃ B D : Int, 0 < D ∧ D ≤ 40 ∧ inL a b d B D ∧ inL a2 b2 d2 B D) ∧ ∀ H', Same H H' → Q (.bl true) H'
theorem ok_pair_right (T : Tx P w K mg base) : OkG CX0 P w K mg base 12 "_law_pair_right" ["_law_one", "_law_other"] sp_pair_right := by
  obtain ⟨fe, fde, Me, be, Fe⟩ := ok_car_eq T
  refine mkG (st := s__law_pair_right) T.e__law_pair_right T.g__law_pair_right (fun _ _ _ _ _ _ us hl => match us, hl with | [_, _], _ => rfl) sc__law_pair_right (fun vs H Q E h => ?_) (fun f cdv A outer s H vs Q E hr h => ?_)
  · obtain ⟨t, t2, a, b, d, a2, b2, d2, rows, rows2, rfl, _⟩ := h
    rfl
  · obtain ⟨t, t2, a, b, d, a2, b2, d2, rows, rows2, rfl, hT, hT2, tol, tol2, ⟨B, D, D0, D40, i1, i2⟩, q⟩ := h
    have nd := sc__law_pair_right.nd
    have al := tol.a_le
    have al2 := tol2.a_le
    have a1 := tol.bas.1
    have a3 := tol2.bas.1
    have hr10 : Room 10 _ := hr.mono (by decide)
    refine ⟨_, pss_cons (ps_par (i := 2) (j := 3) (by rfl) nd rfl rfl (by decide) rfl rfl (pa_cons (pe_g (ok_made T) hr (pa_cons (pv 0) pa_nil)) (pa_cons (pe_g (ok_made T) hr (pa_cons (pv 1) pa_nil)) pa_nil)) (by rfl))
      (pss_cons (ps_asg (pe_g (ok_window T) (hr.mono (by decide)) (pa_cons (pv 0) (pa_cons (pv 1) pa_nil))) (pg_lst (by rfl) (pgs_cons (pg_name (i := 4) nd rfl (.inl rfl)) (pgs_cons (pg_name (i := 5) nd rfl (.inl rfl)) pgs_nil))))
      (pss_cons (ps_set (i := 6) nd rfl (Or.inl rfl) (pe_g (ok_lparting T) (hr.mono (by decide)) (pa_cons (pv 0) (pa_cons (pv 1) (pa_cons (pv 4) (pa_cons (pv 5) pa_nil))))))
      (pss_cons (ps_if (PW.pt (pw_or (pt_cmpR (op_neD hr.units) (pe_g (ok_parting_cell T) hr10 (pa_cons (pv 2) (pa_cons (pv 3) pa_nil))) (pv 6) (nomark _)) (pw_or1 (pt_cmpR (op_neD hr.units) (pe_g (ok_parting_cell T) hr10 (pa_cons (pv 3) (pa_cons (pv 2) pa_nil))) (pv 6) (nomark _))))) (pss_one (ps_ret pe_bl)) pss_nil)
      (pss_one (ps_ret (pe_cmpR op_eq (pe_cmpR (op_eqOwn Fe (hr.mono (by decide)) be Me pass0) (pv 2) (pv 3) (nomark _)) (pe_cmpR op_isN (pv 6) pe_non (nomark _)) (nomark _))))))), ?_⟩
    refine ⟨_, rfl, t, a, b, d, rows, rfl, hT, tol, fun H1 c1 s1 _ hc1 => ?_⟩
    refine ⟨_, rfl, t2, a2, b2, d2, rows2, rfl, hT2.same s1, tol2, fun H2 c2 s2 _ hc2 => ⟨_, _, rfl, ?_⟩⟩
    have s12 := s1.trans s2
    refine ⟨_, rfl, _, rfl, t, t2, a, b, d, a2, b2, d2, rows, rows2, rfl, hT.same s12, hT2.same s12, tol, tol2, fun H3 r3 W s3 h3 w0 w1 w2 w3 => ?_⟩
    refine ⟨r3, _, rfl, sqL_of h3, rfl, _, _, rfl, _, _, rfl, rfl, ?_⟩
    have s13 := s12.trans s3
    have aa : a * a2 ≤ 144 * 144 := Int.mul_le_mul al al2 (by omega) (by omega)
    refine ⟨_, rfl, _, rfl, _, rfl, _, rfl, t, t2, a, b, d, a2, b2, d2, W, 40, rows, rows2, rfl, hT.same s13, hT2.same s13, tol, tol2, ⟨by omega, by omega, by decide, by decide⟩, fun H4 v r s4 hs hv => ?_⟩
    -- the law's own search is the parting cell
    have pW : per (sigR a b d rows) W 0 := by
      obtain ⟨k, hk⟩ := w2
      have := per_mul (sig_a (a := a) (b := b) (d := d) (rows := rows)) k
      rw [Int.mul_zero, Int.mul_comm k a, ← hk] at this
      exact this
    have pW2 : per (sigR a2 b2 d2 rows2) W 0 := by
      obtain ⟨k, hk⟩ := w3
      have := per_mul (sig_a (a := a2) (b := b2) (d := d2) (rows := rows2)) k
      rw [Int.mul_zero, Int.mul_comm k a2, ← hk] at this
      exact this
    have hp : IsPart (sigR a b d rows) (sigR a2 b2 d2 rows2) r := hs.part w0 D0 D40 pW pW2 (per_inL sig_a tol.pb i1) (per_inL sig_a tol2.pb i2)
    have s24 := s3.trans s4
    have k1 := hc1.same (s2.trans s24)
    have k2 := hc2.same s24
    refine ⟨_, rfl, _, rfl, c1, c2, a, b, d, a2, b2, d2, rows, rows2, rfl, k1, k2, fun H5 v5 r5 s5 hp5 hv5 => ?_⟩
    have er5 : r5 = r := hp5.uniq hp
    subst er5
    refine ⟨_, rfl, _, _, partD_dp hv5, partD_dp (hv.same s5), partD_shaped _, partD_shaped _, _, rfl, ?_⟩
    rw [partD_eq]
    refine iteF ⟨_, rfl, _, rfl, c2, c1, a2, b2, d2, a, b, d, rows2, rows, rfl, k2.same s5, k1.same s5, fun H6 v6 r6 s6 hp6 hv6 => ?_⟩
    have er6 : r6 = r5 := hp6.symm.uniq hp
    subst er6
    have hv6' := (hv.same s5).same s6
    refine ⟨_, rfl, _, _, partD_dp hv6, partD_dp hv6', partD_shaped _, partD_shaped _, _, rfl, ?_⟩
    rw [partD_eq]
    have s56 := s5.trans s6
    have k1' := k1.same s56
    have k2' := k2.same s56
    obtain ⟨R, B', S, N, a', b', d', hx⟩ := id k1'
    obtain ⟨R2, B2, S2, N2, a2', b2', d2', hy⟩ := id k2'
    obtain ⟨dx, hpx⟩ := hx.ob
    obtain ⟨dy, hpy⟩ := hy.ob
    refine iteF ⟨_, rfl, _, rfl, c1, c2, dx, dy, _, _, rfl, rfl, hpx, hpy, c1, c2, a, b, d, a2, b2, d2, rows, rows2, rfl, k1', k2', fun c hc => ⟨c, rfl, ?_⟩⟩
    refine ⟨_, rfl, rfl, rfl, ?_⟩
    have ec : decide (V.bl c = V.bl (decide (v = V.non))) = true := by
      refine decide_eq_true ?_
      rw [hv6'.isN]
      congr 1
      cases c with
      | true => exact (decide_eq_true (hp.same_iff.mpr (hc.mp rfl))).symm
      | false => exact (decide_eq_false fun e => by have := hc.mpr (hp.same_iff.mp e); cases this).symm
    show Q (.bl (decide (V.bl c = V.bl (decide (v = V.non))))) H6
    rw [ec]
    exact q _ ((s12.trans s24).trans s56)
end
end K12
namespace K12
open PySem PySem.Spec PyProof.Rows L2 LamX NdefX
/-! ### pool and tables -/
structure Gx (T : List (Addr × Str)) (p : Addr) (H H' : Hp) : Prop where
  ext : ∀ b o, H b = some o → b ≠ p → (∀ ps, o ≠ .tbl ps) → H' b = some o
  dom : ∀ b, H' b = none → H b = none
  tab : Tabs T H'
  pool : Pool H' p
theorem TabS.sap {H H' : Hp} {p Pt : Addr} {q : Str} (t : TabS H Pt q) (hp : Pool H p) (s : SaP p H H') : TabS H' Pt q := by
  obtain ⟨ps, h1, h2, h3⟩ := t
  refine ⟨ps, s.ext _ _ h1 (hp.ne h1 fun i j z => by cases z), h2, fun pos cv hc => ?_⟩
  obtain ⟨c, e1, e2⟩ := h3 pos cv hc
  exact ⟨c, e1, s.ext _ _ e2 (hp.ne e2 fun i j z => by cases z)⟩
theorem Gx.sap {T : List (Addr × Str)} {p : Addr} {H H' : Hp} (s : SaP p H H') (hp : Pool H p) (t : Tabs T H) : Gx T p H H' := ⟨fun b o e n _ => s.ext b o e n, s.dom, fun z hz => TabS.sap (t z hz) hp s, s.pool⟩
theorem Pool.g0 {T : List (Addr × Str)} {p : Addr} {H H' : Hp} (hp : Pool H p) (g : G0 T H H') : Pool H' p := by
  obtain ⟨i, j, h1, h2⟩ := hp
  exact ⟨i, j, g.ext _ _ h1 (fun ps z => by cases z), h2⟩
theorem Gx.g0 {T : List (Addr × Str)} {p : Addr} {H H' : Hp} (g : G0 T H H') (hp : Pool H p) : Gx T p H H' := ⟨fun b o e _ n => g.ext b o e n, g.dom, g.tab, hp.g0 g⟩
theorem Gx.trans {T : List (Addr × Str)} {p : Addr} {H H' H2 : Hp} (g : Gx T p H H') (h : Gx T p H' H2) : Gx T p H H2 := ⟨fun b o e n k => h.ext b o (g.ext b o e n k) n k, fun b e => g.dom b (h.dom b e), h.tab, h.pool⟩
theorem Gx.same {T : List (Addr × Str)} {p : Addr} {H H' H2 : Hp} (g : Gx T p H H') (s : Same H' H2) : Gx T p H H2 := ⟨fun b o e n k => s _ _ (g.ext b o e n k), fun b e => g.dom b (s.free e), g.tab.ext s, g.pool.same s⟩
theorem Gx.of {T : List (Addr × Str)} {p : Addr} {H H' : Hp} (s : Same H H') (t : Tabs T H) (hp : Pool H p) : Gx T p H H' := ⟨fun b o e _ _ => s _ _ e, fun b e => s.free e, t.ext s, hp.same s⟩
theorem CarAt.gx {K : PySem.W.Frag} {T : List (Addr × Str)} {p : Addr} {H H' : Hp} {x : Addr} {a b d : Int} {rows : List (List Nat)} (h : CarAt K H x a b d rows) (hp : Pool H p) (g : Gx T p H H') : CarAt K H' x a b d rows := by
  obtain ⟨R, B, S, N, a', b', d', ⟨dx, h1⟩, h2, ⟨dy, h3⟩, h4, h5, h6, h7, h8, h9⟩ := h
  have k : ∀ b o, H b = some o → (∀ i j : Int, o ≠ .lst [.int i, .int j]) → (∀ ps, o ≠ .tbl ps) → H' b = some o := fun b o e n m => g.ext b o e (hp.ne e n) m
  exact ⟨R, B, S, N, a', b', d', ⟨dx, k _ _ h1 (fun i j z => by cases z) (fun ps z => by cases z)⟩, k _ _ h2 (fun i j z => by cases z) (fun ps z => by cases z), ⟨dy, k _ _ h3 (fun i j z => by cases z) (fun ps z => by cases z)⟩, h4, h5, h6,
    k _ _ h7 (fun i j z => by cases z) (fun ps z => by cases z), k _ _ h8 (fun i j z => by cases z) (fun ps z => by cases z), h9⟩
theorem ToldAt.gx {T : List (Addr × Str)} {p : Addr} {H H' : Hp} {t : Addr} {a b d : Int} {rows : List (List Nat)} (h : ToldAt H t a b d rows) (hp : Pool H p) (g : Gx T p H H') : ToldAt H' t a b d rows := by
  obtain ⟨u, l, h1, h2, h3⟩ := h
  have k : ∀ b o, H b = some o → (∀ i j : Int, o ≠ .lst [.int i, .int j]) → (∀ ps, o ≠ .tbl ps) → H' b = some o := fun b o e n m => g.ext b o e (hp.ne e n) m
  exact ⟨u, l, k _ _ h1 (fun i j z => by cases z) (fun ps z => by cases z), k _ _ h2 (fun i j z => by cases z) (fun ps z => by cases z), k _ _ h3 (fun i j => rowV_no) (fun ps z => by cases z)⟩
theorem PartV.g0 {T : List (Addr × Str)} {H H' : Hp} {v : V} : ∀ {r : Option (Int × Int)}, PartV H v r → G0 T H H' → PartV H' v r
  | none, h, _ => h
  | some (x, y), ⟨t, e, h⟩, g => ⟨t, e, g.ext _ _ h (fun ps z => by cases z)⟩
section
variable {P : Program} {w : World} {K : PySem.W.Frag} {mg : Str → Option Value} {base : Heap}
theorem eqv_empty (ns : List Nat) : PyData.eqv (.list (ns.map fun n => PyData.int ((n : Nat) : Int))) (.list []) = decide (ns = []) := by
  rw [eqv_lst]
  cases ns with
  | nil => simp [PyData.eqvAll]
  | cons n r => simp [PyData.eqvAll]
theorem dp_ints {H : Hp} : ∀ ns : List Nat, DpAll K H (ns.map fun n => V.int ((n : Nat) : Int)) (ns.map fun n => PyData.int ((n : Nat) : Int))
  | [] => .nil
  | n :: r => .cons (.int _) (dp_ints r)
theorem lay_ints : ∀ ns : List Nat, PyData.canLayAll0 (ns.map fun n => PyData.int ((n : Nat) : Int)) = true
  | [] => by simp [PyData.canLayAll0]
  | n :: r => by
    show PyData.canLayAll0 (PyData.int ((n : Nat) : Int) :: (r.map fun n => PyData.int ((n : Nat) : Int))) = true
    simp only [PyData.canLayAll0, PyData.canLay0, lay_ints r]
    rfl
theorem depth_ints : ∀ ns : List Nat, PyData.depthAll (ns.map fun n => PyData.int ((n : Nat) : Int)) = 0
  | [] => by simp [PyData.depthAll]
  | n :: r => by
    show PyData.depthAll (PyData.int ((n : Nat) : Int) :: (r.map fun n => PyData.int ((n : Nat) : Int))) = 0
    simp only [PyData.depthAll, PyData.depth, depth_ints r]
    rfl
theorem shaped_ints (ns : List Nat) : SeqAt.shaped (.list (ns.map fun n => PyData.int ((n : Nat) : Int))) = true := by
  simp only [SeqAt.shaped, PyData.canLay0, PyData.depth, lay_ints, depth_ints]
  decide
theorem mov_wrap {f : Col} {a x y k : Int} (pa : per f a 0) : mov f (x + k * a) y = mov f x y := by
  funext u v
  unfold mov
  have h := per_mul pa k (u + x) (v + y)
  rw [Int.mul_zero, Int.add_zero] at h
  rw [← Int.add_assoc]
  exact h
/-- a row more, no unlike place -/
theorem Searched.more {f g : Col} {A : Int} {i : Nat} {r : Option (Int × Int)} (s : Searched f g A i r) (h : r = none → ∀ x, 0 ≤ x → x < A → f x (i : Nat) = g x (i : Nat)) : Searched f g A ((i + 1 : Nat) : Int) r := by
  refine ⟨fun e y y0 y1 x x0 x1 => ?_, fun x y e => ?_⟩
  · by_cases k : y = i
    · rw [k]; exact h e x x0 x1
    · exact s.no e y y0 (by omega) x x0 x1
  · obtain ⟨h1, h2, h3, h4, h5⟩ := s.yes x y e
    exact ⟨h1, h2, h3, by omega, h5⟩
theorem sc__law_breaking_right : FnScope ["_law_pool", "_law_told", "_law_carpet", "_law_a", "_law_d", "_law_step", "_law_x", "_law_y", "_law_due", "_law_j", "_law_some", "_law_i"] ["_law_pool", "_law_told"] (defScope s__law_breaking_right) := ⟨rfl, rfl, rfl, by decide +kernel, rfl, by decide +kernel, by decide +kernel⟩
def sp_breaking_right (K : PySem.W.Frag) : Sp := fun vs H Q _ => ∃ (p t : Addr) (a b d : Int) (rows : List (List Nat)), vs = [.ref p, .ref t] ∧ Pool H p ∧ ToldAt H t a b d rows ∧ Tol a b d rows ∧ Tabs (TT K) H ∧ ∀ H', Gx (TT K) p H H' → Q (.bl true) H'
theorem ok_breaking_right (T : Tx P w K mg base) : OkG CX0 P w K mg base 14 "_law_breaking_right" ["_law_pool", "_law_told"] (sp_breaking_right K) := by
  refine mkG (st := s__law_breaking_right) T.e__law_breaking_right T.g__law_breaking_right (fun _ _ _ _ _ _ us hl => match us, hl with | [_, _], _ => rfl) sc__law_breaking_right (fun vs H Q E h => ?_) (fun f cdv A outer s H vs Q E hr h => ?_)
  · obtain ⟨p, t, a, b, d, rows, rfl, _⟩ := h
    rfl
  · obtain ⟨p, t, a, b, d, rows, rfl, hp, hT, tol, hTab, q⟩ := h
    have nd := sc__law_breaking_right.nd
    have al := tol.a_le
    have dl := tol.d_le
    obtain ⟨b1, b2, b3, b4⟩ := id tol.bas
    have hr1 : Room 1 _ := hr.mono (by decide)
    have hr2 : Room 2 _ := hr.mono (by decide)
    refine ⟨_, pss_cons (ps_par3 (i := 2) (j := 3) (l := 4) (by rfl) nd rfl rfl rfl (by decide) (by decide) (by decide) rfl rfl rfl (pa_cons (pe_g (ok_made T) (hr.mono (by decide)) (pa_cons (pv 1) pa_nil)) (pa_cons (pe_ix ix_list (pe_ix ix_list (pv 1) pe_int (fun _ _ => rfl)) pe_int (fun _ _ => rfl)) (pa_cons (pe_ix ix_list (pe_ix ix_list (pv 1) pe_int (fun _ _ => rfl)) pe_int (fun _ _ => rfl)) pa_nil))) (by rfl))
      (pss_cons (ps_for PassesOwn.never rfl (pi_range1 rfl T.f_range (pa_cons pe_int pa_nil)) (pg_name (i := 5) nd rfl (Or.inl rfl))
        (pss_cons (ps_set (i := 6) nd rfl (Or.inr rfl) (pe_g (ok_pick T) hr2 (pa_cons (pv 0) (pa_cons (pe_lst (pa_cons (pe_op op_sub (pe_g (ok_draw T) hr1 (pa_cons (pv 0) (pa_cons pe_int pa_nil))) pe_int) (pa_cons (pv 3) (pa_cons (pe_ix ix_list (pe_ix ix_list (pv 1) pe_int (fun _ _ => rfl)) pe_int (fun _ _ => rfl)) (pa_cons pe_int pa_nil))))) pa_nil))))
        (pss_cons (ps_set (i := 7) nd rfl (Or.inr rfl) (pe_g (ok_pick T) hr2 (pa_cons (pv 0) (pa_cons (pe_lst (pa_cons (pe_op op_sub (pe_g (ok_draw T) hr1 (pa_cons (pv 0) (pa_cons pe_int pa_nil))) pe_int) (pa_cons (pv 4) (pa_cons pe_int pa_nil)))) pa_nil))))
        (pss_cons (ps_set (i := 8) nd rfl (Or.inl rfl) pe_non)
        (pss_cons (ps_for PassesOwn.never rfl (pi_range1 rfl T.f_range (pa_cons (pv 4) pa_nil)) (pg_name (i := 9) nd rfl (Or.inr rfl))
          (pss_cons (ps_setLc (i := 10) (own := [("_law_i", 11)]) (g := gName 11) (by rfl) nd rfl rfl (sw_true rfl rfl rfl (by decide +kernel)) (pi_range1 rfl T.f_range (pa_cons (pv 3) pa_nil)) (blkOk_by (N := ["_law_pool", "_law_told", "_law_carpet", "_law_a", "_law_d", "_law_step", "_law_x", "_law_y", "_law_due", "_law_j", "_law_some", "_law_i"]) (sc := defScope s__law_breaking_right) (by decide +kernel)) (fun _ _ _ _ _ => pg_name (i := 11) nd rfl (Or.inl rfl))
            (fun _ _ _ _ _ => pts_one (pt_cmpR op_ne (pe_g (ok_colour T) hr2 (pa_cons (pv 1) (pa_cons (pv 11) (pa_cons (pv 9) pa_nil)))) (pe_g (ok_colour T) hr2 (pa_cons (pv 1) (pa_cons (pe_op op_add (pv 11) (pv 6)) (pa_cons (pe_op op_add (pv 9) (pv 7)) pa_nil)))) (nomark _))) (fun _ _ _ _ _ => pv 11))
          (pss_one (ps_if (PW.pt (pw_and (pt_cmpR (op_neD hr.units) (pv 10) (pe_lst pa_nil) (nomark _)) (pw_and1 (pt_cmpR op_isN (pv 8) pe_non (nomark _))))) (pss_one (ps_set (i := 8) nd rfl (Or.inl rfl) (pe_tup (pa_cons (pe_ix ix_list (pv 10) pe_int (fun _ _ => rfl)) (pa_cons (pv 9) pa_nil))))) pss_nil))))
        (pss_cons (ps_if (PW.pt (pw_or (pt_cmpR (op_neD hr.units) (pe_g (ok_breaking_cell T) hr (pa_cons (pv 2) (pa_cons (pe_tup (pa_cons (pv 6) (pa_cons (pv 7) pa_nil))) pa_nil))) (pv 8) (nomark _)) (pw_or1 (pt_cmpR op_ne (pe_m (ok_car_period T) T.c_Carpet (hr.mono (by decide)) (pv 2) (pa_cons (pe_tup (pa_cons (pv 6) (pa_cons (pv 7) pa_nil))) pa_nil)) (pe_cmpR op_isN (pv 8) pe_non (nomark _)) (nomark _))))) (pss_one (ps_ret pe_bl)) pss_nil)
        (pss_one (ps_if (pt_cmpR (op_neD hr.units) (pe_g (ok_breaking_cell T) hr (pa_cons (pv 2) (pa_cons (pe_tup (pa_cons (pe_op op_add (pv 6) (pe_op op_mul (pe_op op_pow pe_int pe_int) (pv 3))) (pa_cons (pv 7) pa_nil))) pa_nil))) (pv 8) (nomark _)) (pss_one (ps_ret pe_bl)) pss_nil))))))))
      (pss_one (ps_ret pe_bl))), ?_⟩
    obtain ⟨u, l, ht, hu, hl⟩ := id hT
    refine ⟨_, rfl, t, a, b, d, rows, rfl, hT, tol, fun H1 c s1 _ hc => ?_⟩
    have hT1 := hT.same s1
    refine ⟨_, rfl, t, _, 0, _, rfl, rfl, sqL_of (s1 _ _ ht), at0, u, _, 0, .int a, rfl, rfl, sqL_of (s1 _ _ hu), rfl, ?_⟩
    refine ⟨_, rfl, t, _, 0, _, rfl, rfl, sqL_of (s1 _ _ ht), at0, u, _, 2, .int d, rfl, rfl, sqL_of (s1 _ _ hu), rfl, ?_⟩
    refine ⟨_, _, _, rfl, ?_⟩
    have g1 : Gx (TT K) p H H1 := Gx.of s1 hTab hp
    refine ⟨8, rfl, by decide, by decide, for_range (lo := 0) (n := 8) (fun i σ H' => (∃ o5 o6 o7 o8 o9 o10, σ = [some (.ref p), some (.ref t), some (.ref c), some (.int a), some (.int d), o5, o6, o7, o8, o9, o10, none]) ∧ Gx (TT K) p H H' ∧ CarAt K H' c a b d rows) ⟨⟨_, _, _, _, _, _, rfl⟩, g1, hc⟩ ?_ ?_⟩
    · rintro i σ H2 hi ⟨⟨o5, o6, o7, o8, o9, o10, rfl⟩, g2, hc2⟩
      have hT2 := hT.gx hp g2
      -- x
      refine ⟨_, rfl, _, rfl, p, 9, rfl, g2.pool, by decide, by decide, fun H3 v3 s3 _ _ => ⟨_, _, rfl, rfl, ?_⟩⟩
      have hT3 := hT2.sap g2.pool s3
      obtain ⟨u3, l3, ht3, hu3, hl3⟩ := id hT3
      refine ⟨_, rfl, _, rfl, t, _, 0, _, rfl, rfl, sqL_of ht3, at0, u3, _, 1, .int b, rfl, rfl, sqL_of hu3, rfl, by show 4 ≤ sizeLine; decide, fun e4 he4 => ?_⟩
      have s4 := same_upd (o := .lst [.int (v3 - 4), .int a, .int b, .int 0]) he4
      have hp4 := s3.pool.same s4
      refine ⟨p, e4, _, rfl, hp4, upd_same, hp4.ne upd_same (fun i j z => by cases z), by show 1 ≤ 4; decide, by show 4 < 1000; decide, fun H5 vx s5 hvx => ?_⟩
      obtain ⟨x, rfl⟩ : ∃ x : Int, vx = .int x := by
        have hvx : vx ∈ [V.int (v3 - 4), V.int a, V.int b, V.int 0] := hvx
        simp only [List.mem_cons, List.not_mem_nil, or_false] at hvx
        rcases hvx with rfl | rfl | rfl | rfl <;> exact ⟨_, rfl⟩
      -- y
      refine ⟨_, rfl, _, rfl, p, 9, rfl, s5.pool, by decide, by decide, fun H6 v6 s6 _ _ => ⟨_, _, rfl, rfl, ?_⟩⟩
      refine ⟨_, rfl, by show 3 ≤ sizeLine; decide, fun e7 he7 => ?_⟩
      have s7 := same_upd (o := .lst [.int (v6 - 4), .int d, .int 0]) he7
      have hp7 := s6.pool.same s7
      refine ⟨p, e7, _, rfl, hp7, upd_same, hp7.ne upd_same (fun i j z => by cases z), by show 1 ≤ 3; decide, by show 3 < 1000; decide, fun H8 vy s8 hvy => ?_⟩
      obtain ⟨y, rfl⟩ : ∃ y : Int, vy = .int y := by
        have hvy : vy ∈ [V.int (v6 - 4), V.int d, V.int 0] := hvy
        simp only [List.mem_cons, List.not_mem_nil, or_false] at hvy
        rcases hvy with rfl | rfl | rfl <;> exact ⟨_, rfl⟩
      have s28 : SaP p H2 H8 := (s3.trans (SaP.pre s4 s5)).trans (s6.trans (SaP.pre s7 s8))
      have g28 : Gx (TT K) p H2 H8 := Gx.sap s28 g2.pool g2.tab
      have g8 := g2.trans g28
      have hT8 := hT2.gx g2.pool g28
      have hc8 := hc2.gx g2.pool g28
      -- the law's own search
      refine ⟨_, rfl, d, rfl, by omega, by omega, for_range (lo := 0) (n := d.toNat) (fun j σ H' => (∃ v o9 o10, σ = [some (.ref p), some (.ref t), some (.ref c), some (.int a), some (.int d), some (.int (0 + (i : Nat))), some (.int x), some (.int y), some v, o9, o10, none] ∧ ∃ r, PartV H' v r ∧ Searched (sigR a b d rows) (mov (sigR a b d rows) x y) a (j : Nat) r) ∧ Same H8 H') ⟨⟨.non, _, _, rfl, none, rfl, ⟨fun _ y y0 y1 => by omega, fun x y e => by cases e⟩⟩, Same.refl _⟩ ?_ ?_⟩
      · rintro j σ H9 hj ⟨⟨v, o9, o10, rfl, r, hv, hs⟩, s9⟩
        rw [Int.zero_add (j : Int)]
        refine ⟨_, rfl, a, rfl, by omega, by omega, fun D hD => ?_⟩
        refine lc_range (fun k H' => Same H9 H' ∧ H' D = some (.lst ((unTo (sigR a b d rows) (mov (sigR a b d rows) x y) (j : Nat) k).map fun x => V.int ((x : Nat) : Int)))) ⟨same_upd hD, upd_same⟩ ?_ ?_
        · rintro k H10 hk ⟨s10, h10⟩
          rw [Int.zero_add (k : Int)]
          have hT10 := (hT8.same s9).same s10
          refine ⟨rfl, _, rfl, _, rfl, _, rfl, t, a, b, d, _, _, rows, rfl, hT10, tol, fun H11 s11 => ?_⟩
          refine ⟨_, rfl, _, rfl, _, rfl, _, _, rfl, rfl, _, rfl, _, rfl, _, _, rfl, rfl, t, a, b, d, _, _, rows, rfl, hT10.same s11, tol, fun H12 s12 => ⟨rfl, _, rfl, ?_⟩⟩
          rw [colour_ne]
          have s1012 := s11.trans s12
          by_cases z : sigR a b d rows (k : Nat) (j : Nat) = mov (sigR a b d rows) x y (k : Nat) (j : Nat)
          · rw [decide_eq_true (show sigR a b d rows (k : Nat) (j : Nat) = sigR a b d rows ((k : Nat) + x) ((j : Nat) + y) from z)]
            refine iteF ⟨s10.trans s1012, ?_⟩
            rw [unTo_succ, decide_eq_true z]
            simpa using s1012 _ _ h10
          · rw [decide_eq_false (show ¬ sigR a b d rows (k : Nat) (j : Nat) = sigR a b d rows ((k : Nat) + x) ((j : Nat) + y) from z)]
            refine iteT ⟨_, rfl, _, s1012 _ _ h10, ?_, sameD (s10.trans s1012) hD, ?_⟩
            · rw [List.length_map]
              have := unTo_len (sigR a b d rows) (mov (sigR a b d rows) x y) (j : Nat) k
              exact line_of (by omega)
            · rw [upd_same, unTo_succ, decide_eq_false z]
              simp
        · rintro H10 ⟨s10, h10⟩
          refine ⟨_, rfl, Nat.zero_le _, fun e hE => ?_⟩
          have s11 := same_upd (o := .lst []) hE
          refine ⟨_, _, .lst (sqL_of (s11 _ _ h10)) (dp_ints _), .lst (sqL_of upd_same) .nil, shaped_ints _, by simp [SeqAt.shaped, PyData.canLay0, PyData.canLayAll0, PyData.depth, PyData.depthAll], _, rfl, ?_⟩
          rw [eqv_empty]
          have s911 := s10.trans s11
          have hv11 := hv.same s911
          by_cases z : rowTo (sigR a b d rows) (j : Nat) a.toNat = rowTo (mov (sigR a b d rows) x y) (j : Nat) a.toNat
          · have hz : unTo (sigR a b d rows) (mov (sigR a b d rows) x y) (j : Nat) a.toNat = [] := by
              unfold unTo
              rw [List.filter_eq_nil_iff]
              intro m hm
              have := rowTo_at z (m : Nat) (by omega) (by have := List.mem_range.mp hm; omega)
              simp [this]
            rw [hz, decide_eq_true rfl]
            refine iteF (iteF ⟨⟨v, _, _, rfl, r, hv11, hs.more fun _ u u0 u1 => rowTo_at z u u0 (by omega)⟩, s9.trans s911⟩)
          · obtain ⟨x0, x1, x2, x3, x4⟩ := unTo_head z
            have hne : unTo (sigR a b d rows) (mov (sigR a b d rows) x y) (j : Nat) a.toNat ≠ [] := fun e => by rw [e] at x2; cases x2
            rw [decide_eq_false hne]
            refine iteT ⟨_, rfl, rfl, _, rfl, ?_⟩
            rw [hv11.isN]
            cases r with
            | none =>
              rw [decide_eq_true rfl]
              refine iteT ⟨_, rfl, D, _, 0, .int ((x0 : Nat) : Int), rfl, rfl, sqL_of (s11 _ _ h10), atI_nat (j := 0) (by rw [List.getElem?_map, x2]; rfl), _, rfl, two_line, fun g hg => ?_⟩
              refine ⟨⟨_, _, _, rfl, some ((x0 : Int), (j : Int)), ⟨g, rfl, upd_same⟩, ⟨(fun e => by cases e), fun x' y' e => ?_⟩⟩, (s9.trans s911).trans (same_upd hg)⟩
              injection e with e
              injection e with ex ey
              subst ex ey
              exact ⟨by omega, by omega, by omega, by omega, x3, fun v v0 v1 u u0 u1 => hs.no rfl v v0 (by omega) u u0 u1, fun u u0 u1 => by
                have := x4 u.toNat (by omega)
                rwa [Int.toNat_of_nonneg u0] at this⟩
            | some xy =>
              rw [decide_eq_false (by intro e; cases e)]
              exact iteF ⟨⟨v, _, _, rfl, some xy, hv11, hs.more fun e => by cases e⟩, s9.trans s911⟩
      · rintro σ H9 ⟨⟨v, o9, o10, rfl, r, hv, hs⟩, s9⟩
        have ed : ((d.toNat : Nat) : Int) = d := Int.toNat_of_nonneg (by omega)
        rw [ed] at hs
        have pa : per (sigR a b d rows) a 0 := sig_a
        have hpart : IsPart (sigR a b d rows) (mov (sigR a b d rows) x y) r := hs.part (B := b) (by omega) (by omega) (Int.le_refl _) pa (per_mov pa) tol.pb (per_mov tol.pb)
        have g9 := g8.same s9
        have hc9 := hc8.same s9
        refine ⟨_, rfl, _, rfl, _, rfl, two_line, fun e10 he10 => ?_⟩
        have s10 := same_upd (o := .tup [.int x, .int y]) he10
        refine ⟨c, e10, a, b, d, x, y, rows, rfl, hc9.same s10, upd_same, g9.tab.ext s10, fun H11 v11 r11 g11 hp11 hv11 => ?_⟩
        have er : r11 = r := hp11.uniq hpart
        subst er
        have hvv := (hv.same s10).g0 g11
        refine ⟨_, rfl, _, _, partD_dp hv11, partD_dp hvv, partD_shaped _, partD_shaped _, _, rfl, ?_⟩
        rw [partD_eq]
        have g911 : Gx (TT K) p H9 H11 := (Gx.of s10 g9.tab g9.pool).trans (Gx.g0 g11 (g9.pool.same s10))
        have hc11 := hc9.gx g9.pool g911
        obtain ⟨R, B', S, N, a', b', d', hx⟩ := id hc11
        obtain ⟨dx, hpx⟩ := hx.ob
        refine iteF ⟨_, rfl, c, dx, _, rfl, hpx, by rfl, _, rfl, _, rfl, two_line, fun e12 he12 => ?_⟩
        have s12 := same_upd (o := .tup [.int x, .int y]) he12
        refine ⟨c, e12, a, b, d, x, y, rows, rfl, hc11.same s12, upd_same, fun H13 cc s13 hcc => ?_⟩
        have hv13 := (hvv.same s12).same s13
        refine ⟨_, rfl, rfl, rfl, _, rfl, ?_⟩
        have ec : cc = decide (v = V.non) := by
          rw [hv13.isN]
          cases cc with
          | true => exact (decide_eq_true (hpart.same_iff.mpr (per_iff_mov.mp (hcc.mp rfl)))).symm
          | false => exact (decide_eq_false fun e => by have := hcc.mpr (per_iff_mov.mpr (hpart.same_iff.mp e)); cases this).symm
        refine iteNS (by rw [ec]) ?_
        have s1113 := s12.trans s13
        have g13 := (g9.trans g911).same s1113
        refine ⟨_, rfl, _, rfl, _, _, rfl, rfl, ⟨by decide, by decide, by decide⟩, _, rfl, _, _, rfl, rfl, .inr ⟨by omega, by omega⟩, _, _, rfl, rfl, _, rfl, two_line, fun e14 he14 => ?_⟩
        have s14 := same_upd (o := .tup [.int (x + 10 ^ (20 : Int).toNat * a), .int y]) he14
        refine ⟨c, e14, a, b, d, x + 10 ^ (20 : Int).toNat * a, y, rows, rfl, (hc11.same s1113).same s14, upd_same, g13.tab.ext s14, fun H15 v15 r15 g15 hp15 hv15 => ?_⟩
        rw [mov_wrap pa] at hp15
        have er15 : r15 = r11 := hp15.uniq hpart
        subst er15
        have hv15' := (hv13.same s14).g0 g15
        refine ⟨_, rfl, _, _, partD_dp hv15, partD_dp hv15', partD_shaped _, partD_shaped _, _, rfl, ?_⟩
        rw [partD_eq]
        have g1315 : Gx (TT K) p H13 H15 := (Gx.of s14 g13.tab g13.pool).trans (Gx.g0 g15 (g13.pool.same s14))
        exact iteF ⟨⟨_, _, _, _, _, _, rfl⟩, g13.trans g1315, (hc11.same s1113).gx g13.pool g1315⟩
    · rintro σ H2 ⟨⟨o5, o6, o7, o8, o9, o10, rfl⟩, g2, hc2⟩
      exact q H2 g2
end
end K12
namespace K12
open PySem PySem.Spec PyProof.Rows L2 LamX NdefX
/-! ### _law_refused: what it makes of a call that is refused -/
def TRef (K : PySem.W.Frag) : (XK → Hp → VK → Prop) → Hp → VK → Prop := fun tl H Q =>
  tl (fun cls d H' => cls = .ref (He.ga K "BadPart") ∧ ∃ dd z, d = some dd ∧ H' dd = some (.xd [(("part" : Str), .str z)]) ∧ ∀ r, H' r = none → Q (.ref r) (upd H' r (.lst [.str "part", .str z]))) H fun _ _ => False
theorem sc__law_refused : FnScope ["_law_call", "e"] ["_law_call"] (defScope s__law_refused) := ⟨rfl, rfl, rfl, by decide +kernel, rfl, by decide +kernel, by decide +kernel⟩
theorem takes_len {X : Cx} {W : WX} (tk : Takes X W) : Takes X (fun cls d σ H => σ.length = X.N.length → W cls d σ H) := fun u s' x => by
  obtain ⟨a, B, sI, pins', σ', H', cls, d, rfl, J', nb, up, sky, na, os, ag, hW⟩ := x
  exact tk _ s' ⟨a, B, sI, pins', σ', H', cls, d, rfl, J', nb, up, sky, na, os, ag, hW J'.len⟩
theorem refused_gives {X : Cx} {g : Addr} {cdg : Value} {q : Str} (hme : X.mg "BadPart" = some (.ref (He.ga X.K "BadPart"))) (xf : XfC X.K (He.ga X.K "BadPart")) (noN : PySem.W.findIn X.K (.ref (He.ga X.K "BadPart")) "part" = some none) (te : PySem.W.exmOne X.K (.ref (He.ga X.K "BadPart")) (.ref (He.ga X.K "BadPart")) = some true) :
    GivesTo X ["_law_call", "e"] "_law_refused" (defScope s__law_refused) g cdg (defBody s__law_refused) "_law_call" q (TRef X.K) := by
  intro f c' s H Q tl act hc h
  have nd := sc__law_refused.nd
  refine ⟨_, pss_cons (ps_try_as1 (X := (cxOf C8.CX0 X.prog X.w X.K X.mg X.base ["_law_call", "e"] "_law_refused" (defScope s__law_refused) g cdg X.A X.stack s H C8.E0).nox) (i := 1) (c := .ref (He.ga X.K "BadPart"))
      (tb := fun W D σ H => ∃ Ech : XK, (∀ cls d σ' H', Ech cls d H' → σ'.length = 2 → W cls d σ' H') ∧ σ[0]? = some (some (.ref f)) ∧ H c' = some (CodeO c' q) ∧ tl Ech H fun _ H1 => D.nx σ H1)
      (ts := fun a cls d => tRet (tLst (tCons (tC (.str "part")) (tCons (tXf a cls d (He.ga X.K "BadPart") "part" (tVar 1)) tNil))))
      rfl rfl nd rfl rfl ⟨rfl, by decide, .inl hme⟩ (fun W pn xe tk _ => ?_) (fun a oe cls d pn hz hf => pss_one (ps_ret (pe_lst (pa_cons pe_str (pa_cons (pe_xf xf noN hz hf (pv 1)) pa_nil)))))) (pss_one ps_never), ?_⟩
  · refine ⟨fun pins s' σ H' D I h' => ?_⟩
    obtain ⟨Ech, hW, h1, h2, h3⟩ := h'
    have hp := act _ pn xe Ech ⟨311, 8, 311, 17⟩ ⟨311, 8, 311, 19⟩ (takes_len tk) hW
    have hq := pss_one (ps_expr (pos := ⟨311, 8, 311, 19⟩) hp)
    exact hq.run pins s' σ H' D I ⟨h1, h2, h3⟩
  · refine ⟨fun cls d H' => cls = .ref (He.ga X.K "BadPart") ∧ ∃ dd z, d = some dd ∧ H' dd = some (.xd [(("part" : Str), .str z)]) ∧ ∀ r, H' r = none → Q (.ref r) (upd H' r (.lst [.str "part", .str z])), fun cls d σ' H' hw hl => ?_, rfl, hc, h⟩
    obtain ⟨rfl, dd, z, rfl, hd, hq⟩ := hw
    refine ⟨te, fun a _ => ⟨_, ?_, rfl, rfl, dd, _, _, rfl, hd, rfl, two_line, hq⟩⟩
    rw [List.getElem?_set_self (by omega)]
end K12
namespace K12
open PySem PySem.Spec PyProof.Rows L2 LamX NdefX
abbrev Nl : List Str := ["_law_script", "_law_k", "_law_pool", "_law_three_here", "_law_told", "_law_others", "_law_other", "_law_rows_here", "_law_carpet", "_law_odd"]
theorem sc_law : FnScope Nl ["_law_script"] (defScope s_law) := ⟨rfl, rfl, rfl, by decide +kernel, rfl, by decide +kernel, by decide +kernel⟩
def lawBody : List Stmt := match defBody s_law with
  | .For _ _ b _ _ :: _ => b
  | _ => []
abbrev XL (P : Program) (w : World) (K : PySem.W.Frag) (mg : Str → Option Value) (base : Heap) (f : Addr) (A : Around) (outer : List Env) (s : Shared) (H : Hp) (E : XK) : Cx :=
  (cxOf CX0 P w K mg base Nl "law" (defScope s_law) f (.ref (He.codeOf K ("law", none))) A outer s H E).nox
section
variable {P : Program} {w : World} {K : PySem.W.Frag} {mg : Str → Option Value} {base : Heap} {f : Addr} {A : Around} {outer : List Env} {s : Shared} {H0 : Hp} {E0' : XK}
theorem pe_ref (T : Tx P w K mg base) {params : Arguments} {body : Expr} {scope : Scope} {lpos p pos : Pos} {t : XK → TE} (hr : Room 6 (XL P w K mg base f A outer s H0 E0').A) (L : LamS (defScope s_law) scope) (hdef : defaultsOf params (XL P w K mg base f A outer s H0 E0').env = ([], []))
    (hbind : ∀ (q : Str) (cl : List (Str × Addr)) (pm cv ctv : Value), bindArgs (PySem.W.kla_fn "<lambda>" q params body scope cl pm cv ctv) ⟨[], []⟩ = pure [])
    (hbody : ∀ (A' : Around) (outer' : List Env) (s' : Shared) (H' : Hp) (E' : XK) (f' c' : Addr), Room 4 (A'.deeper (lamEnv (XL P w K mg base f A outer s H0 E0') scope s'.heap.objs.size f' c')) → PE (lamCx (XL P w K mg base f A outer s H0 E0') A' outer' s' H' E' scope f' c') body (t E')) :
    PE (XL P w K mg base f A outer s H0 E0') (.Call (.Name "_law_refused" p) [.Lambda params body scope lpos] [] pos) (tLam (TT K) (TRef K) t) := by
  obtain ⟨fd, F⟩ := T.e__law_refused
  have b := F.bindsN (ps := ["_law_call"]) fun _ _ _ _ _ _ us hl => match us, hl with | [_], _ => rfl
  obtain ⟨oc, od, dV, kV, doc, pm, an, cdv, ct, osl, rfl, lk, hcd, _, _⟩ := F.ex
  exact pe_lamcall (by rfl) T.g__law_refused F.kp lk hcd b sc__law_refused rfl (.inl rfl) (refused_gives T.g_BadPart T.bp.xf T.ex.noN T.ex.te) (T.tb ("law", none) (by simp [tf])) rfl (by simp only [TT]; exact List.mem_cons_self) (fun z hz e => by
    simp only [TT, List.mem_cons, List.not_mem_nil, or_false] at hz
    rcases hz with rfl | rfl
    · rfl
    · exact absurd e.symm T.ex.tn) hr L hdef hbind hbody
/-- behind a refusal -/
theorem ref_heap {T : List (Addr × Str)} {H H1 : Hp} {d r : Addr} {z : Str} (e : ExtN H H1) (t : Tabs T H1) (hd : H1 d = none) (hr : (upd H1 d (.xd [(("part" : Str), .str z)])) r = none) :
    ExtN H (upd (upd H1 d (.xd [(("part" : Str), .str z)])) r (.lst [.str "part", .str z])) ∧ Tabs T (upd (upd H1 d (.xd [(("part" : Str), .str z)])) r (.lst [.str "part", .str z])) ∧ (upd (upd H1 d (.xd [(("part" : Str), .str z)])) r (.lst [.str "part", .str z])) r = some (.lst [.str "part", .str z]) := by
  have s := (same_upd (o := .xd [(("part" : Str), .str z)]) hd).trans (same_upd (o := .lst [.str "part", .str z]) hr)
  exact ⟨fun b o x n => s _ _ (e b o x n), t.ext s, upd_same⟩
theorem NoCar.ext {H H' : Hp} {v : V} (h : NoCar H v) (e : ExtN H H') : NoCar H' v := by
  cases h with
  | non => exact .non
  | int i => exact .int i
  | str z => exact .str z
  | lst h => exact .lst (e _ _ h fun ps z => by cases z)
theorem ShV.ext {H H' : Hp} {v : V} {b : Bool} (h : ShV H v b) (e : ExtN H H') : ShV H' v b := by
  cases h with
  | good h => exact .good (e _ _ h fun ps z => by cases z)
  | non => exact .non
  | str z => exact .str z
  | lst h => exact .lst (e _ _ h fun ps z => by cases z)
  | one h => exact .one (e _ _ h fun ps z => by cases z)
  | boo h => exact .boo (e _ _ h fun ps z => by cases z)
theorem ext_lst {H H' : Hp} {b : Addr} {xs : List V} (e : ExtN H H') (h : H b = some (.lst xs)) : H' b = some (.lst xs) := e _ _ h fun ps z => by cases z
theorem ext_same {H H' : Hp} (s : Same H H') : ExtN H H' := fun b o e _ => s _ _ e
def oddD (z : Str) : PyData := .list [.str "part", .str z]
theorem odd_dp {H : Hp} {r : Addr} {z : Str} (h : H r = some (.lst [.str "part", .str z])) : Dp K H (.ref r) (oddD z) := .lst (sqL_of h) (.cons (.str _) (.cons (.str _) .nil))
theorem odd1 (T : Tx P w K mg base) (hr : Room 6 (XL P w K mg base f A outer s H0 E0').A) : ∃ tr : TS, PS (XL P w K mg base f A outer s H0 E0') (lawBody.getD 7 (.Pass ⟨0, 0, 0, 0⟩)) tr ∧
    ∀ (D : Ends) (x0 x1 x2 x3 x5 x6 x7 x9 : Option V) (t c : Addr) (xs : List V) (a b d : Int) (rows : List (List Nat)) (H : Hp), H t = some (.lst xs) → CarAt K H c a b d rows → Tabs (TT K) H →
      (∀ o7 o9 H', ExtN H H' → Tabs (TT K) H' → D.nx [x0, x1, x2, x3, some (.ref t), x5, x6, o7, some (.ref c), o9] H') → tr D [x0, x1, x2, x3, some (.ref t), x5, x6, x7, some (.ref c), x9] H := by
  have nd := sc_law.nd
  obtain ⟨fp, fdp, gp, kp, bp, Fp⟩ := ok_parting_cell_bad T
  obtain ⟨fb, fdb, gb, kb, bb, Fb⟩ := ok_breaking_cell_bad T
  refine ⟨_, ps_for PassesOwn.never rfl (pi_list (pe_lst (pa_cons pe_non (pa_cons pe_int (pa_cons (pv 4) (pa_cons pe_str pa_nil)))))) (pg_name (i := 9) nd rfl (Or.inr rfl))
    (pss_cons (ps_set (i := 7) nd rfl (Or.inl rfl) (pe_lst (pa_cons (pe_ref T hr (t := fun E => tCall (sp_parting_bad K) [] E (tCons (tVar 9) (tCons (tVar 8) tNil))) (lamS_by (by decide +kernel)) (by rfl) (fun _ _ _ _ _ => rfl)
        (fun A' outer' s' H' E' f' c' hr' => by exact (pe_call Fp hr' (by rfl) gp kp bp .nil (passes_call (takes_of rfl rfl rfl rfl) (fun _ _ _ _ h => h)) (pa_cons (pv 9) (pa_cons (pv 8) pa_nil))))) pa_nil)))
    (pss_cons (ps_expr (pe_bm PySem.F.plainAttrs_list PySem.F.slot_list_append PySem.F.type_list_append mt_append (pv 7) (pa_cons (pe_ref T hr (t := fun E => tCall (sp_parting_bad K) [] E (tCons (tVar 8) (tCons (tVar 9) tNil))) (lamS_by (by decide +kernel)) (by rfl) (fun _ _ _ _ _ => rfl)
        (fun A' outer' s' H' E' f' c' hr' => by exact (pe_call Fp hr' (by rfl) gp kp bp .nil (passes_call (takes_of rfl rfl rfl rfl) (fun _ _ _ _ h => h)) (pa_cons (pv 8) (pa_cons (pv 9) pa_nil))))) pa_nil)))
    (pss_cons (ps_expr (pe_bm PySem.F.plainAttrs_list PySem.F.slot_list_append PySem.F.type_list_append mt_append (pv 7) (pa_cons (pe_ref T hr (t := fun E => tCall (sp_breaking_bad K) [] E (tCons (tVar 9) (tCons (tC .non) tNil))) (lamS_by (by decide +kernel)) (by rfl) (fun _ _ _ _ _ => rfl)
        (fun A' outer' s' H' E' f' c' hr' => by exact (pe_call Fb hr' (by rfl) gb kb bb .nil (passes_call (takes_of rfl rfl rfl rfl) (fun _ _ _ _ h => h)) (pa_cons (pv 9) (pa_cons pe_non pa_nil))))) pa_nil)))
    (pss_one (ps_if (pt_cmpR (op_neD hr.units) (pv 7) (pe_op op_rep (pe_lst (pa_cons (pe_lst (pa_cons pe_str (pa_cons pe_str pa_nil))) pa_nil)) pe_int) (nomark _)) (pss_one (ps_ret pe_bl)) pss_nil))))), ?_⟩
  intro D x0 x1 x2 x3 x5 x6 x7 x9 t c xs a b d rows H ht hc hT q
  refine ⟨_, rfl, four_line, fun L hL => ⟨L, rfl, ⟨_, sqL_of upd_same⟩, ?_⟩⟩
  have sL := same_upd (o := .lst [.non, .int 5, .ref t, .str "01"]) hL
  refine for_list (K := K) (a := L) (xs := [.non, .int 5, .ref t, .str "01"]) (fun i σ H' => (∃ o7 o9, σ = [x0, x1, x2, x3, some (.ref t), x5, x6, o7, some (.ref c), o9]) ∧ ExtN (upd H L (.lst [.non, .int 5, .ref t, .str "01"])) H' ∧ Tabs (TT K) H') ⟨⟨_, _, rfl⟩, ExtN.refl _, hT.ext sL⟩ (fun i σ H' _ ⟨_, e, _⟩ => sqL_of (ext_lst e upd_same)) ?_ ?_
  · rintro i v σ H1 hv ⟨⟨o7, o9, rfl⟩, e1, T1⟩
    have no1 : NoCar H1 v := by
      have hv := List.mem_of_getElem? hv
      simp only [List.mem_cons, List.not_mem_nil, or_false] at hv
      rcases hv with rfl | rfl | rfl | rfl
      · exact .non
      · exact .int 5
      · exact .lst (ext_lst e1 (sL _ _ ht))
      · exact .str _
    have c1 : CarAt K H1 c a b d rows := (hc.same sL).g0 e1
    -- the first refusal
    refine ⟨T1, fun H2 e2 T2 => ?_⟩
    refine ⟨_, rfl, _, rfl, v, .ref c, rfl, .inl (no1.ext e2), fun d1 hd1 => ⟨rfl, d1, "carpet", rfl, upd_same, fun r1 hr1 => ?_⟩⟩
    obtain ⟨e3, T3, h3⟩ := ref_heap e2 T2 hd1 hr1
    refine ⟨by show 1 ≤ sizeLine; decide, fun R hR => ?_⟩
    have s4 := same_upd (o := .lst [.ref r1]) hR
    -- the second
    refine ⟨_, rfl, .inl ⟨rfl, _, sqL_of upd_same⟩, T3.ext s4, fun H5 e5 T5 => ?_⟩
    have e15 : ExtN H1 H5 := (e3.trans (ext_same s4)).trans e5
    refine ⟨_, rfl, _, rfl, .ref c, v, rfl, .inr ⟨⟨c, a, b, d, rows, rfl, c1.g0 e15⟩, no1.ext e15⟩, fun d2 hd2 => ⟨rfl, d2, "carpet", rfl, upd_same, fun r2 hr2 => ?_⟩⟩
    obtain ⟨e6, T6, h6⟩ := ref_heap e5 T5 hd2 hr2
    have h6R := ext_lst e6 (upd_same (a := R) (o := .lst [.ref r1]))
    have h6r := ext_lst e6 (s4 _ _ h3)
    refine ⟨R, _, _, rfl, rfl, h6R, by show 1 < sizeLine; decide, ?_⟩
    have rR : r1 ≠ R := ne_of_none h3 hR
    have r2R : r2 ≠ R := fun z => by
      rw [z, (same_upd hd2) _ _ (ext_lst e5 upd_same)] at hr2
      cases hr2
    have oth : ∀ {b : Addr} {o : HO} {Hx : Hp} {y : HO}, Hx b = some o → b ≠ R → (upd Hx R y) b = some o := fun e n => by rw [upd_ne n]; exact e
    -- the third
    have T7 : Tabs (TT K) (upd (upd (upd H5 d2 (.xd [(("part" : Str), .str "carpet")])) r2 (.lst [.str "part", .str "carpet"])) R (.lst ([.ref r1] ++ [.ref r2]))) := fun z hz => by
      obtain ⟨ps, a1, a2, a3⟩ := T6 z hz
      refine ⟨ps, oth a1 (fun k => by rw [k, h6R] at a1; cases a1), a2, fun pos cv hcv => ?_⟩
      obtain ⟨cc, b1, b2⟩ := a3 pos cv hcv
      exact ⟨cc, b1, oth b2 (fun k => by rw [k, h6R] at b2; cases b2)⟩
    have x7 : ∀ b o, H1 b = some o → (∀ ps, o ≠ .tbl ps) → (upd (upd (upd H5 d2 (.xd [(("part" : Str), .str "carpet")])) r2 (.lst [.str "part", .str "carpet"])) R (.lst ([.ref r1] ++ [.ref r2]))) b = some o := fun b o e n => by
      have hb := e3 b o e n
      have nR : b ≠ R := ne_of_none hb hR
      rw [upd_ne nR]
      exact e6 _ _ (s4 _ _ hb) n
    refine ⟨_, rfl, .inl ⟨rfl, _, sqL_of upd_same⟩, T7, fun H8 e8 T8 => ?_⟩
    have e18 : ExtN H1 H8 := fun b o e n => e8 b o (x7 b o e n) n
    refine ⟨_, rfl, v, .non, rfl, .inl ⟨no1.ext e18, fun d3 hd3 => ⟨rfl, d3, "carpet", rfl, upd_same, fun r3 hr3 => ?_⟩⟩⟩
    obtain ⟨e9, T9, h9⟩ := ref_heap e8 T8 hd3 hr3
    have h9R := ext_lst e9 (upd_same (a := R) (o := .lst ([.ref r1] ++ [.ref r2])))
    have h9r1 := ext_lst e9 (oth h6r rR)
    have h9r2 := ext_lst e9 (oth h6 r2R)
    refine ⟨R, _, _, rfl, rfl, h9R, by show 2 < sizeLine; decide, ?_⟩
    have r3R : r3 ≠ R := fun z => by
      rw [z, (same_upd hd3) _ _ (ext_lst e8 upd_same)] at hr3
      cases hr3
    -- the comparison
    obtain ⟨H10, e10⟩ : ∃ H10, H10 = upd (upd (upd H8 d3 (.xd [(("part" : Str), .str "carpet")])) r3 (.lst [.str "part", .str "carpet"])) R (.lst ([.ref r1] ++ [.ref r2] ++ [.ref r3])) := ⟨_, rfl⟩
    have k1 : H10 r1 = some (.lst [.str "part", .str "carpet"]) := by rw [e10]; exact oth h9r1 rR
    have k2 : H10 r2 = some (.lst [.str "part", .str "carpet"]) := by rw [e10]; exact oth h9r2 r2R
    have k3 : H10 r3 = some (.lst [.str "part", .str "carpet"]) := by rw [e10]; exact oth h9 r3R
    have kR : H10 R = some (.lst [.ref r1, .ref r2, .ref r3]) := by rw [e10]; exact upd_same
    have T10 : Tabs (TT K) H10 := fun z hz => by
      obtain ⟨ps, a1, a2, a3⟩ := T9 z hz
      rw [e10]
      refine ⟨ps, oth a1 (fun k => by rw [k, h9R] at a1; cases a1), a2, fun pos cv hcv => ?_⟩
      obtain ⟨cc, b1, b2⟩ := a3 pos cv hcv
      exact ⟨cc, b1, oth b2 (fun k => by rw [k, h9R] at b2; cases b2)⟩
    have x10 : ExtN H1 H10 := fun b o e n => by
      have hb := e3 b o e n
      have nR : b ≠ R := ne_of_none hb hR
      rw [e10, upd_ne nR]
      exact e9 _ _ (x7 b o e n) n
    rw [← e10]
    refine ⟨_, rfl, two_line, fun q1 hq1 => ?_⟩
    have s11 := same_upd (o := .lst [.str "part", .str "carpet"]) hq1
    refine ⟨by show 1 ≤ sizeLine; decide, fun q2 hq2 => ?_⟩
    have s12 := same_upd (o := .lst [.ref q1]) hq2
    refine ⟨q2, 3, _, rfl, rfl, upd_same, by decide, by decide, by show 3 ≤ sizeLine; decide, fun q3 hq3 => ?_⟩
    have s13 := same_upd (o := .lst (List.replicate (3 : Int).toNat [V.ref q1]).flatten) hq3
    have s1013 := (s11.trans s12).trans s13
    refine ⟨.list [oddD "carpet", oddD "carpet", oddD "carpet"], .list [oddD "carpet", oddD "carpet", oddD "carpet"], .lst (sqL_of (s1013 _ _ kR)) (.cons (odd_dp (s1013 _ _ k1)) (.cons (odd_dp (s1013 _ _ k2)) (.cons (odd_dp (s1013 _ _ k3)) .nil))),
      .lst (xs := [.ref q1, .ref q1, .ref q1]) (sqL_of upd_same) (.cons (odd_dp (s13 _ _ (s12 _ _ upd_same))) (.cons (odd_dp (s13 _ _ (s12 _ _ upd_same))) (.cons (odd_dp (s13 _ _ (s12 _ _ upd_same))) .nil))), by decide +kernel, by decide +kernel, _, rfl, ?_⟩
    rw [show PyData.eqv (.list [oddD "carpet", oddD "carpet", oddD "carpet"]) (.list [oddD "carpet", oddD "carpet", oddD "carpet"]) = true by decide +kernel]
    exact iteF ⟨⟨_, _, rfl⟩, (e1.trans x10).trans (ext_same s1013), T10.ext s1013⟩
  · rintro σ H1 ⟨⟨o7, o9, rfl⟩, e1, T1⟩
    exact q o7 o9 H1 ((ext_same sL).trans e1) T1
end
end K12
namespace K12
open PySem PySem.Spec PyProof.Rows L2 LamX NdefX
section
variable {P : Program} {w : World} {K : PySem.W.Frag} {mg : Str → Option Value} {base : Heap} {f : Addr} {A : Around} {outer : List Env} {s : Shared} {H0 : Hp} {E0' : XK}
theorem odd2 (T : Tx P w K mg base) (hr : Room 6 (XL P w K mg base f A outer s H0 E0').A) : ∃ tr : TS, PS (XL P w K mg base f A outer s H0 E0') (lawBody.getD 8 (.Pass ⟨0, 0, 0, 0⟩)) tr ∧
    ∀ (D : Ends) (x0 x1 x2 x3 x4 x5 x6 x7 x9 : Option V) (c : Addr) (a b d : Int) (rows : List (List Nat)) (H : Hp), CarAt K H c a b d rows → Tabs (TT K) H →
      (∀ o7 o9 H', ExtN H H' → Tabs (TT K) H' → D.nx [x0, x1, x2, x3, x4, x5, x6, o7, some (.ref c), o9] H') → tr D [x0, x1, x2, x3, x4, x5, x6, x7, some (.ref c), x9] H := by
  have nd := sc_law.nd
  obtain ⟨fb, fdb, gb, kb, bb, Fb⟩ := ok_breaking_cell_bad T
  obtain ⟨fq, fdq, Mq, bq, Fq⟩ := ok_car_period_bad T
  refine ⟨_, ps_for PassesOwn.never rfl (pi_list (pe_lst (pa_cons pe_non (pa_cons (pe_tup (pa_cons pe_int pa_nil)) (pa_cons (pe_lst (pa_cons pe_int (pa_cons pe_int pa_nil))) (pa_cons (pe_tup (pa_cons pe_bl (pa_cons pe_int pa_nil))) (pa_cons pe_str pa_nil))))))) (pg_name (i := 9) nd rfl (Or.inr rfl))
    (pss_cons (ps_set (i := 7) nd rfl (Or.inl rfl) (pe_lst (pa_cons (pe_ref T hr (t := fun E => tCall (sp_breaking_bad K) [] E (tCons (tVar 8) (tCons (tVar 9) tNil))) (lamS_by (by decide +kernel)) (by rfl) (fun _ _ _ _ _ => rfl)
        (fun A' outer' s' H' E' f' c' hr' => by exact (pe_call Fb hr' (by rfl) gb kb bb .nil (passes_call (takes_of rfl rfl rfl rfl) (fun _ _ _ _ h => h)) (pa_cons (pv 8) (pa_cons (pv 9) pa_nil))))) pa_nil)))
    (pss_cons (ps_expr (pe_bm PySem.F.plainAttrs_list PySem.F.slot_list_append PySem.F.type_list_append mt_append (pv 7) (pa_cons (pe_ref T hr (t := fun E => tMeth (He.ga K "Carpet") "is_period" (sp_period_bad K) [] E (tVar 8) (tCons (tVar 9) tNil)) (lamS_by (by decide +kernel)) (by rfl) (fun _ _ _ _ _ => rfl)
        (fun A' outer' s' H' E' f' c' hr' => by exact (pe_meth (pv 8) T.c_Carpet Mq Fq hr' bq .nil (passes_call (takes_of rfl rfl rfl rfl) (fun _ _ _ _ h => h)) (pa_cons (pv 9) pa_nil)))) pa_nil)))
    (pss_one (ps_if (pt_cmpR (op_neD hr.units) (pv 7) (pe_op op_rep (pe_lst (pa_cons (pe_lst (pa_cons pe_str (pa_cons pe_str pa_nil))) pa_nil)) pe_int) (nomark _)) (pss_one (ps_ret pe_bl)) pss_nil)))), ?_⟩
  intro D x0 x1 x2 x3 x4 x5 x6 x7 x9 c a b d rows H hc hT q
  refine ⟨by show 1 ≤ sizeLine; decide, fun p1 hp1 => ⟨two_line, fun p2 hp2 => ⟨two_line, fun p3 hp3 => ⟨by show 5 ≤ sizeLine; decide, fun L hL => ⟨L, rfl, ⟨_, sqL_of upd_same⟩, ?_⟩⟩⟩⟩⟩
  have t1 := same_upd (o := .tup [.int 1]) hp1
  have t2 := same_upd (o := .lst [.int 0, .int 0]) hp2
  have t3 := same_upd (o := .tup [.bl true, .int 0]) hp3
  have sL := same_upd (o := .lst [.non, .ref p1, .ref p2, .ref p3, .str "00"]) hL
  have s0 := ((t1.trans t2).trans t3).trans sL
  have k1 := sL _ _ (t3 _ _ (t2 _ _ (upd_same (H := H) (a := p1) (o := .tup [.int 1]))))
  have k2 := sL _ _ (t3 _ _ (upd_same (H := upd H p1 (.tup [.int 1])) (a := p2) (o := .lst [.int 0, .int 0])))
  have k3 := sL _ _ (upd_same (H := upd (upd H p1 (.tup [.int 1])) p2 (.lst [.int 0, .int 0])) (a := p3) (o := .tup [.bl true, .int 0]))
  refine for_list (K := K) (a := L) (xs := [.non, .ref p1, .ref p2, .ref p3, .str "00"]) (fun i σ H' => (∃ o7 o9, σ = [x0, x1, x2, x3, x4, x5, x6, o7, some (.ref c), o9]) ∧ ExtN (upd (upd (upd (upd H p1 (.tup [.int 1])) p2 (.lst [.int 0, .int 0])) p3 (.tup [.bl true, .int 0])) L (.lst [.non, .ref p1, .ref p2, .ref p3, .str "00"])) H' ∧ Tabs (TT K) H') ⟨⟨_, _, rfl⟩, ExtN.refl _, hT.ext s0⟩ (fun i σ H' _ ⟨_, e, _⟩ => sqL_of (ext_lst e upd_same)) ?_ ?_
  · rintro i v σ H1 hv ⟨⟨o7, o9, rfl⟩, e1, T1⟩
    have no1 : ShV H1 v false := by
      have hv := List.mem_of_getElem? hv
      simp only [List.mem_cons, List.not_mem_nil, or_false] at hv
      rcases hv with rfl | rfl | rfl | rfl | rfl
      · exact .non
      · exact ShV.ext (.one k1) e1
      · exact ShV.ext (.lst k2) e1
      · exact ShV.ext (.boo k3) e1
      · exact .str _
    have c1 : CarAt K H1 c a b d rows := (hc.same s0).g0 e1
    -- the first refusal
    refine ⟨T1, fun H2 e2 T2 => ?_⟩
    refine ⟨_, rfl, _, rfl, .ref c, v, rfl, .inr ⟨⟨c, a, b, d, rows, rfl, c1.g0 e2⟩, no1.ext e2, fun d1 hd1 => ⟨rfl, d1, "shift", rfl, upd_same, fun r1 hr1 => ?_⟩⟩⟩
    obtain ⟨e3, T3, h3⟩ := ref_heap e2 T2 hd1 hr1
    refine ⟨by show 1 ≤ sizeLine; decide, fun R hR => ?_⟩
    have s4 := same_upd (o := .lst [.ref r1]) hR
    -- the second
    refine ⟨_, rfl, .inl ⟨rfl, _, sqL_of upd_same⟩, T3.ext s4, fun H5 e5 T5 => ?_⟩
    have e15 : ExtN H1 H5 := (e3.trans (ext_same s4)).trans e5
    obtain ⟨RR, BB, SS, NN, a', b', d', hx⟩ := c1.g0 e15
    obtain ⟨dx, hpx⟩ := hx.ob
    refine ⟨_, rfl, c, dx, _, rfl, hpx, by rfl, _, rfl, .ref c, v, rfl, no1.ext e15, fun d2 hd2 => ⟨rfl, d2, "shift", rfl, upd_same, fun r2 hr2 => ?_⟩⟩
    obtain ⟨e6, T6, h6⟩ := ref_heap e5 T5 hd2 hr2
    have h6R := ext_lst e6 (upd_same (a := R) (o := .lst [.ref r1]))
    have h6r := ext_lst e6 (s4 _ _ h3)
    refine ⟨R, _, _, rfl, rfl, h6R, by show 1 < sizeLine; decide, ?_⟩
    have rR : r1 ≠ R := ne_of_none h3 hR
    have r2R : r2 ≠ R := fun z => by
      rw [z, (same_upd hd2) _ _ (ext_lst e5 upd_same)] at hr2
      cases hr2
    have oth : ∀ {b : Addr} {o : HO} {Hx : Hp} {y : HO}, Hx b = some o → b ≠ R → (upd Hx R y) b = some o := fun e n => by rw [upd_ne n]; exact e
    -- the comparison
    obtain ⟨H10, e10⟩ : ∃ H10, H10 = upd (upd (upd H5 d2 (.xd [(("part" : Str), .str "shift")])) r2 (.lst [.str "part", .str "shift"])) R (.lst ([.ref r1] ++ [.ref r2])) := ⟨_, rfl⟩
    have m1 : H10 r1 = some (.lst [.str "part", .str "shift"]) := by rw [e10]; exact oth h6r rR
    have m2 : H10 r2 = some (.lst [.str "part", .str "shift"]) := by rw [e10]; exact oth h6 r2R
    have mR : H10 R = some (.lst [.ref r1, .ref r2]) := by rw [e10]; exact upd_same
    have T10 : Tabs (TT K) H10 := fun z hz => by
      obtain ⟨ps, a1, a2, a3⟩ := T6 z hz
      rw [e10]
      refine ⟨ps, oth a1 (fun k => by rw [k, h6R] at a1; cases a1), a2, fun pos cv hcv => ?_⟩
      obtain ⟨cc, b1, b2⟩ := a3 pos cv hcv
      exact ⟨cc, b1, oth b2 (fun k => by rw [k, h6R] at b2; cases b2)⟩
    have x10 : ExtN H1 H10 := fun b o e n => by
      have hb := e3 b o e n
      have nR : b ≠ R := ne_of_none hb hR
      rw [e10, upd_ne nR]
      exact e6 _ _ (s4 _ _ hb) n
    rw [← e10]
    refine ⟨_, rfl, two_line, fun q1 hq1 => ?_⟩
    have s11 := same_upd (o := .lst [.str "part", .str "shift"]) hq1
    refine ⟨by show 1 ≤ sizeLine; decide, fun q2 hq2 => ?_⟩
    have s12 := same_upd (o := .lst [.ref q1]) hq2
    refine ⟨q2, 2, _, rfl, rfl, upd_same, by decide, by decide, by show 2 ≤ sizeLine; decide, fun q3 hq3 => ?_⟩
    have s13 := same_upd (o := .lst (List.replicate (2 : Int).toNat [V.ref q1]).flatten) hq3
    have s1013 := (s11.trans s12).trans s13
    refine ⟨.list [oddD "shift", oddD "shift"], .list [oddD "shift", oddD "shift"], .lst (sqL_of (s1013 _ _ mR)) (.cons (odd_dp (s1013 _ _ m1)) (.cons (odd_dp (s1013 _ _ m2)) .nil)),
      .lst (xs := [.ref q1, .ref q1]) (sqL_of upd_same) (.cons (odd_dp (s13 _ _ (s12 _ _ upd_same))) (.cons (odd_dp (s13 _ _ (s12 _ _ upd_same))) .nil)), by decide +kernel, by decide +kernel, _, rfl, ?_⟩
    rw [show PyData.eqv (.list [oddD "shift", oddD "shift"]) (.list [oddD "shift", oddD "shift"]) = true by decide +kernel]
    exact iteF ⟨⟨_, _, rfl⟩, (e1.trans x10).trans (ext_same s1013), T10.ext s1013⟩
  · rintro σ H1 ⟨⟨o7, o9, rfl⟩, e1, T1⟩
    exact q o7 o9 H1 ((ext_same s0).trans e1) T1
end
end K12
namespace K12
open PySem PySem.Spec PyProof.Rows L2 LamX NdefX
/-! ### two small lattices meet low -/
theorem bez_small {a c : Int} (a1 : 1 ≤ a) (a4 : a ≤ 4) (c1 : 1 ≤ c) (c3 : c ≤ 3) : ∃ u v : Int, (Int.gcd a c : Int) = a * u + c * v ∧ (Int.gcd a c : Int) ≤ 3 ∧ 0 < (Int.gcd a c : Int) := by
  have ha : a = 1 ∨ a = 2 ∨ a = 3 ∨ a = 4 := by omega
  have hc : c = 1 ∨ c = 2 ∨ c = 3 := by omega
  rcases ha with rfl | rfl | rfl | rfl <;> rcases hc with rfl | rfl | rfl
  all_goals first
    | exact ⟨1, 0, by decide, by decide, by decide⟩
    | exact ⟨0, 1, by decide, by decide, by decide⟩
    | exact ⟨1, -1, by decide, by decide, by decide⟩
    | exact ⟨-1, 1, by decide, by decide, by decide⟩
theorem other_in {a b d a3 b3 d3 : Int} (h : Bas a b d) (h3 : Bas a3 b3 d3) (a4 : a ≤ 4) (d4 : d ≤ 4) (a33 : a3 ≤ 3) (d33 : d3 ≤ 3) : ∃ B D : Int, 0 < D ∧ D ≤ 40 ∧ inL a b d B D ∧ inL a3 b3 d3 B D := by
  obtain ⟨u, v, hg, g3, g0⟩ := bez_small h.1 a4 h3.1 a33
  obtain ⟨g, eg⟩ : ∃ g : Int, g = (Int.gcd a a3 : Int) := ⟨_, rfl⟩
  rw [← eg] at hg g3 g0
  obtain ⟨e, he⟩ : ∃ e, e = d3 * b - d * b3 := ⟨_, rfl⟩
  have d1 := h.2.2.2
  have d31 := h3.2.2.2
  have dd : d * d3 ≤ 4 * 3 := Int.mul_le_mul d4 d33 (by omega) (by omega)
  have dd0 : 0 < d * d3 := Int.mul_pos (by omega) (by omega)
  have D0 : 0 < d * d3 * g := Int.mul_pos dd0 g0
  have D36 : d * d3 * g ≤ 12 * 3 := Int.mul_le_mul (by omega) g3 (by omega) (by omega)
  refine ⟨-(u * e) * a + d3 * g * b, d * d3 * g, D0, by omega, ⟨d3 * g, -(u * e), ?_, rfl⟩, ⟨d * g, v * e, ?_, ?_⟩⟩
  · rw [Int.mul_comm (d3 * g) d, Int.mul_assoc]
  · rw [Int.mul_assoc, Int.mul_assoc, Int.mul_comm g d3]
  · have k1 : g * e = a * u * e + a3 * v * e := by rw [hg, Int.add_mul]
    have k2 : g * e = d3 * g * b - d * g * b3 := by
      rw [he, Int.mul_sub, ← Int.mul_assoc, ← Int.mul_assoc, Int.mul_comm g d3, Int.mul_comm g d]
    have k3 : -(u * e) * a = -(a * u * e) := by
      rw [Int.neg_mul, Int.mul_comm (u * e) a, Int.mul_assoc]
    have k4 : v * e * a3 = a3 * v * e := by rw [Int.mul_comm (v * e) a3, Int.mul_assoc]
    rw [k3, k4]
    omega
theorem SqL.ext {K : PySem.W.Frag} {H H' : Hp} {a : Addr} {xs : List V} (h : SqL K H a xs) (e : ExtN H H') : SqL K H' a xs := by
  rcases h with (h | ⟨o, h⟩) | h
  · exact .inl (.inl (e _ _ h fun ps z => by cases z))
  · exact .inl (.inr ⟨o, e _ _ h fun ps z => by cases z⟩)
  · exact .inr h
/-- another that the law holds against what is told -/
def Oth (H : Hp) (t : Addr) (a b d : Int) : Prop := ∃ a2 b2 d2 rows2, ToldAt H t a2 b2 d2 rows2 ∧ Tol a2 b2 d2 rows2 ∧ ∃ B D : Int, 0 < D ∧ D ≤ 40 ∧ inL a b d B D ∧ inL a2 b2 d2 B D
theorem Oth.gx {T : List (Addr × Str)} {p : Addr} {H H' : Hp} {t : Addr} {a b d : Int} (h : Oth H t a b d) (hp : Pool H p) (g : Gx T p H H') : Oth H' t a b d := by
  obtain ⟨a2, b2, d2, rows2, h1, h2, h3⟩ := h
  exact ⟨a2, b2, d2, rows2, h1.gx hp g, h2, h3⟩
theorem three_mem {v : V} (h : v ∈ [V.int 2, V.int 3, V.int 4]) : ∃ i : Int, v = .int i ∧ 1 ≤ i ∧ i ≤ 4 := by
  simp only [List.mem_cons, List.not_mem_nil, or_false] at h
  rcases h with rfl | rfl | rfl
  all_goals exact ⟨_, rfl, by decide, by decide⟩
theorem inL_self {a b d : Int} : inL a b d b d := ⟨1, 0, by omega, by omega⟩
section
variable {P : Program} {w : World} {K : PySem.W.Frag} {mg : Str → Option Value} {base : Heap}
def sp_law (K : PySem.W.Frag) : Sp := fun vs H Q _ => ∃ (a : Addr) (ns : List Int), vs = [.ref a] ∧ SqL K H a (ns.map V.int) ∧ Tabs (TT K) H ∧ ∀ H', Q (.bl true) H'
theorem mkGC {x qual : Str} {st : Stmt} {N ps : List Str} {k : Nat} {sp : Sp} {fd : FuncData} (F : FunD K x qual (defArgs st) (defBody st) (defScope st) [] [] (He.fAd K (x, none)) fd)
    (S : FnScope N ps (defScope st)) (len : ∀ vs H Q E, sp vs H Q E → vs.length = ps.length)
    (hbody : ∀ (f : Addr) (A : Around) (outer : List Env) (s : Shared) (H : Hp) (vs : List V) (Q : VK) (E : XK), Room k (A.deeper (envOfC qual (defScope st) s.heap.objs.size f (.ref (He.codeOf K (x, none))))) → sp vs H Q E →
      ∃ t, PSs (cxOf CX0 P w K mg base N qual (defScope st) f (.ref (He.codeOf K (x, none))) A outer s H E).nox (defBody st) t ∧ t { nx := fun _ H' => Q .non H', rt := Q } (start N vs) H) : FnOk P w K mg base CX0 (k + 1) (He.fAd K (x, none)) fd ps sp := by
  obtain ⟨oc, od, dV, kV, doc, pm, an, cdv, ct, osl, rfl, lk, hcd, _, _⟩ := F.ex
  obtain ⟨cc, rfl⟩ := He.codeIn_ref hcd
  have ec : He.codeOf K (x, none) = cc := He.codeOf_eq lk rfl
  refine fn_of lk hcd S len fun A outer s H vs Q E hr hsp => ?_
  rw [← ec] at hr ⊢
  obtain ⟨t, a, b⟩ := hbody _ A outer s H vs Q E hr hsp
  exact ⟨t, a.nox, b⟩
theorem ok_law (T : Tx P w K mg base) {fd : FuncData} (F : FunD K "law" "law" (defArgs s_law) (defBody s_law) (defScope s_law) [] [] (He.fAd K ("law", none)) fd) : FnOk P w K mg base CX0 15 (He.fAd K ("law", none)) fd ["_law_script"] (sp_law K) := by
  refine mkGC (st := s_law) F sc_law (fun vs H Q E h => ?_) (fun f A outer s H vs Q E hr h => ?_)
  · obtain ⟨a, ns, rfl, _⟩ := h
    rfl
  · obtain ⟨a, ns, rfl, hS, hT, q⟩ := h
    have nd := sc_law.nd
    have hr6 : Room 6 _ := hr.mono (by decide)
    have hr4 : Room 4 _ := hr.mono (by decide)
    have hr3 : Room 3 _ := hr.mono (by decide)
    have hr2 : Room 2 _ := hr.mono (by decide)
    obtain ⟨t1, ht1, r1⟩ := odd1 (f := f) (outer := outer) (s := s) (H0 := H) (E0' := E) T hr6
    obtain ⟨t2, ht2, r2⟩ := odd2 (f := f) (outer := outer) (s := s) (H0 := H) (E0' := E) T hr6
    refine ⟨_, pss_cons (ps_for PassesOwn.never rfl (pi_range1 rfl T.f_range (pa_cons (pe_callB (call_max2 rfl) (by rfl) T.f_max (by decide +kernel) (pa_cons pe_int (pa_cons (pe_callB (call_min2 rfl) (by rfl) T.f_min (by decide +kernel) (pa_cons pe_int (pa_cons (xLen T.f_len (pv 0)) pa_nil))) pa_nil))) pa_nil)) (pg_name (i := 1) nd rfl (Or.inl rfl))
        (pss_cons (ps_set (i := 2) nd rfl (Or.inl rfl) (pe_g (ok_opened T) (hr.mono (by decide)) (pa_cons (pv 0) (pa_cons (pv 1) pa_nil))))
        (pss_cons (ps_set (i := 3) nd rfl (Or.inl rfl) (pe_g (ok_three T) hr2 (pa_cons (pv 2) (pa_cons (pe_g (ok_pick T) hr2 (pa_cons (pv 2) (pa_cons (pe_lst (pa_cons pe_int (pa_cons pe_int (pa_cons pe_int pa_nil)))) pa_nil))) pa_nil))))
        (pss_cons (ps_set (i := 4) nd rfl (Or.inl rfl) (pe_lst (pa_cons (pv 3) (pa_cons (pe_g (ok_rows T) hr3 (pa_cons (pv 2) (pa_cons (pv 3) pa_nil))) pa_nil))))
        (pss_cons (ps_set (i := 5) nd rfl (Or.inl rfl) (pe_lst (pa_cons (pv 4) (pa_cons (pe_g (ok_coarser T) hr4 (pa_cons (pv 2) (pa_cons (pv 4) pa_nil))) (pa_cons (pe_g (ok_bent T) hr3 (pa_cons (pv 2) (pa_cons (pv 4) pa_nil))) (pa_cons (pe_g (ok_bent T) hr3 (pa_cons (pv 2) (pa_cons (pe_g (ok_coarser T) hr4 (pa_cons (pv 2) (pa_cons (pv 4) pa_nil))) pa_nil))) pa_nil))))))
        (pss_cons (ps_set (i := 3) nd rfl (Or.inl rfl) (pe_g (ok_three T) hr2 (pa_cons (pv 2) (pa_cons pe_int pa_nil))))
        (pss_cons (ps_for PassesOwn.never rfl (pi_list (pe_op op_cat (pv 5) (pe_lst (pa_cons (pe_lst (pa_cons (pv 3) (pa_cons (pe_g (ok_rows T) hr3 (pa_cons (pv 2) (pa_cons (pv 3) pa_nil))) pa_nil))) pa_nil)))) (pg_name (i := 6) nd rfl (Or.inl rfl))
          (pss_one (ps_if (PW.pt (pw_or (pt_not (pt_val (pe_g (ok_pair_right T) (hr.mono (by decide)) (pa_cons (pv 4) (pa_cons (pv 6) pa_nil))))) (pw_or1 (pt_not (pt_val (pe_g (ok_breaking_right T) hr (pa_cons (pv 2) (pa_cons (pv 6) pa_nil)))))))) (pss_one (ps_ret pe_bl)) pss_nil)))
        (pss_cons (ps_set (i := 8) nd rfl (Or.inr rfl) (pe_g (ok_made T) (hr.mono (by decide)) (pa_cons (pv 4) pa_nil)))
        (pss_cons ht1 (pss_one ht2))))))))))
      (pss_one (ps_ret pe_bl)), ?_⟩
    obtain ⟨m, hm0, hm⟩ : ∃ m : Int, m ≤ 2 ∧ m = (if (if ((ns.map V.int).length : Int) < 2 then ((ns.map V.int).length : Int) else 2) > 1 then (if ((ns.map V.int).length : Int) < 2 then ((ns.map V.int).length : Int) else 2) else 1) := by
      refine ⟨_, ?_, rfl⟩
      split <;> (try split) <;> omega
    refine ⟨_, rfl, _, (ns.map V.int).length, rfl, .inl ⟨_, hS, rfl⟩, _, _, rfl, _, _, rfl, m, by rw [hm], ?_, by omega, ?_⟩
    · rw [hm]
      split <;> (try split) <;> omega
    refine for_range (lo := 0) (n := m.toNat) (fun i σ H' => (∃ o1 o2 o3 o4 o5 o6 o7 o8 o9, σ = [some (.ref a), o1, o2, o3, o4, o5, o6, o7, o8, o9]) ∧ SqL K H' a (ns.map V.int) ∧ Tabs (TT K) H') ⟨⟨_, _, _, _, _, _, _, _, _, rfl⟩, hS, hT⟩ ?_ ?_
    · rintro i σ H1 hi ⟨⟨o1, o2, o3, o4, o5, o6, o7, o8, o9, rfl⟩, hS1, T1⟩
      rw [Int.zero_add]
      -- the pool
      refine ⟨_, rfl, _, rfl, a, ns, i, rfl, hS1, by omega, fun H2 p s2 np hp2 => ?_⟩
      have T2 := T1.ext s2
      -- three
      refine ⟨_, rfl, _, rfl, by show 3 ≤ sizeLine; decide, fun l3 hl3 => ?_⟩
      have s3 := same_upd (o := .lst [.int 2, .int 3, .int 4]) hl3
      have hp3 := hp2.same s3
      refine ⟨p, l3, _, rfl, hp3, upd_same, hp3.ne upd_same (fun i j z => by cases z), by show 1 ≤ 3; decide, by show 3 < 1000; decide, fun H4 v4 s4 hv4 => ?_⟩
      obtain ⟨mm, rfl, mm1, mm4⟩ := three_mem hv4
      refine ⟨p, mm, rfl, s4.pool, mm1, by omega, fun H5 u ta tb td s5 nu hu bas la ld => ?_⟩
      have g5 : SaP p H2 H5 := SaP.pre s3 (s4.trans s5)
      -- told
      have sz : ta * td ≤ 4 * 4 := Int.mul_le_mul (by omega) (by omega) (by have := bas.2.2.2; omega) (by omega)
      refine ⟨_, rfl, _, rfl, _, rfl, p, u, ta, tb, td, rfl, g5.pool, hu, ⟨bas, by omega⟩, fun H6 rl rows s6 nrl hrl tol => ?_⟩
      have hu6 := s6.ext _ _ hu (g5.pool.ne hu fun i j z => by cases z)
      refine ⟨two_line, fun t ht => ?_⟩
      have s7 := same_upd (o := .lst [.ref u, .ref rl]) ht
      have hTo : ToldAt (upd H6 t (.lst [.ref u, .ref rl])) t ta tb td rows := ⟨u, rl, upd_same, s7 _ _ hu6, s7 _ _ hrl⟩
      have g7 : SaP p H2 (upd H6 t (.lst [.ref u, .ref rl])) := (g5.trans s6).same s7
      -- others
      refine ⟨_, rfl, _, rfl, _, rfl, p, t, ta, tb, td, rows, rfl, g7.pool, hTo, tol, fun H8 c8 a8 b8 d8 rows8 s8 hT8 tol8 in8 d38 => ?_⟩
      have hTo8 := hTo.sap g7.pool s8
      refine ⟨_, rfl, _, rfl, p, t, ta, tb, td, rows, rfl, s8.pool, hTo8, tol, fun H9 c9 rows9 s9 hT9 tol9 => ?_⟩
      have hTo9 := hTo8.sap s8.pool s9
      have hT89 := hT8.sap s8.pool s9
      refine ⟨_, rfl, _, rfl, _, rfl, p, t, ta, tb, td, rows, rfl, s9.pool, hTo9, tol, fun H10 c10 a10 b10 d10 rows10 s10 hT10 tol10 in10 d310 => ?_⟩
      have hTo10 := hTo9.sap s9.pool s10
      refine ⟨p, c10, a10, b10, d10, rows10, rfl, s10.pool, hT10, tol10, fun H11 c11 rows11 s11 hT11 tol11 => ?_⟩
      have hTo11 := hTo10.sap s10.pool s11
      refine ⟨four_line, fun oo hoo => ?_⟩
      have s12 := same_upd (o := .lst [.ref t, .ref c8, .ref c9, .ref c11]) hoo
      have g12 : SaP p H2 (upd H11 oo (.lst [.ref t, .ref c8, .ref c9, .ref c11])) := ((((g7.trans s8).trans s9).trans s10).trans s11).same s12
      -- another
      refine ⟨_, rfl, p, 3, rfl, g12.pool, by decide, by decide, fun H13 u13 a13 b13 d13 s13 nu13 hu13 bas13 la13 ld13 => ?_⟩
      have hoo13 := s13.ext _ _ (upd_same (H := H11) (a := oo) (o := .lst [.ref t, .ref c8, .ref c9, .ref c11])) (g12.pool.ne upd_same fun i j z => by cases z)
      have sz13 : a13 * d13 ≤ 3 * 3 := Int.mul_le_mul la13 ld13 (by have := bas13.2.2.2; omega) (by omega)
      have g13 := g12.trans s13
      refine ⟨_, rfl, _, rfl, _, rfl, _, rfl, p, u13, a13, b13, d13, rfl, g13.pool, hu13, ⟨bas13, by omega⟩, fun H14 rl14 rows14 s14 nrl14 hrl14 tol14 => ?_⟩
      have hu14 := s14.ext _ _ hu13 (g13.pool.ne hu13 fun i j z => by cases z)
      have hoo14 := s14.ext _ _ hoo13 (g13.pool.ne hoo13 fun i j z => by cases z)
      refine ⟨two_line, fun t14 ht14 => ?_⟩
      have s15 := same_upd (o := .lst [.ref u13, .ref rl14]) ht14
      refine ⟨by show 1 ≤ sizeLine; decide, fun l15 hl15 => ?_⟩
      have s16 := same_upd (o := .lst [.ref t14]) hl15
      refine ⟨oo, l15, _, _, rfl, rfl, s16 _ _ (s15 _ _ hoo14), upd_same, by show 5 ≤ sizeLine; decide, fun L hL => ?_⟩
      have s17 := same_upd (o := .lst ([.ref t, .ref c8, .ref c9, .ref c11] ++ [.ref t14])) hL
      have s1517 := (s15.trans s16).trans s17
      obtain ⟨H18, e18⟩ : ∃ H18, H18 = upd (upd (upd H14 t14 (.lst [.ref u13, .ref rl14])) l15 (.lst [.ref t14])) L (.lst ([.ref t, .ref c8, .ref c9, .ref c11] ++ [.ref t14])) := ⟨_, rfl⟩
      have g18 : SaP p H2 H18 := by rw [e18]; exact (g13.trans s14).same s1517
      have s1218 : SaP p (upd H11 oo (.lst [.ref t, .ref c8, .ref c9, .ref c11])) H18 := by rw [e18]; exact (s13.trans s14).same s1517
      have hL18 : H18 L = some (.lst [.ref t, .ref c8, .ref c9, .ref c11, .ref t14]) := by rw [e18, upd_same]; rfl
      have hp18 := g18.pool
      have T18 : Tabs (TT K) H18 := (Gx.sap g18 hp2 T2).tab
      have hTo18 : ToldAt H18 t ta tb td rows := (hTo11.same s12).sap g12.pool s1218
      have X8 : ToldAt H18 c8 a8 b8 d8 rows8 := (((((hT89.sap s9.pool s10).sap s10.pool s11).same s12)).sap g12.pool s1218)
      have X9 : ToldAt H18 c9 ta tb td rows9 := ((((hT9.sap s9.pool s10).sap s10.pool s11).same s12).sap g12.pool s1218)
      have X11 : ToldAt H18 c11 a10 b10 d10 rows11 := ((hT11.same s12).sap g12.pool s1218)
      have X14 : ToldAt H18 t14 a13 b13 d13 rows14 := by
        rw [e18]
        exact ⟨u13, rl14, s17 _ _ (s16 _ _ upd_same), s1517 _ _ hu14, s1517 _ _ hrl14⟩
      have td0 := bas.2.2.2
      have d80 := tol8.bas.2.2.2
      have d100 := tol10.bas.2.2.2
      have oth : ∀ x ∈ [V.ref t, V.ref c8, V.ref c9, V.ref c11, V.ref t14], ∃ z, x = .ref z ∧ Oth H18 z ta tb td := by
        intro x hx
        simp only [List.mem_cons, List.not_mem_nil, or_false] at hx
        rcases hx with rfl | rfl | rfl | rfl | rfl
        · exact ⟨t, rfl, ta, tb, td, rows, hTo18, tol, tb, td, by omega, by omega, inL_self, inL_self⟩
        · exact ⟨c8, rfl, a8, b8, d8, rows8, X8, tol8, b8, d8, by omega, by omega, in8, inL_self⟩
        · exact ⟨c9, rfl, ta, tb, td, rows9, X9, tol9, tb, td, by omega, by omega, inL_self, inL_self⟩
        · exact ⟨c11, rfl, a10, b10, d10, rows11, X11, tol11, b10, d10, by omega, by omega, in10, inL_self⟩
        · exact ⟨t14, rfl, a13, b13, d13, rows14, X14, tol14, other_in bas bas13 (by omega) (by omega) la13 ld13⟩
      rw [← e18]
      refine ⟨L, rfl, ⟨_, sqL_of hL18⟩, for_list (K := K) (a := L) (xs := [.ref t, .ref c8, .ref c9, .ref c11, .ref t14]) (fun j σ H' => (∃ o6, σ = [some (.ref a), some (.int (i : Nat)), some (.ref p), some (.ref u13), some (.ref t), some (.ref oo), o6, o7, o8, o9]) ∧ Gx (TT K) p H18 H') ⟨⟨_, rfl⟩, Gx.of (Same.refl _) T18 hp18⟩ (fun j σ H' _ ⟨_, g⟩ => sqL_of (g.ext _ _ hL18 (hp18.ne hL18 fun i j z => by cases z) fun ps z => by cases z)) ?_ ?_⟩
      · rintro j x σ H19 hx ⟨⟨o6, rfl⟩, g19⟩
        obtain ⟨z, rfl, hz⟩ := oth x (List.mem_of_getElem? hx)
        obtain ⟨a2, b2, d2, rows2, hz1, hz2, hz3⟩ := hz.gx hp18 g19
        have hTo19 := hTo18.gx hp18 g19
        refine ⟨_, rfl, _, rfl, t, z, ta, tb, td, a2, b2, d2, rows, rows2, rfl, hTo19, hz1, tol, hz2, hz3, fun H20 s20 => ⟨true, rfl, iteF ?_⟩⟩
        have g20 := g19.same s20
        refine ⟨_, rfl, _, rfl, p, z, a2, b2, d2, rows2, rfl, g20.pool, hz1.same s20, hz2, g20.tab, fun H21 g21 => ⟨true, rfl, iteF ⟨⟨_, rfl⟩, g20.trans g21⟩⟩⟩
      · rintro σ H19 ⟨⟨o6, rfl⟩, g19⟩
        have hTo19 := hTo18.gx hp18 g19
        refine ⟨_, rfl, t, ta, tb, td, rows, rfl, hTo19, tol, fun H20 c s20 _ hc => ?_⟩
        have g20 := g19.same s20
        obtain ⟨ut, lt, htt, _, _⟩ := hTo19.same s20
        refine r1 _ _ _ _ _ _ _ _ _ t c _ ta tb td rows H20 htt hc g20.tab fun o7' o9' H21 e21 T21 => ?_
        refine r2 _ _ _ _ _ _ _ _ _ _ c ta tb td rows H21 (hc.g0 e21) T21 fun o7'' o9'' H22 e22 T22 => ?_
        refine ⟨⟨_, _, _, _, _, _, _, _, _, rfl⟩, SqL.ext hS1 fun b o e n => ?_, T22⟩
        have nb : b ≠ p := fun z => by rw [z, np] at e; cases e
        exact e22 _ _ (e21 _ _ (g20.ext _ _ (g18.ext _ _ (s2 _ _ e) nb) nb n) n) n
    · rintro σ H1 ⟨⟨o1, o2, o3, o4, o5, o6, o7, o8, o9, rfl⟩, hS1, T1⟩
      exact q H1
end
end K12
namespace K12
open PySem PySem.Spec PyProof.Rows L2
abbrev R : PySem.W.OpenRow := PySem.W.OpenLaw.row PySem.Challenge.rw_endlessplane_k12_whole_parting_and_break
abbrev hk : PySem.W.Hook := hookZ fa fn tf
def ob (s : PySem.W.SharedT) : AlZ := obsZ fa fn tf (HandSHeadRun.getT s)
theorem ob_eq (s : PySem.W.SharedT) : ob s = hk.obs s.abs := obsZ_eq (HandSHeadRun.getT_eq s)
def names : List Str := names1 ++ names2
theorem run (w : World) : HandSHeadRun.RunEq R (PySem.W.view R.prog [67]) hk ob 8000 names w := by
  intro os
  kernel_rfl
end K12
namespace K12
open PySem PySem.Spec PyProof.Rows L2 LamX
theorem law_walk (P : Program) (hP : (P.main.file : Str) = "/claim/cut.py") (hs : (P.main.scope.names.lookup ("super" : Str)).isSome = false) {w : World} {mg : Str → Option Value} {fl : Addr} {h : Heap} {K : PySem.W.Frag} (KX : K.In h) (G : h.Ns mainGlobals mg) (c : He.SaysX fa fn [] tf exB w h K)
    (z : fnZ K (He.ma K (He.ga K "BadPart") "__init__") = valZ) (hmg : mg ("law" : Str) = some (.ref fl)) :
    ∃ (fd : FuncData) (cs : List (Addr × Addr)) (sp : Sp), (∀ p ∈ cs, h.get? p.2 = some { cls := .none, data := .fields #[] }) ∧ (∀ p ∈ cs, K.lookup p.2 = none) ∧ (∀ p ∈ cs, PySem.W.CodeHd h p.1 p.2) ∧ (∀ (s : Shared) (u : Value), BindsTo s fd ⟨[u], []⟩ [("_law_script", u)]) ∧
      (∀ (H : Hp) (a : Addr) (ns : List Int), ns.length ≤ 63 → (∀ z ∈ ns, Builtin.Int.intBits z ≤ 1048576) → (∀ p ∈ cs, H p.2 = some (.tbl #[])) → SqL K H a (ns.map V.int) → sp [.ref a] H (fun v _ => v = .bl true) fun _ _ _ => False) ∧
      ∀ base : Heap, K.In base → base.Ns mainGlobals mg → (∀ p ∈ cs, TabB base mg p.1 p.2) → FnOk P w K mg base CX0 15 fl fd ["_law_script"] sp := by
  have x := ex_ok c.more
  have facts : ∀ {f : He.Fa}, f ∈ fa → f.ok K = true := fun hf => c.t.d.facts hf
  obtain ⟨fd, F⟩ : ∃ fd, FunD K "law" "law" (defArgs s_law) (defBody s_law) (defScope s_law) [] [] (He.fAd K ("law", none)) fd := c.t.d.defs (d := d_law) (by simp [fn])
  have el : fl = He.ga K "law" := by
    have e := hmg.symm.trans (He.glo_ok KX G (c.t.d.facts (f := .glo "law") (by simp [fa])))
    cases e
    rfl
  subst el
  have b := FunD.bindsA (ps := ["_law_script"]) F fun _ _ _ _ _ _ us hl => match us, hl with | [_], _ => rfl
  refine ⟨fd, tf.map (He.cT K), sp_law K, fun p hp => ?_, fun p hp => ?_, fun p hp => ?_, fun s u => b s [u] rfl, fun H a ns _ _ hH hS => ⟨a, ns, rfl, hS, fun p hp => ?_, fun _ => rfl⟩, fun base kb gb tb => ?_⟩
  · obtain ⟨d, hd, rfl⟩ := List.mem_map.mp hp
    exact c.empty d hd
  · obtain ⟨d, hd, rfl⟩ := List.mem_map.mp hp
    exact c.out d hd
  · obtain ⟨d, hd, rfl⟩ := List.mem_map.mp hp
    exact PySem.W.codeHd_of_K KX (c.hd d hd)
  · simp only [TT, List.mem_cons, List.not_mem_nil, or_false] at hp
    rcases hp with rfl | rfl
    · exact TabS.nil (hH (He.cT K ("law", none)) (List.mem_map_of_mem (by simp [tf])))
    · exact TabS.nil (hH (He.cT K ("Carpet", some "moved_by")) (List.mem_map_of_mem (by simp [tf])))
  · have T : Tx P w K mg base := ⟨c.t.d, ⟨h, KX, G⟩, x, fun p hp => tb _ (List.mem_map_of_mem hp), x.bp z (He.glo_ok KX G (c.t.d.facts (f := .glo "BadPart") (by simp [fa]))) (He.free_ok KX G (c.t.d.facts (f := .free "super") (by simp [fa]))) hP hs⟩
    exact ok_law T F
end K12
open PySem PySem.W PySem.Calls PyProof.Rows
theorem PySem.Challenge.cw_endlessplane_k12_whole_parting_and_break_holds : PySem.Challenge.rw_endlessplane_k12_whole_parting_and_break.Holds := by
  w_on; o_law
  refine HandSHeadRun.head_any (r := OpenLaw.row PySem.Challenge.rw_endlessplane_k12_whole_parting_and_break) (q := view (OpenLaw.row PySem.Challenge.rw_endlessplane_k12_whole_parting_and_break).prog [67]) (H := K12.hk) (ob := K12.ob) (M := 8000) (loose := K12.names) (d := HandSHeadRun.topDef (OpenLaw.row PySem.Challenge.rw_endlessplane_k12_whole_parting_and_break).prog 67) (kwd := []) K12.ob_eq
    (by kernel_rfl) (fun s => by kernel_rfl) K12.run (by kernel_rfl) (by kernel_rfl) (by kernel_rfl) (by rfl) (by first | assumption | decide +kernel) (by decide +kernel) ⟨rfl, rfl, rfl, rfl, rfl, by decide +kernel⟩ ?hw ?hc
  case hw => w_witness2
  case hc =>
    refine LamX.walk_ofTsE (l := PySem.Challenge.rw_endlessplane_k12_whole_parting_and_break) (n := 63) (k := 15) (x := "_law_script") (CX := fun _ => L2.CX0) rfl (by decide) (by kernel_rfl) ⟨rfl, by decide, by decide⟩ ?F (fun _ _ _ _ _ z => z)
    intro w mg fl h Y G hmg0
    obtain ⟨K, KX, c, z⟩ := Y
    have hmg : mg ("law" : PySem.Str) = some (.ref fl) := by
      have e : (HandSHeadRun.topDef (OpenLaw.row PySem.Challenge.rw_endlessplane_k12_whole_parting_and_break).prog 67).name = ("law" : PySem.Str) := by kernel_rfl
      rw [← e]
      exact hmg0
    exact ⟨K, KX, K12.law_walk (PySem.Challenge.rw_endlessplane_k12_whole_parting_and_break).prog (by kernel_rfl) (by kernel_rfl) KX G c z hmg⟩
