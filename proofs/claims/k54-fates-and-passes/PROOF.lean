import PyProof.Rows.All
import Wide.All
import OpenK.AllK
import Wide.FinOn
import KE.KStateDown
import KE.KOpsOwn
import Lean
import HandS.ForMost
import HandS.More
import HandS.Exc
import HandS.Star
import HandS.Property
import HandS.Defaults
import HandS.IsInst
import HandS.Codes
import HandS.Head0
import HandS.Head1
import HandS.Head2
import HandS.HeadEnd
import HandS.HeadHook1
import HandS.HeadHook2
import HandS.HeadHook3
import KE.GoesEnum
import KE.GoesMore
import HandS.Zip
import HandS.Deep
import HandS.Style
import HandS.TupMul
import HandS.TupAny
import HandS.TupLe
import HandS.Wide
import HandS.Conv
import HandS.Walk
import HandS.DictTup
import KE.KDictKeyed
import PySem.Challenge.RW_crossadds_k54_whole_fates_and_passes
set_option linter.all false
set_option maxHeartbeats 1000000
/-! plain mathematics: rules, steps, cores as lists of whole numbers -/
namespace K5
/-! ### sizes -/
def ab (i : Int) : Int := if i < 0 then -i else i
theorem ab_cases (i : Int) : (0 ≤ i ∧ ab i = i) ∨ (i < 0 ∧ ab i = -i) := by
  unfold ab
  split
  · exact .inr ⟨by assumption, rfl⟩
  · exact .inl ⟨by omega, rfl⟩
theorem ab_nat (i : Int) : ab i = (i.natAbs : Int) := by
  rcases ab_cases i with h | h <;> omega
theorem ab_nn (i : Int) : 0 ≤ ab i := by rcases ab_cases i with h | h <;> omega
theorem ab_neg (i : Int) : ab (-i) = ab i := by rcases ab_cases i with h | h <;> rcases ab_cases (-i) with k | k <;> omega
theorem ab_add (i j : Int) : ab (i + j) ≤ ab i + ab j := by
  rcases ab_cases i with h | h <;> rcases ab_cases j with k | k <;> rcases ab_cases (i + j) with l | l <;> omega
theorem ab_sub (i j : Int) : ab i - ab j ≤ ab (i + j) := by
  rcases ab_cases i with h | h <;> rcases ab_cases j with k | k <;> rcases ab_cases (i + j) with l | l <;> omega
theorem ab_mul (i j : Int) : ab (i * j) = ab i * ab j := by
  rw [ab_nat, ab_nat, ab_nat, Int.natAbs_mul, Int.natCast_mul]
theorem ab_zero : ab 0 = 0 := rfl
theorem ab_one (i : Int) (h : i = 1 ∨ i = -1) : ab i = 1 := by rcases h with rfl | rfl <;> rfl
theorem ab_pos {i : Int} (h : i ≠ 0) : 1 ≤ ab i := by rcases ab_cases i with k | k <;> omega
/-! ### rules -/
def pval : List Int → Int → Int
  | [], _ => 0
  | c :: r, t => c + t * pval r t
/-- the sum of the sizes of all but the last -/
def lowS : List Int → Int
  | [] => 0
  | [_] => 0
  | c :: d :: r => ab c + lowS (d :: r)
theorem lowS_nn : ∀ r : List Int, 0 ≤ lowS r
  | [] => by simp [lowS]
  | [_] => by simp [lowS]
  | c :: d :: r => by
    have h1 := lowS_nn (d :: r)
    have h2 := ab_nn c
    simp only [lowS]
    omega
def nz (q : List Int) : Prop := ∃ l z, q = l ++ [z] ∧ z ≠ 0
theorem nz_tail {c d : Int} {r : List Int} (h : nz (c :: d :: r)) : nz (d :: r) := by
  obtain ⟨l, z, e, hz⟩ := h
  cases l with
  | nil => simp at e
  | cons a l =>
    rw [List.cons_append] at e
    injection e with _ e2
    exact ⟨l, z, e2, hz⟩
theorem nz_one {c : Int} (h : nz [c]) : c ≠ 0 := by
  obtain ⟨l, z, e, hz⟩ := h
  cases l with
  | nil => simp at e; omega
  | cons a l =>
    have := congrArg List.length e
    simp at this
theorem pv_one (y : Int) : ∀ {q : List Int}, nz q → lowS q + 1 ≤ ab y → 1 ≤ ab (pval q y)
  | [], h, _ => by
    obtain ⟨l, z, e, _⟩ := h
    simp at e
  | [c], h, _ => by
    have e : pval [c] y = c := by simp [pval]
    rw [e]
    exact ab_pos (nz_one h)
  | c :: d :: r, h, hy => by
    have h1 := ab_nn c
    have h0 := lowS_nn (d :: r)
    have e1 : lowS (c :: d :: r) = ab c + lowS (d :: r) := rfl
    have ih := pv_one y (nz_tail h) (by omega)
    have e : pval (c :: d :: r) y = y * pval (d :: r) y + c := by
      show c + y * pval (d :: r) y = _
      omega
    rw [e]
    have h2 := ab_sub (y * pval (d :: r) y) c
    have h3 : ab y * 1 ≤ ab y * ab (pval (d :: r) y) := Int.mul_le_mul_of_nonneg_left ih (ab_nn y)
    rw [ab_mul] at h2
    omega
/-- a rule of a bend -/
def Bend (r : List Int) : Prop := ∃ q, r = 0 :: 0 :: q ∧ nz q
theorem bend_low {q : List Int} (h : nz q) : lowS (0 :: 0 :: q) = lowS q := by
  obtain ⟨l, z, e, _⟩ := h
  cases q with
  | nil => simp at e
  | cons a q => simp [lowS, ab_zero]
theorem bend_big {r : List Int} (h : Bend r) {y : Int} (hy : lowS r + 1 ≤ ab y) : ab y * ab y ≤ ab (pval r y) := by
  obtain ⟨q, rfl, hq⟩ := h
  rw [bend_low hq] at hy
  have h1 := pv_one y hq hy
  have e : pval (0 :: 0 :: q) y = y * (y * pval q y) := by
    show 0 + y * (0 + y * pval q y) = _
    rw [Int.zero_add, Int.zero_add]
  rw [e, ab_mul, ab_mul]
  have h2 : ab y * 1 ≤ ab y * ab (pval q y) := Int.mul_le_mul_of_nonneg_left h1 (ab_nn y)
  rw [Int.mul_one] at h2
  exact Int.mul_le_mul_of_nonneg_left h2 (ab_nn y)
/-! ### a bend, a quarter, perhaps an end -/
abbrev Pt := Int × Int
structure Lk where
  r : List Int
  d : Int
  e : Int
  f : Int
  s : Int
  t : Int
def Lk.run (l : Lk) (p : Pt) : Pt := (l.e * (-p.2) + l.s, l.f * (p.1 + pval l.r p.2 + l.d * p.2) + l.t)
structure Lk.ok (l : Lk) : Prop where
  r : Bend l.r
  e : l.e = 1 ∨ l.e = -1
  f : l.f = 1 ∨ l.f = -1
def hgt (l : Lk) : Int := lowS l.r + 1 + 2 * (1 + ab l.d + ab l.s + ab l.t + 1)
def InW (R : Int) (p : Pt) : Prop := R ≤ ab p.2 ∧ ab p.1 ≤ ab p.2
/-- a little wider -/
def InV (R : Int) (p : Pt) : Prop := R ≤ ab p.2 ∧ ab p.1 ≤ ab p.2 + 1
theorem InW.v {R : Int} {p : Pt} (h : InW R p) : InV R p := ⟨h.1, by have := h.2; omega⟩
theorem run_x {l : Lk} (h : l.ok) (p : Pt) : ab (l.run p).1 ≤ ab p.2 + ab l.s := by
  show ab (l.e * (-p.2) + l.s) ≤ _
  have h1 := ab_add (l.e * (-p.2)) l.s
  rw [ab_mul, ab_neg, ab_one _ h.e, Int.one_mul] at h1
  exact h1
theorem run_y {l : Lk} (h : l.ok) (p : Pt) : ab (pval l.r p.2) - ab p.1 - ab l.d * ab p.2 - ab l.t ≤ ab (l.run p).2 := by
  show _ ≤ ab (l.f * (p.1 + pval l.r p.2 + l.d * p.2) + l.t)
  have h1 := ab_sub (l.f * (p.1 + pval l.r p.2 + l.d * p.2)) l.t
  rw [ab_mul, ab_one _ h.f, Int.one_mul] at h1
  have h2 := ab_sub (p.1 + pval l.r p.2) (l.d * p.2)
  rw [ab_mul] at h2
  have h3 := ab_sub (pval l.r p.2) p.1
  rw [Int.add_comm (pval l.r p.2) p.1] at h3
  omega
/-- from the wedge into the wedge, with at least twice the height -/
theorem link_in {l : Lk} (h : l.ok) {R : Int} (hR : hgt l ≤ R) {p : Pt} (hp : InV R p) : InW R (l.run p) ∧ 2 * ab p.2 ≤ ab (l.run p).2 ∧ 1 ≤ ab p.2 := by
  obtain ⟨h1, h2⟩ := hp
  have hx := run_x h p
  have hy := run_y h p
  have nd := ab_nn l.d
  have ns := ab_nn l.s
  have nt := ab_nn l.t
  have nS := lowS_nn l.r
  unfold hgt at hR
  have big := bend_big h.r (y := p.2) (by omega)
  have m1 : (5 + 2 * ab l.d + 2 * ab l.s + 2 * ab l.t) * ab p.2 ≤ ab p.2 * ab p.2 := Int.mul_le_mul_of_nonneg_right (by omega) (ab_nn _)
  have m2 : ab l.s * 1 ≤ ab l.s * ab p.2 := Int.mul_le_mul_of_nonneg_left (by omega) ns
  have m3 : ab l.t * 1 ≤ ab l.t * ab p.2 := Int.mul_le_mul_of_nonneg_left (by omega) nt
  have m4 : 0 ≤ ab l.d * ab p.2 := Int.mul_nonneg nd (ab_nn _)
  have e : (5 + 2 * ab l.d + 2 * ab l.s + 2 * ab l.t) * ab p.2 = 5 * ab p.2 + 2 * (ab l.d * ab p.2) + 2 * (ab l.s * ab p.2) + 2 * (ab l.t * ab p.2) := by
    rw [Int.add_mul, Int.add_mul, Int.add_mul, Int.mul_assoc, Int.mul_assoc, Int.mul_assoc]
  rw [e] at m1
  refine ⟨⟨by omega, by omega⟩, by omega, by omega⟩
def runL (ls : List Lk) (p : Pt) : Pt := ls.foldl (fun p l => l.run p) p
theorem runL_cons (l : Lk) (ls : List Lk) (p : Pt) : runL (l :: ls) p = runL ls (l.run p) := rfl
theorem pass_in {R : Int} : ∀ {ls : List Lk} {p : Pt}, (∀ l ∈ ls, l.ok ∧ hgt l ≤ R) → InW R p → InW R (runL ls p) ∧ ab p.2 ≤ ab (runL ls p).2 ∧ (ls ≠ [] → 2 * ab p.2 ≤ ab (runL ls p).2 ∧ 1 ≤ ab p.2)
  | [], p, _, hp => ⟨hp, Int.le_refl _, fun z => absurd rfl z⟩
  | l :: ls, p, h, hp => by
    obtain ⟨h1, h2⟩ := h l List.mem_cons_self
    obtain ⟨a, b, c⟩ := link_in h1 h2 hp.v
    obtain ⟨a', b', _⟩ := pass_in (ls := ls) (fun x hx => h x (List.mem_cons_of_mem _ hx)) a
    rw [runL_cons]
    exact ⟨a', by omega, fun _ => ⟨by omega, c⟩⟩
/-- what is not in the wedge behind a pass was not in it ahead, nor close to it -/
theorem pass_notV {R : Int} {l : Lk} {ls : List Lk} {p : Pt} (h : ∀ x ∈ l :: ls, x.ok ∧ hgt x ≤ R) (hn : ¬ InW R (runL (l :: ls) p)) : ¬ InV R p := fun hv => by
  obtain ⟨h1, h2⟩ := h l List.mem_cons_self
  exact hn (pass_in (ls := ls) (fun x hx => h x (List.mem_cons_of_mem _ hx)) (link_in h1 h2 hv).1).1
/-- outside the wedge nothing grows -/
theorem pass_out {R : Int} : ∀ {ls : List Lk} {p : Pt}, (∀ l ∈ ls, l.ok ∧ hgt l ≤ R ∧ ab l.s ≤ 1) → ¬ InW R (runL ls p) → ∀ B, R - 1 ≤ B → ab p.2 ≤ B → ab p.1 ≤ B + 1 → ab (runL ls p).2 ≤ B ∧ ab (runL ls p).1 ≤ B + 1
  | [], p, _, _, B, _, h2, h3 => ⟨h2, h3⟩
  | l :: ls, p, h, hn, B, h1, h2, h3 => by
    obtain ⟨k1, k2, k3⟩ := h l List.mem_cons_self
    have hx := run_x k1 p
    have nW : ¬ InW R (l.run p) := fun hw => hn (pass_in (ls := ls) (fun x hx => ⟨(h x (List.mem_cons_of_mem _ hx)).1, (h x (List.mem_cons_of_mem _ hx)).2.1⟩) hw).1
    have hy : ab (l.run p).2 ≤ B := by
      by_cases z : R ≤ ab (l.run p).2
      · have z2 : ¬ ab (l.run p).1 ≤ ab (l.run p).2 := fun q => nW ⟨z, q⟩
        omega
      · omega
    have hx3 : ab (l.run p).1 ≤ B + 1 := by omega
    exact pass_out (ls := ls) (fun x hx => h x (List.mem_cons_of_mem _ hx)) hn B h1 hy hx3
/-- .. for the first number the first coordinate does not count, if there is a link -/
theorem pass_out1 {R : Int} {ls : List Lk} {p : Pt} (hne : ls ≠ []) (h : ∀ l ∈ ls, l.ok ∧ hgt l ≤ R ∧ ab l.s ≤ 1) (hn : ¬ InW R (runL ls p)) {B : Int} (h1 : R - 1 ≤ B) (h2 : ab p.2 ≤ B) : ab (runL ls p).2 ≤ B ∧ ab (runL ls p).1 ≤ B + 1 := by
  cases ls with
  | nil => exact absurd rfl hne
  | cons l ls =>
    obtain ⟨k1, k2, k3⟩ := h l List.mem_cons_self
    have hx := run_x k1 p
    have nW : ¬ InW R (l.run p) := fun hw => hn (pass_in (ls := ls) (fun x hx => ⟨(h x (List.mem_cons_of_mem _ hx)).1, (h x (List.mem_cons_of_mem _ hx)).2.1⟩) hw).1
    have hy : ab (l.run p).2 ≤ B := by
      by_cases z : R ≤ ab (l.run p).2
      · have z2 : ¬ ab (l.run p).1 ≤ ab (l.run p).2 := fun q => nW ⟨z, q⟩
        omega
      · omega
    have hx3 : ab (l.run p).1 ≤ B + 1 := by omega
    exact pass_out (ls := ls) (fun x hx => h x (List.mem_cons_of_mem _ hx)) hn B h1 hy hx3
/-- .. and what is high behind was higher ahead: nothing here is close to the wedge -/
theorem pass_fall {R : Int} : ∀ {ls : List Lk} {p : Pt}, ls ≠ [] → (∀ l ∈ ls, l.ok ∧ hgt l ≤ R ∧ ab l.s ≤ 1) → ¬ InV R (runL ls p) → ¬ InW R (runL ls p) → R ≤ ab (runL ls p).2 → ab (runL ls p).2 + 1 ≤ ab p.2
  | [], _, hne, _, _, _, _ => absurd rfl hne
  | [l], p, _, h, hv, _, hR => by
    obtain ⟨k1, k2, k3⟩ := h l List.mem_cons_self
    have hx := run_x k1 p
    have e : runL [l] p = l.run p := rfl
    rw [e] at hv hR ⊢
    have z2 : ¬ ab (l.run p).1 ≤ ab (l.run p).2 + 1 := fun q => hv ⟨hR, q⟩
    omega
  | l :: m :: ls, p, _, h, hv, hw, hR => by
    obtain ⟨k1, k2, k3⟩ := h l List.mem_cons_self
    have hx := run_x k1 p
    have h' : ∀ x ∈ m :: ls, x.ok ∧ hgt x ≤ R ∧ ab x.s ≤ 1 := fun x hx => h x (List.mem_cons_of_mem _ hx)
    have ih := pass_fall (ls := m :: ls) (p := l.run p) (by simp) h' hv hw hR
    have nv : ¬ InV R (l.run p) := pass_notV (fun x hx => ⟨(h' x hx).1, (h' x hx).2.1⟩) hw
    have r1 : runL (l :: m :: ls) p = runL (m :: ls) (l.run p) := rfl
    rw [r1] at hR ⊢
    have z2 : ¬ ab (l.run p).1 ≤ ab (l.run p).2 + 1 := fun q => nv ⟨by omega, q⟩
    omega
/-- what is low ahead is low behind, also in the first number -/
theorem pass_low {R : Int} : ∀ {ls : List Lk} {p : Pt}, ls ≠ [] → (∀ l ∈ ls, l.ok ∧ hgt l ≤ R ∧ ab l.s ≤ 1) → ¬ InV R (runL ls p) → ¬ InW R (runL ls p) → ab p.2 < R → ab (runL ls p).2 < R ∧ ab (runL ls p).1 ≤ R
  | [], _, hne, _, _, _, _ => absurd rfl hne
  | [l], p, _, h, hv, _, hR => by
    obtain ⟨k1, k2, k3⟩ := h l List.mem_cons_self
    have hx := run_x k1 p
    have e : runL [l] p = l.run p := rfl
    rw [e] at hv ⊢
    by_cases z : R ≤ ab (l.run p).2
    · have z2 : ¬ ab (l.run p).1 ≤ ab (l.run p).2 + 1 := fun q => hv ⟨z, q⟩
      omega
    · omega
  | l :: m :: ls, p, _, h, hv, hw, hR => by
    obtain ⟨k1, k2, k3⟩ := h l List.mem_cons_self
    have hx := run_x k1 p
    have h' : ∀ x ∈ m :: ls, x.ok ∧ hgt x ≤ R ∧ ab x.s ≤ 1 := fun x hx => h x (List.mem_cons_of_mem _ hx)
    have nv : ¬ InV R (l.run p) := pass_notV (fun x hx => ⟨(h' x hx).1, (h' x hx).2.1⟩) hw
    have low : ab (l.run p).2 < R := by
      by_cases z : R ≤ ab (l.run p).2
      · have z2 : ¬ ab (l.run p).1 ≤ ab (l.run p).2 + 1 := fun q => nv ⟨z, q⟩
        omega
      · omega
    exact pass_low (ls := m :: ls) (by simp) h' hv hw low
/-! ### many passes -/
def orb (F : Pt → Pt) : Nat → Pt → Pt
  | 0, p => p
  | n + 1, p => F (orb F n p)
theorem orb_add (F : Pt → Pt) (m : Nat) : ∀ (n : Nat) (p : Pt), orb F (m + n) p = orb F n (orb F m p)
  | 0, _ => rfl
  | n + 1, p => by
    show F (orb F (m + n) p) = F (orb F n (orb F m p))
    rw [orb_add F m n p]
theorem orb_succ (F : Pt → Pt) (n : Nat) (p : Pt) : orb F (n + 1) p = orb F n (F p) := by
  rw [Nat.add_comm, orb_add]
  rfl
theorem orb_per {F : Pt → Pt} {n : Nat} {p : Pt} (h : orb F n p = p) : ∀ k, orb F (n * k) p = p
  | 0 => rfl
  | k + 1 => by rw [Nat.mul_succ, orb_add, orb_per h k, h]
theorem orb_orb (F : Pt → Pt) (m : Nat) : ∀ (n : Nat) (p : Pt), orb (orb F m) n p = orb F (m * n) p
  | 0, _ => rfl
  | n + 1, p => by
    show orb F m (orb (orb F m) n p) = _
    rw [orb_orb F m n p, Nat.mul_succ, orb_add]
/-- F can be undone -/
def Inj (F : Pt → Pt) : Prop := ∀ p q, F p = F q → p = q
theorem orb_inj {F : Pt → Pt} (hF : Inj F) : ∀ (n : Nat) {p q : Pt}, orb F n p = orb F n q → p = q
  | 0, _, _, h => h
  | n + 1, _, _, h => orb_inj hF n (hF _ _ h)
/-- points of one orbit that agree: the orbit comes back -/
theorem orb_back {F : Pt → Pt} (hF : Inj F) {i j : Nat} {p : Pt} (hij : i ≤ j) (h : orb F i p = orb F j p) : orb F (j - i) p = p := by
  have e : j = (j - i) + i := by omega
  rw [e, orb_add] at h
  exact (orb_inj hF i h).symm
/-! ### pigeons -/
theorem pigeon : ∀ (n : Nat) (f : Nat → Nat), (∀ i, i ≤ n → f i < n) → ∃ i j, i < j ∧ j ≤ n ∧ f i = f j
  | 0, f, h => absurd (h 0 (Nat.le_refl _)) (Nat.not_lt_zero _)
  | n + 1, f, h => by
    by_cases hc : ∃ i, i ≤ n ∧ f i = f (n + 1)
    · obtain ⟨i, hi, e⟩ := hc
      exact ⟨i, n + 1, by omega, Nat.le_refl _, e⟩
    · have hne : ∀ i, i ≤ n → f i ≠ f (n + 1) := fun i hi e => hc ⟨i, hi, e⟩
      obtain ⟨i, j, h1, h2, h3⟩ := pigeon n (fun i => if f i < f (n + 1) then f i else f i - 1) (fun i hi => by
        have a := h i (by omega)
        have b := h (n + 1) (Nat.le_refl _)
        have c := hne i hi
        show (if f i < f (n + 1) then f i else f i - 1) < n
        split <;> omega)
      refine ⟨i, j, h1, by omega, ?_⟩
      have a := hne i (by omega)
      have b := hne j h2
      have h3' : (if f i < f (n + 1) then f i else f i - 1) = (if f j < f (n + 1) then f j else f j - 1) := h3
      split at h3' <;> split at h3' <;> omega
/-- an orbit that stays in a box comes back -/
theorem box_back {F : Pt → Pt} (hF : Inj F) {p : Pt} {B : Nat} (h : ∀ i, i ≤ (2 * B + 1) * (2 * B + 1) → ab (orb F i p).1 ≤ B ∧ ab (orb F i p).2 ≤ B) : ∃ n, 1 ≤ n ∧ n ≤ (2 * B + 1) * (2 * B + 1) ∧ orb F n p = p := by
  let g : Nat → Nat := fun i => ((orb F i p).1 + B).toNat * (2 * B + 1) + ((orb F i p).2 + B).toNat
  have bd : ∀ i, i ≤ (2 * B + 1) * (2 * B + 1) → ((orb F i p).1 + B).toNat ≤ 2 * B ∧ ((orb F i p).2 + B).toNat ≤ 2 * B ∧ 0 ≤ (orb F i p).1 + B ∧ 0 ≤ (orb F i p).2 + B := fun i hi => by
    obtain ⟨a, b⟩ := h i hi
    rcases ab_cases (orb F i p).1 with k | k <;> rcases ab_cases (orb F i p).2 with l | l <;> omega
  obtain ⟨i, j, h1, h2, h3⟩ := pigeon ((2 * B + 1) * (2 * B + 1)) g (fun i hi => by
    obtain ⟨a, b, _, _⟩ := bd i hi
    show ((orb F i p).1 + B).toNat * (2 * B + 1) + ((orb F i p).2 + B).toNat < _
    have m : ((orb F i p).1 + B).toNat * (2 * B + 1) ≤ 2 * B * (2 * B + 1) := Nat.mul_le_mul_right _ a
    have e : (2 * B + 1) * (2 * B + 1) = 2 * B * (2 * B + 1) + (2 * B + 1) := by rw [Nat.add_mul, Nat.one_mul]
    omega)
  obtain ⟨a, b, a0, b0⟩ := bd i (by omega)
  obtain ⟨c, d, c0, d0⟩ := bd j h2
  have h3' : ((orb F i p).1 + B).toNat * (2 * B + 1) + ((orb F i p).2 + B).toNat = ((orb F j p).1 + B).toNat * (2 * B + 1) + ((orb F j p).2 + B).toNat := h3
  have q1 : ((orb F i p).1 + B).toNat = ((orb F j p).1 + B).toNat := by
    have z1 := congrArg (· / (2 * B + 1)) h3'
    rw [Nat.add_comm, Nat.add_mul_div_right _ _ (by omega), Nat.add_comm (((orb F j p).1 + B).toNat * _), Nat.add_mul_div_right _ _ (by omega), Nat.div_eq_of_lt (by omega), Nat.div_eq_of_lt (by omega)] at z1
    omega
  rw [q1] at h3'
  have e : orb F i p = orb F j p := Prod.ext (by omega) (by omega)
  exact ⟨j - i, by omega, by omega, orb_back hF (by omega) e⟩
/-! ### cores -/
structure CF where
  cs : List (List Int × Int)
  e : Int
  f : Int
  s : Int
  t : Int
structure CF.ok (c : CF) : Prop where
  ne : c.cs ≠ []
  r : ∀ q ∈ c.cs, Bend q.1
  e : c.e = 1 ∨ c.e = -1
  f : c.f = 1 ∨ c.f = -1
/-- all links of a core -/
def links (e f s t : Int) : List (List Int × Int) → List Lk
  | [] => []
  | [q] => [⟨q.1, q.2, e, f, s, t⟩]
  | q :: q2 :: cs => ⟨q.1, q.2, 1, 1, 0, 0⟩ :: links e f s t (q2 :: cs)
def CF.links (c : CF) : List Lk := K5.links c.e c.f c.s c.t c.cs
def CF.pass (c : CF) (p : Pt) : Pt := runL c.links p
theorem links_ne (e f s t : Int) : ∀ {cs : List (List Int × Int)}, cs ≠ [] → links e f s t cs ≠ []
  | [], h => absurd rfl h
  | [q], _ => by simp [links]
  | q :: q2 :: cs, _ => by simp [links]
theorem links_ok {e f s t : Int} (he : e = 1 ∨ e = -1) (hf : f = 1 ∨ f = -1) : ∀ {cs : List (List Int × Int)}, (∀ q ∈ cs, Bend q.1) → ∀ l ∈ links e f s t cs, l.ok ∧ ab l.s ≤ ab s
  | [], _, l, hl => by simp [links] at hl
  | [q], h, l, hl => by
    have e1 : l = ⟨q.1, q.2, e, f, s, t⟩ := by simpa [links] using hl
    subst e1
    exact ⟨⟨h q List.mem_cons_self, he, hf⟩, Int.le_refl _⟩
  | q :: q2 :: cs, h, l, hl => by
    rcases List.mem_cons.mp hl with e1 | hl
    · subst e1
      exact ⟨⟨h q List.mem_cons_self, .inl rfl, .inl rfl⟩, ab_nn s⟩
    · exact links_ok he hf (cs := q2 :: cs) (fun x hx => h x (List.mem_cons_of_mem _ hx)) l hl
theorem lk_inj {l : Lk} (h : l.ok) : Inj l.run := fun p q e => by
  have e1 := congrArg Prod.fst e
  have e2 := congrArg Prod.snd e
  have e1' : l.e * (-p.2) + l.s = l.e * (-q.2) + l.s := e1
  have e2' : l.f * (p.1 + pval l.r p.2 + l.d * p.2) + l.t = l.f * (q.1 + pval l.r q.2 + l.d * q.2) + l.t := e2
  have y : p.2 = q.2 := by rcases h.e with z | z <;> rw [z] at e1' <;> omega
  rw [y] at e2'
  have x : p.1 = q.1 := by rcases h.f with z | z <;> rw [z] at e2' <;> omega
  exact Prod.ext x y
theorem runL_inj : ∀ {ls : List Lk}, (∀ l ∈ ls, l.ok) → Inj (runL ls)
  | [], _, _, _, e => e
  | l :: ls, h, p, q, e => lk_inj (h l List.mem_cons_self) _ _ (runL_inj (ls := ls) (fun x hx => h x (List.mem_cons_of_mem _ hx)) _ _ e)
theorem CF.ok.link {c : CF} (h : c.ok) : ∀ l ∈ c.links, l.ok ∧ ab l.s ≤ ab c.s := links_ok h.e h.f h.r
theorem CF.ok.inj {c : CF} (h : c.ok) : Inj c.pass := runL_inj fun l hl => (h.link l hl).1
theorem CF.ok.lne {c : CF} (h : c.ok) : c.links ≠ [] := links_ne _ _ _ _ h.ne
/-- R is a height for which the wedge is one -/
def High (c : CF) (R : Int) : Prop := ∀ l ∈ c.links, hgt l ≤ R
theorem in_pass {c : CF} (h : c.ok) {R : Int} (hR : High c R) {p : Pt} (hp : InW R p) : InW R (c.pass p) ∧ 2 * ab p.2 ≤ ab (c.pass p).2 ∧ 1 ≤ ab p.2 := by
  obtain ⟨a, _, d⟩ := pass_in (ls := c.links) (fun l hl => ⟨(h.link l hl).1, hR l hl⟩) hp
  exact ⟨a, (d h.lne).1, (d h.lne).2⟩
theorem in_orb {c : CF} (h : c.ok) {R : Int} (hR : High c R) {p : Pt} (hp : InW R p) : ∀ n, InW R (orb c.pass n p) ∧ ab p.2 + n ≤ ab (orb c.pass n p).2
  | 0 => ⟨hp, by show ab p.2 + ((0 : Nat) : Int) ≤ ab p.2; omega⟩
  | n + 1 => by
    obtain ⟨a, b⟩ := in_orb h hR hp n
    obtain ⟨a', b', _⟩ := in_pass h hR a
    obtain ⟨_, _, k⟩ := in_pass h hR hp
    refine ⟨a', ?_⟩
    show ab p.2 + ((n + 1 : Nat) : Int) ≤ ab (c.pass (orb c.pass n p)).2
    omega
/-- what comes back is never in the wedge -/
theorem back_out {c : CF} (h : c.ok) {R : Int} (hR : High c R) {p : Pt} {n : Nat} (hn : 1 ≤ n) (hb : orb c.pass n p = p) : ∀ i, ¬ InW R (orb c.pass i p) := fun i hw => by
  have e : orb c.pass n (orb c.pass i p) = orb c.pass i p := by rw [← orb_add, Nat.add_comm, orb_add, hb]
  have z := (in_orb h hR hw n).2
  rw [e] at z
  omega
/-- once in, always in -/
theorem in_stays {c : CF} (h : c.ok) {R : Int} (hR : High c R) {p : Pt} {i j : Nat} (hij : i ≤ j) (hi : InW R (orb c.pass i p)) : InW R (orb c.pass j p) := by
  have e : j = i + (j - i) := by omega
  rw [e, orb_add]
  exact (in_orb h hR hi _).1
end K5
set_option linter.all false
set_option maxHeartbeats 1000000
namespace K5
/-! ### what comes back is low -/
theorem per_low1 {c : CF} (h : c.ok) {R : Int} (hR : High c R) (hs : ab c.s ≤ 1) {p : Pt} {n : Nat} (hn : 1 ≤ n) (hb : orb c.pass n p = p) : ab p.2 < R := by
  have out := back_out h hR hn hb
  have lk : ∀ l ∈ c.links, l.ok ∧ hgt l ≤ R ∧ ab l.s ≤ 1 := fun l hl => ⟨(h.link l hl).1, hR l hl, by have := (h.link l hl).2; omega⟩
  have nv : ∀ i, ¬ InV R (orb c.pass i p) := fun i => by
    have z := out (i + 1)
    have e : orb c.pass (i + 1) p = runL c.links (orb c.pass i p) := rfl
    rw [e] at z
    have ne := h.lne
    cases hl : c.links with
    | nil => exact absurd hl ne
    | cons l ls =>
      rw [hl] at z
      exact pass_notV (fun x hx => ⟨(lk x (by rw [hl]; exact hx)).1, (lk x (by rw [hl]; exact hx)).2.1⟩) z
  refine Int.not_le.mp fun hc => ?_
  have key : ∀ k, k ≤ n → ab p.2 + k ≤ ab (orb c.pass (n - k) p).2 := by
    intro k
    induction k with
    | zero =>
      intro _
      show ab p.2 + ((0 : Nat) : Int) ≤ ab (orb c.pass n p).2
      rw [hb]
      omega
    | succ k ih =>
      intro hk
      have a := ih (by omega)
      have e : n - k = (n - (k + 1)) + 1 := by omega
      rw [e] at a
      have e2 : orb c.pass (n - (k + 1) + 1) p = runL c.links (orb c.pass (n - (k + 1)) p) := rfl
      have f := pass_fall (p := orb c.pass (n - (k + 1)) p) h.lne lk (by rw [← e2]; exact nv _) (by rw [← e2]; exact out _) (by rw [← e2]; omega)
      rw [← e2] at f
      omega
  have z := key n (Nat.le_refl _)
  rw [Nat.sub_self] at z
  have z' : ab p.2 + n ≤ ab p.2 := z
  omega
theorem per_low {c : CF} (h : c.ok) {R : Int} (hR : High c R) (hs : ab c.s ≤ 1) {p : Pt} {n : Nat} (hn : 1 ≤ n) (hb : orb c.pass n p = p) : ab p.2 < R ∧ ab p.1 ≤ R := by
  have lk : ∀ l ∈ c.links, l.ok ∧ hgt l ≤ R ∧ ab l.s ≤ 1 := fun l hl => ⟨(h.link l hl).1, hR l hl, by have := (h.link l hl).2; omega⟩
  have out := back_out h hR hn hb
  have hq : orb c.pass n (orb c.pass (n - 1) p) = orb c.pass (n - 1) p := by rw [← orb_add, Nat.add_comm, orb_add, hb]
  have low := per_low1 h hR hs hn hq
  have e : p = runL c.links (orb c.pass (n - 1) p) := by
    have z : orb c.pass ((n - 1) + 1) p = p := by rw [show n - 1 + 1 = n by omega]; exact hb
    exact z.symm
  have nv : ¬ InV R p := by
    have z := out 1
    have e1 : orb c.pass 1 p = runL c.links p := rfl
    rw [e1] at z
    have ne := h.lne
    cases hl : c.links with
    | nil => exact absurd hl ne
    | cons l ls =>
      rw [hl] at z
      exact pass_notV (fun x hx => ⟨(lk x (by rw [hl]; exact hx)).1, (lk x (by rw [hl]; exact hx)).2.1⟩) z
  have z := pass_low (p := orb c.pass (n - 1) p) h.lne lk (by rw [← e]; exact nv) (by rw [← e]; exact out 0) low
  rw [← e] at z
  exact z
/-! ### an orbit ends -/
theorem orb_low {c : CF} (h : c.ok) {R : Int} (hR : High c R) (hs : ab c.s ≤ 1) {p : Pt} {B : Int} (h1 : R - 1 ≤ B) (h2 : ab p.2 ≤ B) (h3 : ab p.1 ≤ B + 1) : ∀ i, ¬ InW R (orb c.pass i p) → ab (orb c.pass i p).2 ≤ B ∧ ab (orb c.pass i p).1 ≤ B + 1
  | 0, _ => ⟨h2, h3⟩
  | i + 1, hn => by
    have lk : ∀ l ∈ c.links, l.ok ∧ hgt l ≤ R ∧ ab l.s ≤ 1 := fun l hl => ⟨(h.link l hl).1, hR l hl, by have := (h.link l hl).2; omega⟩
    have hi : ¬ InW R (orb c.pass i p) := fun hw => hn (in_stays h hR (Nat.le_succ i) hw)
    obtain ⟨a, b⟩ := orb_low h hR hs h1 h2 h3 i hi
    exact pass_out lk hn B h1 a b
/-- how an orbit ends, and what is met on the way -/
structure EndsB (c : CF) (R : Int) (p : Pt) (B : Int) : Prop where
  stop : ∃ N, InW R (orb c.pass N p) ∨ (1 ≤ N ∧ orb c.pass N p = p)
  low : ∀ i, ¬ InW R (orb c.pass i p) → ab (orb c.pass i p).1 ≤ B ∧ ab (orb c.pass i p).2 ≤ B
theorem ends_of {c : CF} (h : c.ok) {R : Int} {p : Pt} {B : Int} (low : ∀ i, ¬ InW R (orb c.pass i p) → ab (orb c.pass i p).1 ≤ B ∧ ab (orb c.pass i p).2 ≤ B) : EndsB c R p B := by
  refine ⟨?_, low⟩
  by_cases hw : ∃ i, InW R (orb c.pass i p)
  · obtain ⟨i, hi⟩ := hw
    exact ⟨i, .inl hi⟩
  · have all : ∀ i, ¬ InW R (orb c.pass i p) := fun i hi => hw ⟨i, hi⟩
    have hB : (0 : Int) ≤ B := by
      have := (low 0 (all 0)).1
      have := ab_nn (orb c.pass 0 p).1
      omega
    obtain ⟨n, a, _, b⟩ := box_back (F := c.pass) h.inj (p := p) (B := B.toNat) fun i _ => by
      obtain ⟨a, b⟩ := low i (all i)
      omega
    exact ⟨n, .inr ⟨a, b⟩⟩
theorem ends_made {c : CF} (h : c.ok) {R : Int} (hR : High c R) (hs : ab c.s ≤ 1) {p : Pt} {B : Int} (h1 : R - 1 ≤ B) (h2 : ab p.2 ≤ B) (h3 : ab p.1 ≤ B + 1) : EndsB c R p (B + 1) :=
  ends_of h fun i hi => by
    obtain ⟨a, b⟩ := orb_low h hR hs h1 h2 h3 i hi
    omega
/-- .. of the core of several passes -/
theorem ends_several {c k : CF} (h : c.ok) {R R2 : Int} (hR : High c R) (hs : ab c.s ≤ 1) (hk : k.ok) {m : Nat} (hm : ∀ p, k.pass p = orb c.pass m p) {p : Pt} {B B2 : Int} (h1 : R - 1 ≤ B) (h2 : ab p.2 ≤ B) (h3 : ab p.1 ≤ B + 1) (h4 : B + 1 ≤ B2) (h5 : R2 ≤ B2) :
    EndsB k R2 p B2 :=
  ends_of hk fun i hi => by
    have e : orb k.pass i p = orb c.pass (m * i) p := by
      rw [← orb_orb, show k.pass = orb c.pass m from funext hm]
    rw [e] at hi ⊢
    by_cases hw : InW R (orb c.pass (m * i) p)
    · have z : ¬ R2 ≤ ab (orb c.pass (m * i) p).2 := fun q => hi ⟨q, hw.2⟩
      have := hw.2
      omega
    · obtain ⟨a, b⟩ := orb_low h hR hs h1 h2 h3 (m * i) hw
      omega
/-! ### fates -/
inductive Fate where
  | back (n : Nat)
  | away (n : Nat)
def IsFate (c : CF) (R : Int) (p : Pt) : Fate → Prop
  | .back n => 1 ≤ n ∧ orb c.pass n p = p ∧ (∀ i, 1 ≤ i → i < n → orb c.pass i p ≠ p) ∧ ∀ i, i < n → ¬ InW R (orb c.pass i p)
  | .away n => InW R (orb c.pass n p) ∧ ∀ i, i < n → ¬ InW R (orb c.pass i p)
/-- comes back after n passes, not earlier -/
def Per (F : Pt → Pt) (p : Pt) (n : Nat) : Prop := 1 ≤ n ∧ orb F n p = p ∧ ∀ i, 1 ≤ i → i < n → orb F i p ≠ p
theorem Per.uniq {F : Pt → Pt} {p : Pt} {n m : Nat} (a : Per F p n) (b : Per F p m) : n = m := by
  rcases Nat.lt_trichotomy n m with h | h | h
  · exact absurd a.2.1 (b.2.2 n a.1 h)
  · exact h
  · exact absurd b.2.1 (a.2.2 m b.1 h)
theorem per_of {F : Pt → Pt} {p : Pt} : ∀ {n : Nat}, 1 ≤ n → orb F n p = p → ∃ m, Per F p m := by
  intro n
  induction n using Nat.strongRecOn with
  | _ n ih =>
    intro hn hb
    by_cases hc : ∃ i, 1 ≤ i ∧ i < n ∧ orb F i p = p
    · obtain ⟨i, h1, h2, h3⟩ := hc
      exact ih i h2 h1 h3
    · exact ⟨n, hn, hb, fun i h1 h2 h3 => hc ⟨i, h1, h2, h3⟩⟩
theorem Per.mul {F : Pt → Pt} {p : Pt} {n : Nat} (a : Per F p n) (j : Nat) : orb F j p = p ↔ n ∣ j := by
  constructor
  · intro h
    have e : j = n * (j / n) + j % n := (Nat.div_add_mod j n).symm
    have z : orb F (j % n) p = p := by
      rw [e, orb_add, orb_per a.2.1] at h
      exact h
    have lt : j % n < n := Nat.mod_lt _ a.1
    by_cases h0 : j % n = 0
    · exact Nat.dvd_of_mod_eq_zero h0
    · exact absurd z (a.2.2 _ (by omega) lt)
  · rintro ⟨k, rfl⟩
    exact orb_per a.2.1 k
/-- under m passes at once -/
theorem Per.many {F G : Pt → Pt} {p : Pt} {n m : Nat} (a : Per F p n) (hm : 1 ≤ m) (hG : ∀ q, G q = orb F m q) : Per G p (n / Nat.gcd n m) := by
  have eG : ∀ j, orb G j p = orb F (m * j) p := fun j => by
    rw [← orb_orb, show G = orb F m from funext hG]
  have gp : 0 < Nat.gcd n m := Nat.gcd_pos_of_pos_left m a.1
  have gn : Nat.gcd n m ∣ n := Nat.gcd_dvd_left n m
  have gm : Nat.gcd n m ∣ m := Nat.gcd_dvd_right n m
  have cop : Nat.Coprime (n / Nat.gcd n m) (m / Nat.gcd n m) := Nat.coprime_div_gcd_div_gcd gp
  have key : ∀ j, n ∣ m * j ↔ n / Nat.gcd n m ∣ j := fun j => by
    have e1 : n = Nat.gcd n m * (n / Nat.gcd n m) := (Nat.mul_div_cancel' gn).symm
    have e2 : m * j = Nat.gcd n m * (m / Nat.gcd n m * j) := by rw [← Nat.mul_assoc, Nat.mul_div_cancel' gm]
    constructor
    · intro h
      rw [e2] at h
      have h' : Nat.gcd n m * (n / Nat.gcd n m) ∣ Nat.gcd n m * (m / Nat.gcd n m * j) := by rw [← e1]; exact h
      exact cop.dvd_of_dvd_mul_left (Nat.dvd_of_mul_dvd_mul_left gp h')
    · intro h
      rw [e2]
      have h' : Nat.gcd n m * (n / Nat.gcd n m) ∣ Nat.gcd n m * (m / Nat.gcd n m * j) := Nat.mul_dvd_mul_left _ (Nat.dvd_trans h (Nat.dvd_mul_left _ _))
      rwa [← e1] at h'
  refine ⟨Nat.div_pos (Nat.le_of_dvd a.1 gn) gp, ?_, fun i h1 h2 h3 => ?_⟩
  · rw [eG, a.mul, key]
    exact Nat.dvd_refl _
  · rw [eG, a.mul, key] at h3
    exact absurd (Nat.le_of_dvd h1 h3) (by omega)
theorem fate_back {c : CF} {R : Int} {p : Pt} {n : Nat} (h : IsFate c R p (.back n)) : Per c.pass p n := ⟨h.1, h.2.1, h.2.2.1⟩
theorem fate_per {c : CF} (h : c.ok) {R : Int} (hR : High c R) {p : Pt} {n : Nat} (hp : Per c.pass p n) {r : Fate} (hf : IsFate c R p r) : r = .back n := by
  cases r with
  | back m => rw [(fate_back hf).uniq hp]
  | away m => exact absurd hf.1 (back_out h hR hp.1 hp.2.1 m)
theorem fate_away {c : CF} {R : Int} {p : Pt} (hp : ∀ n, ¬ Per c.pass p n) {r : Fate} (hf : IsFate c R p r) : ∃ n, r = .away n := by
  cases r with
  | back m => exact absurd (fate_back hf) (hp m)
  | away m => exact ⟨m, rfl⟩
/-- a pass of what comes back comes back with the same number, also backwards -/
theorem Per.pass {F : Pt → Pt} (hF : Inj F) {p q : Pt} (e : F p = q) {n : Nat} : Per F p n ↔ Per F q n := by
  have k : ∀ i, orb F i q = q ↔ orb F i p = p := fun i => by
    rw [← e, ← orb_succ]
    constructor
    · intro h
      exact hF _ _ h
    · intro h
      show F (orb F i p) = F p
      rw [h]
  unfold Per
  constructor
  · rintro ⟨a, b, d⟩
    exact ⟨a, (k n).mpr b, fun i h1 h2 h3 => d i h1 h2 ((k i).mp h3)⟩
  · rintro ⟨a, b, d⟩
    exact ⟨a, (k n).mp b, fun i h1 h2 h3 => d i h1 h2 ((k i).mpr h3)⟩
end K5
set_option linter.all false
set_option maxHeartbeats 1000000
namespace K5
/-! ### rows of numbers, low power first -/
def trim : List Int → List Int
  | [] => []
  | c :: r => match trim r with
    | [] => if c = 0 then [] else [c]
    | d :: q => c :: d :: q
theorem trim_snoc0 : ∀ l : List Int, trim (l ++ [0]) = trim l
  | [] => rfl
  | c :: r => by
    show trim (c :: (r ++ [0])) = _
    simp only [trim, trim_snoc0 r]
theorem trim_snoc (z : Int) (hz : z ≠ 0) : ∀ l : List Int, trim (l ++ [z]) = l ++ [z]
  | [] => by simp [trim, hz]
  | c :: r => by
    show trim (c :: (r ++ [z])) = _
    simp only [trim, trim_snoc z hz r]
    cases r <;> rfl
theorem trim_nz {l : List Int} (h : nz l) : trim l = l := by
  obtain ⟨m, z, rfl, hz⟩ := h
  exact trim_snoc z hz m
/-- the sum of a row and one number at its place 0 -/
def add0 : List Int → Int → List Int
  | [], n => [n]
  | c :: r, n => (c + n) :: r
/-- a row times (t, f), and k -/
def mulc (t f : Int) : List Int → Int → List Int
  | [], k => [k]
  | c :: r, k => (k + c * t) :: mulc t f r (c * f)
def beh (t f : Int) : List Int → List Int
  | [] => []
  | c :: r => add0 (mulc t f (beh t f r) 0) c
theorem mulc_len (t f : Int) : ∀ (r : List Int) (k : Int), (mulc t f r k).length = r.length + 1
  | [], _ => rfl
  | c :: r, k => by simp [mulc, mulc_len t f r]
theorem add0_len (r : List Int) (n : Int) : (add0 r n).length = max r.length 1 := by
  cases r with
  | nil => rfl
  | cons c r => simp [add0]
theorem beh_len (t f : Int) : ∀ r : List Int, (beh t f r).length = r.length
  | [] => rfl
  | [c] => by simp [beh, add0_len, mulc_len]
  | c :: d :: r => by
    have e : beh t f (c :: d :: r) = add0 (mulc t f (beh t f (d :: r)) 0) c := rfl
    rw [e, add0_len, mulc_len, beh_len t f (d :: r)]
    simp
theorem mul_left3 (a b c : Int) : a * (b * c) = b * (a * c) := by rw [← Int.mul_assoc, Int.mul_comm a b, Int.mul_assoc]
theorem pval_mulc (t f y : Int) : ∀ (r : List Int) (k : Int), pval (mulc t f r k) y = k + (t + f * y) * pval r y
  | [], k => by simp [mulc, pval]
  | c :: r, k => by
    show (k + c * t) + y * pval (mulc t f r (c * f)) y = k + (t + f * y) * (c + y * pval r y)
    rw [pval_mulc t f y r, Int.mul_add y, mul_left3 y (t + f * y), Int.mul_add (t + f * y) c]
    have e1 : y * (c * f) = c * (f * y) := by rw [Int.mul_comm y, Int.mul_assoc]
    have e3 : (t + f * y) * c = c * t + c * (f * y) := by rw [Int.mul_comm, Int.mul_add]
    omega
theorem pval_add0 (y : Int) (r : List Int) (n : Int) : pval (add0 r n) y = pval r y + n := by
  cases r with
  | nil => simp [add0, pval]
  | cons c r =>
    show (c + n) + y * pval r y = (c + y * pval r y) + n
    omega
theorem pval_beh (t f y : Int) : ∀ r : List Int, pval (beh t f r) y = pval r (t + f * y)
  | [] => rfl
  | c :: r => by
    show pval (add0 (mulc t f (beh t f r) 0) c) y = c + (t + f * y) * pval r (t + f * y)
    rw [pval_add0, pval_mulc, pval_beh t f y r]
    omega
theorem mulc_nz (t f : Int) (hf : f ≠ 0) : ∀ {r : List Int} (k : Int), nz r → nz (mulc t f r k)
  | [], _, h => by
    obtain ⟨l, z, e, _⟩ := h
    simp at e
  | [c], k, h => ⟨[k + c * t], c * f, by simp [mulc], Int.mul_ne_zero (nz_one h) hf⟩
  | c :: d :: r, k, h => by
    obtain ⟨l, z, e, hz⟩ := mulc_nz t f hf (c * f) (nz_tail h)
    exact ⟨(k + c * t) :: l, z, by show (k + c * t) :: mulc t f (d :: r) (c * f) = _; rw [e]; rfl, hz⟩
theorem add0_nz {r : List Int} (n : Int) (h2 : 2 ≤ r.length) (h : nz r) : nz (add0 r n) := by
  obtain ⟨l, z, e, hz⟩ := h
  cases l with
  | nil =>
    rw [e] at h2
    simp at h2
  | cons c l => exact ⟨(c + n) :: l, z, by rw [e]; rfl, hz⟩
theorem beh_nz (t f : Int) (hf : f ≠ 0) : ∀ {r : List Int}, nz r → nz (beh t f r)
  | [], h => by
    obtain ⟨l, z, e, _⟩ := h
    simp at e
  | [c], h => ⟨[], c, by simp [beh, mulc, add0], nz_one h⟩
  | c :: d :: r, h => by
    refine add0_nz c ?_ (mulc_nz t f hf 0 (beh_nz t f hf (nz_tail h)))
    rw [mulc_len, beh_len]
    simp
/-- what is left of the rule behind (t, f) when its first two numbers are out, times e -/
def more (e t f : Int) (r : List Int) : List Int := (0 :: 0 :: (beh t f r).drop 2).map (e * ·)
def i0 (t f : Int) (r : List Int) : Int := (beh t f r).getD 0 0
def i1 (t f : Int) (r : List Int) : Int := (beh t f r).getD 1 0
theorem pval_map (e y : Int) : ∀ r : List Int, pval (r.map (e * ·)) y = e * pval r y
  | [] => by simp [pval]
  | c :: r => by
    show e * c + y * pval (r.map (e * ·)) y = e * (c + y * pval r y)
    rw [pval_map e y r, Int.mul_add, mul_left3]
theorem pval_more (e t f y : Int) (r : List Int) (h : 2 ≤ r.length) : pval (more e t f r) y = e * (pval r (t + f * y) - i0 t f r - i1 t f r * y) := by
  unfold more i0 i1
  rw [pval_map, ← pval_beh]
  have l := beh_len t f r
  cases e1 : beh t f r with
  | nil => rw [e1] at l; simp at l; omega
  | cons a q =>
    cases q with
    | nil => rw [e1] at l; simp at l; omega
    | cons b q =>
      show e * (0 + y * (0 + y * pval q y)) = e * (a + y * (b + y * pval q y) - a - b * y)
      congr 1
      rw [Int.mul_add y b, Int.mul_comm y b, Int.zero_add, Int.zero_add]
      omega
theorem drop_nz {r : List Int} (h : nz r) (h3 : 3 ≤ r.length) : nz (r.drop 2) := by
  match r, h, h3 with
  | a :: b :: c :: q, h, _ => exact nz_tail (nz_tail h)
theorem map_nz {r : List Int} (e : Int) (he : e ≠ 0) (h : nz r) : nz (r.map (e * ·)) := by
  obtain ⟨l, z, rfl, hz⟩ := h
  exact ⟨l.map (e * ·), e * z, by simp, Int.mul_ne_zero he hz⟩
theorem bend_len {r : List Int} (h : Bend r) : 3 ≤ r.length := by
  obtain ⟨q, rfl, l, z, rfl, _⟩ := h
  simp
theorem bend_nz {r : List Int} (h : Bend r) : nz r := by
  obtain ⟨q, rfl, l, z, rfl, hz⟩ := h
  exact ⟨0 :: 0 :: l, z, rfl, hz⟩
theorem more_bend {e t f : Int} {r : List Int} (he : e ≠ 0) (hf : f ≠ 0) (h : Bend r) : Bend (more e t f r) := by
  refine ⟨((beh t f r).drop 2).map (e * ·), ?_, ?_⟩
  · unfold more
    simp
  · refine map_nz e he (drop_nz (beh_nz t f hf (bend_nz h)) ?_)
    rw [beh_len]
    exact bend_len h
theorem cons2_nz {r : List Int} (h : nz r) : nz (0 :: 0 :: r) := by
  obtain ⟨l, z, rfl, hz⟩ := h
  exact ⟨0 :: 0 :: l, z, rfl, hz⟩
end K5
set_option linter.all false
set_option maxHeartbeats 1000000
namespace K5
/-! ### bits -/
def Bt (n : Nat) (i : Int) : Prop := i.natAbs < 2 ^ n
theorem Bt.mono {n m : Nat} {i : Int} (h : Bt n i) (k : n ≤ m) : Bt m i := Nat.lt_of_lt_of_le h (Nat.pow_le_pow_right (by decide) k)
theorem Bt.add {n : Nat} {i j : Int} (a : Bt n i) (b : Bt n j) : Bt (n + 1) (i + j) := by
  unfold Bt at *
  rw [Nat.pow_succ]
  have := Int.natAbs_add_le i j
  omega
theorem Bt.neg {n : Nat} {i : Int} (a : Bt n i) : Bt n (-i) := by
  unfold Bt at *
  rw [Int.natAbs_neg]
  exact a
theorem Bt.sub {n : Nat} {i j : Int} (a : Bt n i) (b : Bt n j) : Bt (n + 1) (i - j) := by
  rw [Int.sub_eq_add_neg]
  exact a.add b.neg
theorem Bt.mul {n m : Nat} {i j : Int} (a : Bt n i) (b : Bt m j) : Bt (n + m) (i * j) := by
  unfold Bt at *
  rw [Int.natAbs_mul, Nat.pow_add]
  exact Nat.mul_lt_mul'' a b
theorem Bt.ab {n : Nat} {i : Int} (a : Bt n i) : Bt n (ab i) := by
  unfold Bt at *
  rw [ab_nat, Int.natAbs_natCast]
  exact a
theorem Bt.of_ab {n : Nat} {i j : Int} (a : Bt n j) (h : K5.ab i ≤ K5.ab j) : Bt n i := by
  unfold Bt at *
  rw [ab_nat, ab_nat] at h
  omega
theorem Bt.log {n : Nat} {i : Int} (a : Bt n i) (h : 0 < n) : i.natAbs.log2 < n := by
  unfold Bt at a
  by_cases z : i.natAbs = 0
  · rw [z]
    simpa using h
  · exact (Nat.log2_lt z).mpr a
/-! ### the greatest -/
def MaxOf (m : Int) (l : List Int) : Prop := m ∈ l ∧ ∀ y ∈ l, y ≤ m
theorem MaxOf.uniq {m n : Int} {l : List Int} (a : MaxOf m l) (b : MaxOf n l) : m = n := Int.le_antisymm (b.2 m a.1) (a.2 n b.1)
/-! ### a core's steps -/
inductive Stp where
  | x (r : List Int)
  | t (a b c d : Int)
  | m (s t : Int)
def parS (cs : List (List Int × Int)) : List Stp := cs.flatMap fun q => [.x q.1, .t 0 (-1) 1 q.2]
def CF.parts (c : CF) : List Stp := parS c.cs
def CF.steps (c : CF) : List Stp := c.parts ++ [.t c.e 0 0 c.f, .m c.s c.t]
theorem parS_len : ∀ cs : List (List Int × Int), (parS cs).length = 2 * cs.length
  | [] => rfl
  | q :: cs => by
    show ((parS cs).length + 1) + 1 = 2 * (cs.length + 1)
    rw [parS_len cs]
    omega
theorem parS_x : ∀ {cs : List (List Int × Int)} {i : Nat} {q : List Int × Int}, cs[i]? = some q → (parS cs)[2 * i]? = some (.x q.1) ∧ (parS cs)[2 * i + 1]? = some (.t 0 (-1) 1 q.2)
  | [], _, _, h => by simp at h
  | p :: cs, 0, q, h => by
    obtain rfl : p = q := by simpa using h
    exact ⟨rfl, rfl⟩
  | p :: cs, i + 1, q, h => by
    have ih := parS_x (cs := cs) (i := i) (q := q) (by simpa using h)
    have e : ∀ k, (parS (p :: cs))[k + 2]? = (parS cs)[k]? := fun k => rfl
    rw [show 2 * (i + 1) = 2 * i + 2 by omega, show 2 * i + 2 + 1 = (2 * i + 1) + 2 by omega, e, e]
    exact ih
def cpl (e f s t : Int) : List (List Int × Int) → List (List Int × List Int)
  | [] => []
  | [q] => [(q.1, [e * 0 + 0 * 1, e * (-1) + 0 * q.2, f * 1, f * q.2, s, t])]
  | q :: q2 :: cs => (q.1, [0, -1, 1, q.2, 0, 0]) :: cpl e f s t (q2 :: cs)
def CF.cpl (c : CF) : List (List Int × List Int) := K5.cpl c.e c.f c.s c.t c.cs
def lr (l : Lk) : Int := 2 * (lowS l.r + 1 + 3 + 2 * (1 + ab l.d) + (2 * (1 + ab l.d) + 3) * ab l.s + (ab l.d * ab l.s + ab l.t))
/-- the height of a rule and six numbers, as the program says it; the reach -/
def lhS (w : Int) (q : List Int × List Int) : Int := match q.2 with
  | [_, b, _, d, s, t] => lowS q.1 + w + 2 * (ab b + ab d + ab s + ab t + 1)
  | _ => 0
def lrS (w : Int) (q : List Int × List Int) : Int := match q.2 with
  | [a, b, c, d, s, t] => 2 * (lowS q.1 + w + 3 + 2 * (ab b + ab d) + (2 * (ab b + ab d) + 3) * (ab (c * s) + ab (a * t)) + (ab (d * s) + ab (b * t)))
  | _ => 0
theorem cpl_len (e f s t : Int) : ∀ cs : List (List Int × Int), (cpl e f s t cs).length = cs.length
  | [] => rfl
  | [_] => rfl
  | q :: q2 :: cs => by
    show (cpl e f s t (q2 :: cs)).length + 1 = (q2 :: cs).length + 1
    rw [cpl_len e f s t (q2 :: cs)]
theorem cpl_h {e f s t : Int} (he : e = 1 ∨ e = -1) (hf : f = 1 ∨ f = -1) : ∀ cs : List (List Int × Int), (cpl e f s t cs).map (lhS 1) = (links e f s t cs).map hgt
  | [] => rfl
  | [q] => by
    show [lowS q.1 + 1 + 2 * (ab (e * (-1) + 0 * q.2) + ab (f * q.2) + ab s + ab t + 1)] = [lowS q.1 + 1 + 2 * (1 + ab q.2 + ab s + ab t + 1)]
    have h1 : ab (e * (-1) + 0 * q.2) = 1 := by rw [Int.zero_mul]; rcases he with rfl | rfl <;> rfl
    have h2 : ab (f * q.2) = ab q.2 := by rw [ab_mul, ab_one f hf, Int.one_mul]
    rw [h1, h2]
  | q :: q2 :: cs => by
    show lhS 1 (q.1, [0, -1, 1, q.2, 0, 0]) :: (cpl e f s t (q2 :: cs)).map (lhS 1) = hgt ⟨q.1, q.2, 1, 1, 0, 0⟩ :: (links e f s t (q2 :: cs)).map hgt
    rw [cpl_h he hf (q2 :: cs)]
    rfl
theorem cpl_r {e f s t : Int} (he : e = 1 ∨ e = -1) (hf : f = 1 ∨ f = -1) : ∀ cs : List (List Int × Int), (cpl e f s t cs).map (lrS 1) = (links e f s t cs).map lr
  | [] => rfl
  | [q] => by
    show [2 * (lowS q.1 + 1 + 3 + 2 * (ab (e * (-1) + 0 * q.2) + ab (f * q.2)) + (2 * (ab (e * (-1) + 0 * q.2) + ab (f * q.2)) + 3) * (ab (f * 1 * s) + ab ((e * 0 + 0 * 1) * t)) + (ab (f * q.2 * s) + ab ((e * (-1) + 0 * q.2) * t)))] = [2 * (lowS q.1 + 1 + 3 + 2 * (1 + ab q.2) + (2 * (1 + ab q.2) + 3) * ab s + (ab q.2 * ab s + ab t))]
    have h1 : ab (e * (-1) + 0 * q.2) = 1 := by rw [Int.zero_mul]; rcases he with rfl | rfl <;> rfl
    have h2 : ab (f * q.2) = ab q.2 := by rw [ab_mul, ab_one f hf, Int.one_mul]
    have h3 : ab ((e * 0 + 0 * 1) * t) = 0 := by rw [Int.mul_zero, Int.zero_mul, Int.zero_add, Int.zero_mul]; rfl
    rw [ab_mul (f * 1), ab_mul (f * q.2), ab_mul (e * (-1) + 0 * q.2), h1, h2, h3, Int.mul_one, ab_one f hf, Int.one_mul, Int.one_mul, Int.add_zero]
  | q :: q2 :: cs => by
    show lrS 1 (q.1, [0, -1, 1, q.2, 0, 0]) :: (cpl e f s t (q2 :: cs)).map (lrS 1) = lr ⟨q.1, q.2, 1, 1, 0, 0⟩ :: (links e f s t (q2 :: cs)).map lr
    rw [cpl_r he hf (q2 :: cs)]
    congr 1
    show 2 * (lowS q.1 + 1 + 3 + 2 * (1 + ab q.2) + (2 * (1 + ab q.2) + 3) * (ab 0 + ab 0) + (ab (q.2 * 0) + ab (-1 * 0))) = 2 * (lowS q.1 + 1 + 3 + 2 * (1 + ab q.2) + (2 * (1 + ab q.2) + 3) * ab 0 + (ab q.2 * ab 0 + ab 0))
    rw [ab_zero, Int.mul_zero, Int.mul_zero, ab_zero, Int.mul_zero]
    omega
theorem cpl_mem {e f s t : Int} : ∀ {cs : List (List Int × Int)} {q : List Int × List Int}, q ∈ cpl e f s t cs → ∃ p ∈ cs, q = (p.1, [0, -1, 1, p.2, 0, 0]) ∨ q = (p.1, [e * 0 + 0 * 1, e * (-1) + 0 * p.2, f * 1, f * p.2, s, t])
  | [], q, h => by simp [cpl] at h
  | [p], q, h => ⟨p, List.mem_cons_self, .inr (by simpa [cpl] using h)⟩
  | p :: p2 :: cs, q, h => by
    rcases List.mem_cons.mp h with h | h
    · exact ⟨p, List.mem_cons_self, .inl h⟩
    · obtain ⟨p', m, e1⟩ := cpl_mem (cs := p2 :: cs) h
      exact ⟨p', List.mem_cons_of_mem _ m, e1⟩
theorem lowS_sum : ∀ ns : List Int, ((ns.take (ns.length - 1)).map ab).sum = lowS ns
  | [] => rfl
  | [_] => rfl
  | c :: d :: r => by
    have ih := lowS_sum (d :: r)
    show ((c :: (d :: r).take ((d :: r).length - 1)).map ab).sum = ab c + lowS (d :: r)
    rw [List.map_cons, List.sum_cons, ih]
/-- the height and the reach of a core -/
def HG (c : CF) (h : Int) : Prop := MaxOf h (c.links.map hgt)
def RC (c : CF) (r : Int) : Prop := ∃ h, HG c h ∧ MaxOf r (h :: c.links.map lr)
theorem HG.high {c : CF} {h : Int} (g : HG c h) : High c h := fun l hl => g.2 _ (List.mem_map_of_mem hl)
end K5
set_option Elab.async false
set_option linter.all false
set_option maxRecDepth 100000
set_option maxHeartbeats 4000000
namespace K5
open PySem PySem.Spec PyProof.Rows L2
/-! the text by places -/
def tp (i : Nat) : Stmt := PySem.Challenge.pw_crossadds_k54_whole_fates_and_passes.main.body.getD i (.Pass ⟨0, 0, 0, 0⟩)
/-- one def: where it stands, its name, its qualified name, its statement, its defaults -/
structure FD where
  ad : PySem.W.Frag → Addr
  name : Str
  qual : Str
  st : Stmt
  dfl : List He.Dv := []
/-- the getter of a property -/
def gAd (C f : Str) (K : PySem.W.Frag) : Addr := match PySem.W.recIn K (He.ma K (He.ga K C) f) "property" with
  | some (.ref g :: _) => g
  | _ => 0
def glA (x : Str) (K : PySem.W.Frag) : Addr := He.ga K x
def meA (C m : Str) (K : PySem.W.Frag) : Addr := He.ma K (He.ga K C) m
/-- the one default of the method m of C, an object -/
def dfA (C m : Str) (K : PySem.W.Frag) : Addr := match K.lookup (meA C m K) with
  | some ⟨_, _, .func u, _⟩ => (match u.defaults with
    | .ref t => (match K.lookup t with
      | some ⟨_, _, .seq its _, _⟩ => (match its.toList.head? with
        | some (.ref a) => a
        | _ => 0)
      | _ => 0)
    | _ => 0)
  | _ => 0
abbrev s_is_number_rules : Stmt := tp 11
abbrev d_is_number_rules : FD := ⟨glA "is_number_rules", "is_number", "is_number", s_is_number_rules, []⟩
abbrev s_is_from : Stmt := tp 13
abbrev d_is_from : FD := ⟨glA "is_from", "is_from", "is_from", s_is_from, []⟩
abbrev s_is_list : Stmt := tp 14
abbrev d_is_list : FD := ⟨glA "is_list", "is_list", "is_list", s_is_list, []⟩
abbrev s_without_end : Stmt := tp 15
abbrev d_without_end : FD := ⟨glA "without_end", "without_end", "without_end", s_without_end, []⟩
abbrev s_row_value : Stmt := tp 17
abbrev d_row_value : FD := ⟨glA "row_value", "row_value", "row_value", s_row_value, []⟩
abbrev s_row_sum : Stmt := tp 18
abbrev d_row_sum : FD := ⟨glA "row_sum", "row_sum", "row_sum", s_row_sum, []⟩
abbrev s_row_product : Stmt := tp 19
abbrev d_row_product : FD := ⟨glA "row_product", "row_product", "row_product", s_row_product, []⟩
abbrev s_need_point : Stmt := tp 21
abbrev d_need_point : FD := ⟨glA "need_point", "need_point", "need_point", s_need_point, []⟩
abbrev s_is_step : Stmt := tp 23
abbrev d_is_step : FD := ⟨glA "is_step", "is_step", "is_step", s_is_step, []⟩
abbrev s_done : Stmt := tp 24
abbrev d_done : FD := ⟨glA "done", "done", "done", s_done, []⟩
abbrev s_undone : Stmt := tp 25
abbrev d_undone : FD := ⟨glA "undone", "undone", "undone", s_undone, []⟩
abbrev s_need_program_programs : Stmt := tp 27
abbrev d_need_program_programs : FD := ⟨glA "need_program_programs", "need_program", "need_program", s_need_program_programs, []⟩
abbrev s_inverse_modulo : Stmt := tp 30
abbrev d_inverse_modulo : FD := ⟨glA "inverse_modulo", "inverse_modulo", "inverse_modulo", s_inverse_modulo, []⟩
abbrev s_is_bend : Stmt := tp 32
abbrev d_is_bend : FD := ⟨glA "is_bend", "is_bend", "is_bend", s_is_bend, []⟩
abbrev s_is_quarter : Stmt := tp 33
abbrev d_is_quarter : FD := ⟨glA "is_quarter", "is_quarter", "is_quarter", s_is_quarter, []⟩
abbrev s_is_plain : Stmt := tp 34
abbrev d_is_plain : FD := ⟨glA "is_plain", "is_plain", "is_plain", s_is_plain, []⟩
abbrev s_plain : Stmt := tp 35
abbrev d_plain : FD := ⟨glA "plain", "plain", "plain", s_plain, []⟩
abbrev s_need_program_cores : Stmt := tp 37
abbrev d_need_program_cores : FD := ⟨glA "need_program_cores", "need_program", "need_program", s_need_program_cores, []⟩
abbrev s_parts_of : Stmt := tp 39
abbrev d_parts_of : FD := ⟨glA "parts_of", "parts_of", "parts_of", s_parts_of, []⟩
abbrev s_are_core_parts : Stmt := tp 40
abbrev d_are_core_parts : FD := ⟨glA "are_core_parts", "are_core_parts", "are_core_parts", s_are_core_parts, []⟩
abbrev s_is_core : Stmt := tp 41
abbrev d_is_core : FD := ⟨glA "is_core", "is_core", "is_core", s_is_core, []⟩
abbrev s_need_core : Stmt := tp 42
abbrev d_need_core : FD := ⟨glA "need_core", "need_core", "need_core", s_need_core, []⟩
abbrev s_is_number_fates : Stmt := tp 45
abbrev d_is_number_fates : FD := ⟨glA "is_number_fates", "is_number", "is_number", s_is_number_fates, []⟩
abbrev s_is_point : Stmt := tp 47
abbrev d_is_point : FD := ⟨glA "is_point", "is_point", "is_point", s_is_point, []⟩
abbrev s_with_end : Stmt := tp 48
abbrev d_with_end : FD := ⟨glA "with_end", "with_end", "with_end", s_with_end, []⟩
abbrev s_couples_of : Stmt := tp 49
abbrev d_couples_of : FD := ⟨glA "couples_of", "couples_of", "couples_of", s_couples_of, []⟩
abbrev s_lower_sum : Stmt := tp 50
abbrev d_lower_sum : FD := ⟨glA "lower_sum", "lower_sum", "lower_sum", s_lower_sum, []⟩
abbrev s_least_height : Stmt := tp 51
abbrev d_least_height : FD := ⟨glA "least_height", "least_height", "least_height", s_least_height, []⟩
abbrev s_least_reach : Stmt := tp 52
abbrev d_least_reach : FD := ⟨glA "least_reach", "least_reach", "least_reach", s_least_reach, []⟩
abbrev s_fate_by : Stmt := tp 54
abbrev d_fate_by : FD := ⟨glA "fate_by", "fate_by", "fate_by", s_fate_by, []⟩
abbrev s_fate : Stmt := tp 55
abbrev d_fate : FD := ⟨glA "fate", "fate", "fate", s_fate, []⟩
abbrev s_returning : Stmt := tp 56
abbrev d_returning : FD := ⟨glA "returning", "returning", "returning", s_returning, []⟩
abbrev s_l_curl : Stmt := tp 58
abbrev d_l_curl : FD := ⟨glA "_law_curl", "_law_curl", "_law_curl", s_l_curl, []⟩
abbrev s_l_couples : Stmt := tp 59
abbrev d_l_couples : FD := ⟨glA "_law_couples", "_law_couples", "_law_couples", s_l_couples, []⟩
abbrev s_l_sizes : Stmt := tp 60
abbrev d_l_sizes : FD := ⟨glA "_law_sizes", "_law_sizes", "_law_sizes", s_l_sizes, []⟩
abbrev s_l_small_core : Stmt := tp 61
abbrev d_l_small_core : FD := ⟨glA "_law_small_core", "_law_small_core", "_law_small_core", s_l_small_core, []⟩
abbrev s_l_box : Stmt := tp 62
abbrev d_l_box : FD := ⟨glA "_law_box", "_law_box", "_law_box", s_l_box, []⟩
abbrev s_l_gcd : Stmt := tp 63
abbrev d_l_gcd : FD := ⟨glA "_law_gcd", "_law_gcd", "_law_gcd", s_l_gcd, []⟩
abbrev s_l_begun : Stmt := tp 64
abbrev d_l_begun : FD := ⟨glA "_law_begun", "_law_begun", "_law_begun", s_l_begun, []⟩
abbrev s_l_mixed : Stmt := tp 65
abbrev d_l_mixed : FD := ⟨glA "_law_mixed", "_law_mixed", "_law_mixed", s_l_mixed, []⟩
abbrev s_l_take : Stmt := tp 66
abbrev d_l_take : FD := ⟨glA "_law_take", "_law_take", "_law_take", s_l_take, []⟩
abbrev s_l_pick : Stmt := tp 67
abbrev d_l_pick : FD := ⟨glA "_law_pick", "_law_pick", "_law_pick", s_l_pick, []⟩
abbrev s_l_number : Stmt := tp 68
abbrev d_l_number : FD := ⟨glA "_law_number", "_law_number", "_law_number", s_l_number, []⟩
abbrev s_l_is_low : Stmt := tp 69
abbrev d_l_is_low : FD := ⟨glA "_law_is_low", "_law_is_low", "_law_is_low", s_l_is_low, []⟩
abbrev s_l_step_of : Stmt := tp 70
abbrev d_l_step_of : FD := ⟨glA "_law_step_of", "_law_step_of", "_law_step_of", s_l_step_of, []⟩
abbrev s_l_program_of : Stmt := tp 71
abbrev d_l_program_of : FD := ⟨glA "_law_program_of", "_law_program_of", "_law_program_of", s_l_program_of, []⟩
abbrev s_l_led_right : Stmt := tp 72
abbrev d_l_led_right : FD := ⟨glA "_law_led_right", "_law_led_right", "_law_led_right", s_l_led_right, []⟩
abbrev s_law : Stmt := tp 73
abbrev d_law : FD := ⟨glA "law", "law", "law", s_law, []⟩
abbrev s_Rule_init : Stmt := inClass (tp 16) 0
abbrev d_Rule_init : FD := ⟨meA "Rule" "__init__", "__init__", "Rule.__init__", s_Rule_init, [.adr (dfA "Rule" "__init__")]⟩
abbrev s_Rule_coefficients : Stmt := inClass (tp 16) 1
abbrev d_Rule_coefficients : FD := ⟨gAd "Rule" "coefficients", "coefficients", "Rule.coefficients", s_Rule_coefficients, []⟩
abbrev s_Rule_degree : Stmt := inClass (tp 16) 2
abbrev d_Rule_degree : FD := ⟨gAd "Rule" "degree", "degree", "Rule.degree", s_Rule_degree, []⟩
abbrev s_Rule_getitem : Stmt := inClass (tp 16) 5
abbrev d_Rule_getitem : FD := ⟨meA "Rule" "__getitem__", "__getitem__", "Rule.__getitem__", s_Rule_getitem, []⟩
abbrev s_Rule_rmul : Stmt := inClass (tp 16) 10
abbrev d_Rule_rmul : FD := ⟨meA "Rule" "__rmul__", "__rmul__", "Rule.__rmul__", s_Rule_rmul, []⟩
abbrev s_Rule_neg : Stmt := inClass (tp 16) 11
abbrev d_Rule_neg : FD := ⟨meA "Rule" "__neg__", "__neg__", "Rule.__neg__", s_Rule_neg, []⟩
abbrev s_Rule_behind : Stmt := inClass (tp 16) 13
abbrev d_Rule_behind : FD := ⟨meA "Rule" "behind", "behind", "Rule.behind", s_Rule_behind, []⟩
abbrev s_Program_init : Stmt := inClass (tp 26) 0
abbrev d_Program_init : FD := ⟨meA "Program" "__init__", "__init__", "Program.__init__", s_Program_init, [.adr (dfA "Program" "__init__")]⟩
abbrev s_Program_steps : Stmt := inClass (tp 26) 1
abbrev d_Program_steps : FD := ⟨gAd "Program" "steps", "steps", "Program.steps", s_Program_steps, []⟩
abbrev s_Program_call : Stmt := inClass (tp 26) 3
abbrev d_Program_call : FD := ⟨meA "Program" "__call__", "__call__", "Program.__call__", s_Program_call, []⟩
abbrev s_Program_invert : Stmt := inClass (tp 26) 5
abbrev d_Program_invert : FD := ⟨meA "Program" "__invert__", "__invert__", "Program.__invert__", s_Program_invert, []⟩
abbrev s_Program_passes : Stmt := inClass (tp 26) 7
abbrev d_Program_passes : FD := ⟨meA "Program" "passes", "passes", "Program.passes", s_Program_passes, []⟩
abbrev s_Word_init : Stmt := inClass (tp 31) 0
abbrev d_Word_init : FD := ⟨meA "Word" "__init__", "__init__", "Word.__init__", s_Word_init, []⟩
abbrev s_Word_bend : Stmt := inClass (tp 31) 1
abbrev d_Word_bend : FD := ⟨meA "Word" "bend", "bend", "Word.bend", s_Word_bend, []⟩
abbrev s_Word_move : Stmt := inClass (tp 31) 2
abbrev d_Word_move : FD := ⟨meA "Word" "move", "move", "Word.move", s_Word_move, []⟩
abbrev s_Word_turn : Stmt := inClass (tp 31) 3
abbrev d_Word_turn : FD := ⟨meA "Word" "turn", "turn", "Word.turn", s_Word_turn, []⟩
abbrev s_Word_step : Stmt := inClass (tp 31) 4
abbrev d_Word_step : FD := ⟨meA "Word" "step", "step", "Word.step", s_Word_step, []⟩
abbrev s_Wedge_init : Stmt := inClass (tp 53) 0
abbrev d_Wedge_init : FD := ⟨meA "Wedge" "__init__", "__init__", "Wedge.__init__", s_Wedge_init, []⟩
abbrev s_Wedge_width : Stmt := inClass (tp 53) 2
abbrev d_Wedge_width : FD := ⟨gAd "Wedge" "width", "width", "Wedge.width", s_Wedge_width, []⟩
abbrev s_Wedge_reach : Stmt := inClass (tp 53) 4
abbrev d_Wedge_reach : FD := ⟨gAd "Wedge" "reach", "reach", "Wedge.reach", s_Wedge_reach, []⟩
abbrev s_Wedge_contains : Stmt := inClass (tp 53) 5
abbrev d_Wedge_contains : FD := ⟨meA "Wedge" "__contains__", "__contains__", "Wedge.__contains__", s_Wedge_contains, []⟩
def fds : List FD := [d_is_number_rules, d_is_from, d_is_list, d_without_end, d_row_value, d_row_sum, d_row_product, d_need_point, d_is_step, d_done, d_undone, d_need_program_programs, d_inverse_modulo, d_is_bend, d_is_quarter, d_is_plain, d_plain, d_need_program_cores, d_parts_of, d_are_core_parts, d_is_core, d_need_core, d_is_number_fates, d_is_point, d_with_end, d_couples_of, d_lower_sum, d_least_height, d_least_reach, d_fate_by, d_fate, d_returning, d_l_curl, d_l_couples, d_l_sizes, d_l_small_core, d_l_box, d_l_gcd, d_l_begun, d_l_mixed, d_l_take, d_l_pick, d_l_number, d_l_is_low, d_l_step_of, d_l_program_of, d_l_led_right, d_law, d_Rule_init, d_Rule_coefficients, d_Rule_degree, d_Rule_getitem, d_Rule_rmul, d_Rule_neg, d_Rule_behind, d_Program_init, d_Program_steps, d_Program_call, d_Program_invert, d_Program_passes, d_Word_init, d_Word_bend, d_Word_move, d_Word_turn, d_Word_step, d_Wedge_init, d_Wedge_width, d_Wedge_reach, d_Wedge_contains]
def globs0 : List Str := ["is_number_rules", "is_from", "is_list", "without_end", "row_value", "row_sum", "row_product", "need_point", "is_step", "done", "undone", "need_program_programs", "inverse_modulo", "is_bend", "is_quarter", "is_plain", "plain", "need_program_cores", "parts_of", "are_core_parts", "is_core", "need_core", "is_number_fates", "is_point", "with_end", "couples_of"]
def globs1 : List Str := ["lower_sum", "least_height", "least_reach", "fate_by", "fate", "returning", "_law_curl", "_law_couples", "_law_sizes", "_law_small_core", "_law_box", "_law_gcd", "_law_begun", "_law_mixed", "_law_take", "_law_pick", "_law_number", "_law_is_low", "_law_step_of", "_law_program_of", "_law_led_right", "law", "Rule", "Program", "Word", "Wedge"]
def globs : List Str := globs0 ++ globs1
def frees : List Str := ["isinstance", "int", "bool", "str", "list", "tuple", "dict", "len", "max", "min", "sum", "abs", "all", "zip", "range", "enumerate"]
def loose0 : List Str := ["_wall", "CrossError", "BadRule", "BadPower", "BadProgram", "BadPoint", "BadCount", "TooMany", "NoCore", "is_number", "is_number_rules", "is_from", "is_list", "without_end", "Rule", "row_value", "row_sum", "row_product", "need_point", "is_step", "done", "undone", "Program", "need_program", "need_program_programs", "inverse_modulo", "Word", "is_bend", "is_quarter", "is_plain"]
def loose1 : List Str := ["plain", "need_program_cores", "parts_of", "are_core_parts", "is_core", "need_core", "MOST_POINTS", "is_number_fates", "is_point", "with_end", "couples_of", "lower_sum", "least_height", "least_reach", "Wedge", "fate_by", "fate", "returning", "_law_curl", "_law_couples", "_law_sizes", "_law_small_core", "_law_box", "_law_gcd", "_law_begun", "_law_mixed", "_law_take", "_law_pick", "_law_number", "_law_is_low"]
def loose2 : List Str := ["_law_step_of", "_law_program_of", "_law_led_right"]
def loose : List Str := loose0 ++ loose1 ++ loose2
def clss : List Str := ["Rule", "Program", "Word", "Wedge"]
def noats : List (Str × Str) := [("Rule", "own_numbers"), ("Program", "own_steps"), ("Word", "parts"), ("Word", "upper"), ("Word", "lower"), ("Wedge", "own_core"), ("Wedge", "own_width"), ("Wedge", "own_height"), ("Wedge", "own_reach")]
def mths : List (Str × Str) := [("Rule", "behind"), ("Program", "passes"), ("Word", "bend"), ("Word", "move"), ("Word", "turn"), ("Word", "step")]
def spcs : List (Str × Str) := [("Rule", "__getitem__"), ("Rule", "__mul__"), ("Rule", "__rmul__"), ("Rule", "__neg__"), ("Program", "__call__"), ("Program", "__invert__"), ("Wedge", "__contains__")]
def prps : List (Str × Str) := [("Rule", "coefficients"), ("Rule", "degree"), ("Program", "steps"), ("Wedge", "width"), ("Wedge", "reach")]
/-! what is looked at behind the top -/
abbrev Fg := PySem.W.Frag
def FD.w (K : Fg) (d : FD) : He.FnW := match K.lookup (d.ad K) with
  | some ⟨_, _, .func u, _⟩ => some (u.name, u.qualname, u.params, u.body, u.scope, u.globals, u.closure, u.builtins)
  | _ => none
def FD.v (d : FD) : He.FnW := some (d.name, d.qual, defArgs d.st, .stmts (defBody d.st), defScope d.st, mainGlobals, [], builtinsNs)
def FD.dv (K : Fg) (d : FD) : List V := d.dfl.map (He.Dv.v K)
def FD.ok (K : Fg) (d : FD) : Bool := match K.lookup (d.ad K) with
  | some ⟨_, _, .func u, _⟩ => PySem.W.codeIn K u.code d.qual && He.dflB K u.defaults (d.dv K)
  | _ => false
theorem keep_fn {K : Fg} {a : Addr} {oc : Value} {od : Option Addr} {u : FuncData} {sl : Array (Option Value)} (h : K.lookup a = some ⟨oc, od, .func u, sl⟩) : PySem.W.keepIn K (.ref a) = true := by
  unfold PySem.W.keepIn
  simp only [h]
theorem FD.of {K : Fg} {d : FD} (e : d.w K = d.v) (c : d.ok K = true) : ∃ fd, FunD K d.name d.qual (defArgs d.st) (defBody d.st) (defScope d.st) (d.dv K) [] (d.ad K) fd := by
  unfold FD.w at e
  unfold FD.ok at c
  split at e
  · rename_i oc od u sl q
    simp only [q] at c
    obtain ⟨k1, k2⟩ := Bool.and_eq_true_iff.mp c
    obtain ⟨n1, n2, n3, n4, n5, n6, n7, n8, n9, n10, n11, n12, n13, n14, n15⟩ := u
    unfold FD.v at e
    simp only [Option.some.injEq, Prod.mk.injEq] at e
    obtain ⟨rfl, rfl, rfl, rfl, rfl, rfl, rfl, rfl⟩ := e
    exact ⟨_, ⟨oc, od, n8, n9, n10, n11, n12, n13, n14, sl, rfl, q, k1, He.dflB_ok k2, .inl rfl⟩, keep_fn q⟩
  · cases e
def eO (a b : Option (Option Value)) : Bool := decide (a = b)
def spB (K : Fg) (p : Str × Str) : Bool := eO (PySem.W.findIn K (.ref (glA p.1 K)) p.2) (some (some (.ref (meA p.1 p.2 K)))) && (PySem.W.isFn K (.ref (meA p.1 p.2 K)) && PySem.W.fnIn K (meA p.1 p.2 K))
def prB (K : Fg) (p : Str × Str) : Bool := eO (PySem.W.findIn K (.ref (glA p.1 K)) p.2) (some (some (.ref (meA p.1 p.2 K)))) &&
  (eO (PySem.W.specialIn K (.ref (meA p.1 p.2 K)) "__get__") (some (some (.builtin "property.__get__"))) && (decide (PySem.W.takesIn K (.ref (meA p.1 p.2 K)) = some true) &&
    match PySem.W.recIn K (meA p.1 p.2 K) "property" with
    | some (.ref _ :: _) => true
    | _ => false))
def isB (K : Fg) (x : Str) : Bool := eO (PySem.W.findIn K (.ref (glA x K)) "__class__") (some (some (.builtin "object.__class__"))) && decide (PySem.W.mroIn K (glA x K) (.type "object") = some true)
def allB (K : Fg) : Bool :=
  globs.all (fun x => eO (PySem.W.nsIn K mainGlobals x) (some (some (.ref (glA x K))))) &&
  (frees.all (fun x => eO (PySem.W.nsIn K mainGlobals x) (some none)) &&
  ((He.Fa.int "MOST_POINTS" 8000).ok K &&
  (clss.all (fun x => (He.Fa.cls x).ok K && ((He.Fa.mkr x).ok K && isB K x)) &&
  (noats.all (fun p => (He.Fa.noat p.1 p.2).ok K) &&
  (mths.all (fun p => (He.Fa.meth p.1 p.2).ok K) &&
  (spcs.all (spB K) && (prps.all (prB K) &&
  (PySem.W.noSeq K (glA "Rule" K) && (PySem.W.selfFirst K (glA "Rule" K) && (decide (PySem.W.subIn K (.ref (glA "Rule" K)) (.type "int") = some false) &&
  (eO (PySem.W.specialIn K (.builtin "object.__class__") "__get__") (some (some (.builtin "getset_descriptor.__get__"))) && decide (PySem.W.takesIn K (.builtin "object.__class__") = some true))))))))))))
abbrev AlK : Type := Bool × List He.FnW
def obK (K : Fg) : AlK := (allB K && fds.all (FD.ok K), fds.map (FD.w K))
def vaK : AlK := (true, fds.map FD.v)
/-- what an object leads to, as far as the defs and classes go -/
def rfs (o : Obj) : List Addr := match o.data with
  | .seq its _ => its.toList.flatMap He.refV
  | .dict es _ => es.toList.flatMap fun e => He.refV e.val
  | .func u => He.refV u.code ++ He.refV u.defaults
  | .cls c => c.ns :: c.mro.flatMap He.refV
  | .fields vs => (match o.cls with
    | .type n => (match decide (n = "property") with
      | true => vs.toList.flatMap He.refV
      | false => [])
    | _ => [])
  | _ => []
/-- a walk over what can be reached; seen: a set of addresses by bits -/
def dfs (g : Addr → Option Obj) : Nat → List Addr → Nat → List Addr → List Addr
  | 0, _, _, acc => acc
  | _ + 1, [], _, acc => acc
  | n + 1, a :: r, seen, acc => HandSHeadRun.frNat a fun a => HandSHeadRun.frNat seen fun seen => match Nat.testBit seen a with
    | true => dfs g n r seen acc
    | false => match g a with
      | some o => dfs g n (rfs o ++ r) (seen ||| (1 <<< a)) (a :: acc)
      | none => dfs g n r (seen ||| (1 <<< a)) acc
def asK (g : Addr → Option Obj) : List Addr := dfs g 4000 [mainGlobals] 0 []
def obG (g : Addr → Option Obj) : AlK := obK (He.frG g (asK g))
def hookK : PySem.W.Hook where
  α := AlK
  obs := fun s => obG s.heap.get?
  val := fun _ => vaK
  says := fun _ h => ∃ K : Fg, K.In h ∧ obK K = vaK
  of := fun _ _ e => ⟨_, He.frG_in, e⟩
  keeps := fun _ _ _ ⟨K, hK, c⟩ k => ⟨K, PySem.W.Frag.In.keeps hK k, c⟩
/-- what the defs' proofs lean on -/
structure TX (K : Fg) (mg : Str → Option Value) : Prop where
  glo : ∀ x ∈ globs, mg x = some (.ref (glA x K))
  fre : ∀ x ∈ frees, mg x = none
  mostp : ∃ t, mg "MOST_POINTS" = some (.int 8000 t)
  cls : ∀ x ∈ clss, Cls K (glA x K)
  mkr : ∀ x ∈ clss, Mk K (glA x K) (meA x "__init__" K)
  cla : ∀ x ∈ clss, PySem.W.findIn K (.ref (glA x K)) "__class__" = some (some (.builtin "object.__class__")) ∧ PySem.W.mroIn K (glA x K) (.type "object") = some true
  nat : ∀ p ∈ noats, NoAttr K (glA p.1 K) p.2
  mth : ∀ p ∈ mths, Meth K (glA p.1 K) p.2 (meA p.1 p.2 K)
  spc : ∀ p ∈ spcs, PySem.W.findIn K (.ref (glA p.1 K)) p.2 = some (some (.ref (meA p.1 p.2 K))) ∧ PySem.W.isFn K (.ref (meA p.1 p.2 K)) = true ∧ PySem.W.fnIn K (meA p.1 p.2 K) = true
  prp : ∀ p ∈ prps, PropOf K (glA p.1 K) p.2 (meA p.1 p.2 K) (gAd p.1 p.2 K)
  nsq : PySem.W.noSeq K (glA "Rule" K) = true
  sfi : PySem.W.selfFirst K (glA "Rule" K) = true
  sin : PySem.W.subIn K (.ref (glA "Rule" K)) (.type "int") = some false
  hn : PySem.W.specialIn K (.builtin "object.__class__") "__get__" = some (some (.builtin "getset_descriptor.__get__"))
  htk : PySem.W.takesIn K (.builtin "object.__class__") = some true
  fn : ∀ (i : Nat) (d : FD), fds[i]? = some d → ∃ fd, FunD K d.name d.qual (defArgs d.st) (defBody d.st) (defScope d.st) (d.dv K) [] (d.ad K) fd
theorem b2 {a b : Bool} (h : (a && b) = true) : a = true ∧ b = true := Bool.and_eq_true_iff.mp h
theorem tx_of {K : Fg} {h : Heap} {mg : Str → Option Value} (X : K.In h) (G : h.Ns mainGlobals mg) (c : obK K = vaK) : TX K mg := by
  have c1 : (allB K && fds.all (FD.ok K)) = true := congrArg (fun z : AlK => z.1) c
  have c2 : fds.map (FD.w K) = fds.map FD.v := congrArg (fun z : AlK => z.2) c
  obtain ⟨c1, cf⟩ := b2 c1
  obtain ⟨h1, c1⟩ := b2 c1
  obtain ⟨h2, c1⟩ := b2 c1
  obtain ⟨h3, c1⟩ := b2 c1
  obtain ⟨h4, c1⟩ := b2 c1
  obtain ⟨h5, c1⟩ := b2 c1
  obtain ⟨h6, c1⟩ := b2 c1
  obtain ⟨h7, c1⟩ := b2 c1
  obtain ⟨h8, c1⟩ := b2 c1
  obtain ⟨h9, c1⟩ := b2 c1
  obtain ⟨h10, c1⟩ := b2 c1
  obtain ⟨h11, c1⟩ := b2 c1
  obtain ⟨h12, h13⟩ := b2 c1
  refine { glo := fun x hx => PySem.W.mg_of X G (of_decide_eq_true (List.all_eq_true.mp h1 x hx)), fre := fun x hx => PySem.W.mg_none_of X G (of_decide_eq_true (List.all_eq_true.mp h2 x hx)), mostp := He.int_ok X G h3,
           cls := fun x hx => He.cls_ok (b2 (List.all_eq_true.mp h4 x hx)).1, mkr := fun x hx => He.mkr_ok (b2 (b2 (List.all_eq_true.mp h4 x hx)).2).1,
           cla := fun x hx => ?_, nat := fun p hp => He.noat_ok (List.all_eq_true.mp h5 p hp), mth := fun p hp => He.meth_ok (List.all_eq_true.mp h6 p hp), spc := fun p hp => ?_, prp := fun p hp => ?_,
           nsq := h9, sfi := h10, sin := of_decide_eq_true h11, hn := of_decide_eq_true h12, htk := of_decide_eq_true h13, fn := fun i d hd => ?_ }
  · obtain ⟨a, b⟩ := b2 (b2 (b2 (List.all_eq_true.mp h4 x hx)).2).2
    exact ⟨of_decide_eq_true a, of_decide_eq_true b⟩
  · obtain ⟨a, b⟩ := b2 (List.all_eq_true.mp h7 p hp)
    obtain ⟨b, d⟩ := b2 b
    exact ⟨of_decide_eq_true a, b, d⟩
  · obtain ⟨a, b⟩ := b2 (List.all_eq_true.mp h8 p hp)
    obtain ⟨b, d⟩ := b2 b
    obtain ⟨d, e⟩ := b2 d
    refine ⟨of_decide_eq_true a, of_decide_eq_true b, of_decide_eq_true d, ?_⟩
    unfold gAd
    unfold meA at e
    show ∃ rest, PySem.W.recIn K (He.ma K (He.ga K p.1) p.2) "property" = some (.ref (match PySem.W.recIn K (He.ma K (He.ga K p.1) p.2) "property" with
      | some (.ref g :: _) => g
      | _ => 0) :: rest)
    split at e
    · rename_i g r q
      rw [q]
      exact ⟨r, rfl⟩
    · cases e
  · have z := congrArg (fun l => l[i]?) c2
    simp only [List.getElem?_map, hd, Option.map_some] at z
    have m : d ∈ fds := List.mem_of_getElem? hd
    exact FD.of (Option.some.inj z) (List.all_eq_true.mp cf d m)
/-! the run of the top -/
abbrev R5 : PySem.W.OpenRow := PySem.W.OpenLaw.row PySem.Challenge.rw_crossadds_k54_whole_fates_and_passes
abbrev q5 : PySem.Program := PySem.W.view R5.prog [73]
def ob5 (s : PySem.W.SharedT) : AlK := obG (HandSHeadRun.getT s)
theorem ob5_eq (s : PySem.W.SharedT) : ob5 s = hookK.obs s.abs := by
  have e : HandSHeadRun.getT s = s.abs.heap.get? := funext (HandSHeadRun.getT_eq s)
  show obG (HandSHeadRun.getT s) = obG s.abs.heap.get?
  rw [e]
end K5
set_option Elab.async false
set_option linter.all false
set_option maxRecDepth 100000
set_option maxHeartbeats 2000000
namespace K5
open PySem PySem.Spec PyProof.Rows L2
/-! enumerate over a tuple -/
section
variable {prog : Program} {w : World} {A : Around} {E : Value → Shared → Prop} {s : Shared}
theorem enum_new1 {v : Value} {o : Obj} {Hc : Heap → Prop} (B : Begins v o Hc) :
    Meets (Builtin.«enumerate.__new__» ⟨[.type "enumerate", v], []⟩) (fun _ R s => Hc s.heap ∧ R (.ok (.ret (.ref (s.heap.push o).objs.size)))
      { s with heap := (s.heap.push o).push { cls := .type "enumerate", data := .fields #[.none, .bool false, .ref s.heap.objs.size, rawInt 0, .none, .none] } }) :=
  .of_wp fun prog w A R s h => by
    obtain ⟨hp, g, d, tk, os⟩ := s
    obtain ⟨hc, h⟩ := h
    have hsub := sub_enumerate
    have q1 : ∀ {A' : Around} {E : Value → Shared → Prop} {Q : Value → Shared → Prop}, Q (.ref hp.objs.size) ⟨hp.push o, g, d, tk, os⟩ → wpAny (model prog w) A' (pyIter v) Q E ⟨hp, g, d, tk, os⟩ := fun q => B.iter prog w _ _ ⟨hp, g, d, tk, os⟩ _ hc q
    wp_walk using q1
    refine wpAny_stack_any fun st => wpAny_pure ?_
    split
    · rename_i c _ _ _ _ _
      cases (c == Value.type "enumerate")
      · wp_walk using q1
        exact ⟨_, rfl, h⟩
      · wp_walk using q1
        exact ⟨_, rfl, h⟩
    · wp_walk using q1
      exact ⟨_, rfl, h⟩
theorem enum_call1 {v : Value} {o : Obj} {Hc : Heap → Prop} {Q : Value → Shared → Prop} (B : Begins v o Hc) (h1 : Hc s.heap)
    (h : ∀ h', IsEnum h' (s.heap.objs.size + 1) s.heap.objs.size 0 .none → h'.get? s.heap.objs.size = some o → (∀ b u, s.heap.get? b = some u → h'.get? b = some u) → Q (.ref (s.heap.objs.size + 1)) { s with heap := h' }) :
    wpAny (model prog w) A (call (.type "enumerate") [v]) Q E s := by
  refine callType_new F.called_enumerate (by decide) (F.typeCall_enumerate_1 _) (F.newCall_enumerate_1 _) (fun obj => F.args_object_init_2 obj _) F.entry_enumerate_new (enum_new1 B) ⟨h1, ?_⟩
  have hz : (s.heap.push o).objs.size = s.heap.objs.size + 1 := Heap.size_push ..
  show _ ∧ _
  rw [hz]
  have he : IsEnum ((s.heap.push o).push { cls := .type "enumerate", data := .fields #[.none, .bool false, .ref s.heap.objs.size, rawInt 0, .none, .none] }) (s.heap.objs.size + 1) s.heap.objs.size 0 .none := by
    have z := Heap.get?_push_size (s.heap.push o) (o := { cls := .type "enumerate", data := .fields #[.none, .bool false, .ref s.heap.objs.size, rawInt 0, .none, .none] }) rfl
    rw [hz] at z
    exact z
  exact ⟨⟨_, he, rfl⟩, h _ he (Heap.get?_push_of_some _ (Heap.get?_push_size _ B.free)) fun b u x => Heap.get?_push_of_some _ (Heap.get?_push_of_some _ x)⟩
theorem enum_end_ge {e it t : Addr} {k : Int} {i : Nat} {items : Array Value} {old : Value} {Q : Option Value → Shared → Prop} (hh : A.handled = none) (he : IsEnum s.heap e it k old) (hit : s.heap.IsTupleIter it t i) (ht : s.heap.IsTuple t items) (hx : items[i]? = none)
    (hQ : ∀ h', Heap.ExtBut it s.heap h' → Q none { s with heap := h' }) : wpAny (model prog w) A (pyNext (.ref e)) Q E s := by
  have hT : s.TypeIs (.ref e) "enumerate" := ⟨_, he, rfl⟩
  have body : wpAny (model prog w) A.in1 (Builtin.SmallTypes.nextOf (.ref it)) (fun _ _ => False) (fun x s' => ∃ h', Heap.ExtBut it s.heap h' ∧ s' = { s with heap := h' } ∧ ∃ b o, x = .ref b ∧ h'.get? b = some o ∧ o.cls = .type "StopIteration") s :=
    wpAny_nextOf_tuple_end hh hit ht hx fun h' b x y => ⟨h', x, rfl, b, y.choose, rfl, y.choose_spec⟩
  unfold pyNext
  refine wpAny_bind (wpAny_attempt ?_)
  refine wpAny_callSpecial?_slot (name := Str.ofString "__next__") hT F.slot_enumerate_next ?_
  refine wpAny_call_entry F.slot_enumerate_next hT F.entry_enumerate_next ?_ (F.args_enumerate_next_1 _)
  show wpAny _ _ (field (.ref e) 2 >>= _) _ _ _
  refine wpAny_bind (wpAny_field he rfl (x := .ref it) rfl (wpAny_bind ?_))
  refine wpAny_mono body (fun _ _ z => z.elim) fun x s' ⟨h', hx1, es, b, o, ex, ho, hc⟩ => ?_
  subst es ex
  refine wpAny_bind (wpAny_isInstance (T := "StopIteration") (b := true) ⟨o, ho, hc⟩ isSubtype_stop ?_)
  exact wpAny_pure (hQ _ hx1)
end
/-- the tuple at a, each item in a new pair with its place -/
def ItE (K : Fg) (a : Addr) : It where
  go := fun i H => ∃ (xs : List V) (x : V), SqT K H a xs ∧ xs[i]? = some x
  yld := fun i H v H' => ∃ T x, v = .ref T ∧ H T = none ∧ H' = upd H T (.tup [.int (i : Nat), x]) ∧ ∀ xs, SqT K H a xs → xs[i]? = some x
  stop := fun i H => ∃ xs : List V, SqT K H a xs ∧ xs.length ≤ i
theorem tup_ne {h : Heap} {a b : Addr} {its : Array Value} {o : Obj} {n : String} (ht : h.IsTuple a its) (hb : h.get? b = some o) (hc : o.cls = .type n) (hn : n ≠ "tuple") : a ≠ b := by
  rintro rfl
  obtain ⟨u, hu, c, _⟩ := ht
  rw [hu] at hb
  cases hb
  rw [c] at hc
  injection hc with z
  exact hn z.symm
theorem turn_enT {P : Program} {w : World} {K : Fg} {elts : List Expr} {kk : Nat} {tpos : Pos} (a e it : Addr) :
    Turn P w K (.Tuple elts kk tpos) (ItE K a) [e, it] e (fun i h => (∃ old, IsEnum h e it ((i : Nat) : Int) old) ∧ h.IsTupleIter it a i ∧ e ≠ it) where
  mem := by simp
  obj := fun i h st b hb => by
    obtain ⟨⟨old, he⟩, ⟨o, ho, hc, hd⟩, _⟩ := st
    have e' : b = e ∨ b = it := by simpa using hb
    rcases e' with z | z
    · subst z; exact ⟨_, he, fun v q => nomatch q⟩
    · subst z; exact ⟨o, ho, fun v q => by rw [hd] at q; cases q⟩
  keep := fun i h h' st k => by
    obtain ⟨⟨old, he⟩, hi, hne⟩ := st
    exact ⟨⟨old, k e (by simp) _ he⟩, hi.at fun o q => k it (by simp) o q, hne⟩
  item := by
    intro X hP hw hK hc i pins s σ H E I hf st hg
    subst hP hw hK
    obtain ⟨⟨old, he⟩, hit, hne⟩ := st
    obtain ⟨xs, x, hq, hx⟩ := hg
    obtain ⟨its, rv, p, hz⟩ := I.tuple hq
    obtain ⟨u, hu, ru⟩ := rv.get hx
    have p' : s.heap.IsTuple a its.toArray := p
    obtain ⟨oi, hoi, hci, hdi⟩ := id hit
    have nae : a ≠ e := tup_ne p' he rfl (by decide)
    have nai : a ≠ it := tup_ne p' hoi hci (by decide)
    have hel : e < s.heap.objs.size := Heap.lt_size he
    have hil : it < s.heap.objs.size := Heap.lt_size hoi
    have lti : i < its.toArray.size := by
      have := (List.getElem?_eq_some_iff.mp hu).1
      simpa using this
    have D := Draws.tuple (prog := X.prog) (w := X.w) (A := X.A.in1) (I.ok.hd hc) it a nai its.toArray
    refine wpAny_pyNext_enum_itemD D he ⟨hit, p'⟩ lti hne (by simp [hne, Ne.symm nae]) fun x2 h' tk hP ho hst hT hsz hk => ?_
    have ex : x2 = u := by
      have z : its.toArray[i]? = some u := by simpa using hu
      exact Option.some.inj (hP.symm.trans z)
    rw [ex] at ho hT
    refine ⟨_, rfl, wpAny_letOwnedTupleGo_enum (s := { s with heap := h', toks := tk + 1 }) ho fun h2 he2 sb => ?_⟩
    have hT2 : h2.get? s.heap.objs.size = some { cls := .type "tuple", data := .seq #[.int i tk, u] } := (sb.2 _ (Nat.ne_of_gt hel)).trans hT
    have new : ObjOk X.prog X.w (upd H s.heap.objs.size (.tup [.int (i : Nat), x])) h2 s.heap.objs.size (.tup [.int (i : Nat), x]) :=
      ⟨by show 2 ≤ sizeLine; decide, [.int i tk, u], .cons ⟨_, rfl⟩ (.cons ru .nil), ⟨_, hT2, rfl, _, rfl⟩⟩
    have I1 : Inv X pins σ (upd H s.heap.objs.size (.tup [.int (i : Nat), x])) { s with heap := h2, toks := tk + 1 } :=
      I.turnedNew (ch := [e, it]) (fun b ob hb q => (sb.2 b (fun z => hb (by simp [z]))).trans (hk b ob (fun z => hb (by simp [z])) (fun z => hb (by simp [z])) q)) hf (Nat.le_refl _) new
    refine ⟨.ref s.heap.objs.size, _, I1, rfl, ⟨_, x, rfl, I.hok.fresh (Nat.le_refl _), rfl, fun ys hy => by rw [I.tuple_inj hy hq]; exact hx⟩, ⟨⟨u, ?_⟩, hst.1.at fun o q => (sb.2 it (Ne.symm hne)).trans q, hne⟩, fun b hb => ?_⟩
    · have e1 : ((i + 1 : Nat) : Int) = (i : Int) + 1 := by omega
      rw [e1]
      exact he2
    · have hb' : b < s.heap.objs.size := by
        have e' : b = e ∨ b = it := by simpa using hb
        rcases e' with z | z
        · rw [z]; exact hel
        · rw [z]; exact hil
      rw [upd_ne (Nat.ne_of_lt hb')]
      exact (hf b hb).1
  done := by
    intro X hP hw hK hc i pins s σ H E I hf st hg
    subst hP hw hK
    obtain ⟨⟨old, he⟩, hit, hne⟩ := st
    obtain ⟨xs, hq, hx⟩ := hg
    obtain ⟨its, rv, p, hz⟩ := I.tuple hq
    have p' : s.heap.IsTuple a its.toArray := p
    obtain ⟨oi, hoi, hci, hdi⟩ := id hit
    have nai : a ≠ it := tup_ne p' hoi hci (by decide)
    obtain ⟨f0, f1, f2, f3, f4, f5⟩ := hf it (by simp)
    have hl := rv.length
    exact enum_end_ge (I.ok.hd hc) he hit p' (by simp only [Array.getElem?_eq_none_iff, List.size_toArray]; omega) fun h' eb => ⟨rfl, I.turned (t' := s.toks) (fun b o hb q => eb b o hb q) f0 f1 f3 f4 f5⟩
  self := fun A i s Q E st h => let ⟨⟨_, he⟩, _⟩ := st; wpAny_pyIter_enum he h
def iEnT (K : Fg) (ta : TA) : TI := fun σ H R => ta σ H fun vs H1 => ∃ a xs, vs = [.ref a] ∧ ((SqL K H1 a xs ∧ R (Ite K a) H1) ∨ (SqT K H1 a xs ∧ R (ItE K a) H1))
/-- for i, x in enumerate(xs), xs a list or a tuple -/
theorem pi_enT {X : Cx} {e : Expr} {ta : TA} {p pos tpos : Pos} {elts : List Expr} {kk : Nat} (hg : Gl X "enumerate") (hm : X.mg "enumerate" = none) (ha : PA X [e] ta) (hs : starEach [e] X.env = [(false, eval e X.env)] := by rfl) :
    PI X (.Tuple elts kk tpos) (.Call (.Name "enumerate" p) [e] [] pos) (iEnT X.K ta) := by
  refine ⟨fun pins s σ H R I h => ?_⟩
  refine Call_ (ld_blt I hg hm boot_enumerate (PyProof.Rows.callWith_type1 ?_ hs rfl))
  refine thn (ha.run pos pins s σ H _ I h) fun us s1 ⟨vs, H1, I1, r1, a, xs, ex, q⟩ => ?_
  subst ex
  obtain ⟨u, rfl, ru⟩ := vals1 r1
  cases ru
  have two : ∀ b, b ∈ [s1.heap.objs.size + 1, s1.heap.objs.size] → FpOk X pins H1 b := fun b hb => by
    have hle : s1.heap.objs.size ≤ b := by
      simp at hb
      omega
    exact I1.fpOk hle (I1.hok.fresh hle)
  rcases q with ⟨hq, q⟩ | ⟨hq, q⟩
  · obtain ⟨its, rv, p', hz⟩ := I1.list hq
    refine call_enumerate_list p'.isList fun h' he hit hsz hk => wpAny_pyIter_enum he ?_
    exact ⟨_, _, _, _, H1, rfl, I1.kept (t' := s1.toks) hk, turn_enum a (s1.heap.objs.size + 1) s1.heap.objs.size, ⟨⟨.none, he⟩, hit, Nat.succ_ne_self _⟩, two, q⟩
  · obtain ⟨its, rv, p', hz⟩ := I1.tuple hq
    have p2 : s1.heap.IsTuple a its.toArray := p'
    refine enum_call1 (begins_tuple a its.toArray) p2 fun h' he hit hk => wpAny_pyIter_enum he ?_
    exact ⟨_, _, _, _, H1, rfl, I1.kept (t' := s1.toks) hk, turn_enT a (s1.heap.objs.size + 1) s1.heap.objs.size, ⟨⟨.none, he⟩, ⟨_, hit, rfl, rfl⟩, Nat.succ_ne_self _⟩, two, q⟩
end K5
set_option Elab.async false
set_option linter.all false
set_option maxRecDepth 100000
set_option maxHeartbeats 2000000
namespace K5
open PySem PySem.Spec PyProof.Rows L2
/-! t[::-1] of a tuple -/
theorem rev_places (n : Nat) : Builtin.Slice.slicePlaces ((n : Int) - 1) (-1) (-1) = n := by
  unfold Builtin.Slice.slicePlaces
  have h1 : ¬ ((-1 : Int) > 0) := by omega
  simp only [h1, if_false]
  have h2 : -(-1 : Int) = 1 := by omega
  rw [h2, Int.ediv_one]
  split <;> omega
theorem fm_congr {α β : Type} {f g : α → Option β} : ∀ {l : List α}, (∀ k ∈ l, f k = g k) → l.filterMap f = l.filterMap g
  | [], _ => rfl
  | a :: r, h => by
    rw [List.filterMap_cons, List.filterMap_cons, h a List.mem_cons_self, fm_congr fun k hk => h k (List.mem_cons_of_mem _ hk)]
theorem rev_pick (l : List Value) : ((List.range l.length).filterMap fun (k : Nat) => l[(((l.length : Nat) : Int) - 1 + (k : Int) * (-1)).toNat]?) = l.reverse := by
  refine List.ext_getElem? fun i => ?_
  have e : ∀ k, k < l.length → l[(((l.length : Nat) : Int) - 1 + (k : Int) * (-1)).toNat]? = some (l.reverse.getD k .none) := fun k hk => by
    have : (((l.length : Nat) : Int) - 1 + (k : Int) * (-1)).toNat = l.length - 1 - k := by omega
    rw [this, List.getElem?_eq_getElem (by omega), List.getD_eq_getElem?_getD, List.getElem?_reverse hk, List.getElem?_eq_getElem (by omega)]
    rfl
  have m : ((List.range l.length).filterMap fun (k : Nat) => l[(((l.length : Nat) : Int) - 1 + (k : Int) * (-1)).toNat]?) = (List.range l.length).map fun k => l.reverse.getD k .none := by
    rw [← List.filterMap_eq_map]
    exact fm_congr fun k hk => e k (List.mem_range.mp hk)
  rw [m]
  by_cases hi : i < l.length
  · rw [List.getElem?_map, List.getElem?_range hi, Option.map_some, List.getD_eq_getElem?_getD, List.getElem?_eq_getElem (by simpa using hi)]
    rfl
  · rw [List.getElem?_eq_none (by simpa using Nat.le_of_not_lt hi), List.getElem?_eq_none (by simpa using Nat.le_of_not_lt hi)]
section
variable {prog : Program} {w : World} {A : Around} {E : Value → Shared → Prop} {s : Shared}
theorem item_rev {t sl : Addr} {items : Array Value} {vl vu vs : Value} {Q : Value → Shared → Prop} (ht : IsTup s.heap t items) (hs : s.heap.IsSliceOf sl vl vu vs) (pl : IsPart vl none) (pu : IsPart vu none) (ps : IsPart vs (some (-1)))
    (h : Q (.ref s.heap.objs.size) { s with heap := s.heap.push { cls := .type "tuple", data := .seq items.toList.reverse.toArray } }) (hsz : items.size ≤ sizeLine) : wpAny (model prog w) A (getItem (.ref t) (.ref sl)) Q E s := by
  have hok : sizeOk (.seq items.toList.reverse.toArray) := by
    show items.toList.reverse.toArray.size ≤ sizeLine
    rw [List.size_toArray, List.length_reverse, Array.length_toList]
    exact hsz
  obtain ⟨os, hos, hcs, hds⟩ := id hs
  have hTs : s.TypeIs (.ref sl) "slice" := ⟨os, hos, hcs⟩
  unfold getItem
  refine wpAny_holding (wpAny_bind (wpAny_sequenceKey ht.typeIs (by decide) ?_))
  refine wpAny_bind (wpAny_callSpecial?_slot (name := Str.ofString "__getitem__") ht.typeIs PyProof.Rows.slot_tuple_getitem ?_)
  refine wpAny_call_entry PyProof.Rows.slot_tuple_getitem ht.typeIs PyProof.Rows.entry_tuple_getitem ?_ (PyProof.Rows.args_tuple_getitem _ _)
  show wpAny _ _ (Builtin.Tuple.tupleItemsOf (.ref t) >>= _) _ _ s
  refine wpAny_bind (tupleItemsOf_ ht (wpAny_bind (wpAny_typeOf hTs ?_)))
  rw [if_pos (by decide)]
  refine wpAny_bind ?_
  · unfold Builtin.Slice.sliceApplied Builtin.Slice.sliceFields
    refine wpAny_bind (wpAny_bind (wpAny_field hos hds (x := vl) rfl ?_))
    refine wpAny_bind (wpAny_field hos hds (x := vu) rfl (wpAny_bind (wpAny_field hos hds (x := vs) rfl (wpAny_pure ?_))))
    refine wpAny_bind (HT.slicePart_ ps ?_)
    show wpAny _ _ (if ((-1 : Int) == 0) = true then _ else _) _ _ s
    rw [if_neg (by decide)]
    refine wpAny_bind (HT.slicePart_ pl (wpAny_bind (HT.slicePart_ pu (wpAny_bind (wpAny_pure ?_)))))
    show wpAny _ _ (pure (((items.size : Nat) : Int) - 1, (-1 : Int), Builtin.Slice.slicePlaces (((items.size : Nat) : Int) - 1) (-1) (-1))) _ _ s
    rw [rev_places]
    refine wpAny_pure ?_
    have hno : ¬ (((((items.size : Nat) : Int) - 1) == 0 && (-1 : Int) == 1 && items.size == items.size) = true) := by
      rw [show ((-1 : Int) == 1) = false from rfl, Bool.and_false, Bool.false_and]
      exact Bool.false_ne_true
    show wpAny _ _ (if ((((items.size : Nat) : Int) - 1) == 0 && (-1 : Int) == 1 && items.size == items.size) = true then _ else _) _ _ s
    rw [if_neg hno]
    have e : ((List.range items.size).filterMap fun (k : Nat) => items[(((items.size : Nat) : Int) - 1 + (k : Int) * (-1)).toNat]?).toArray = items.toList.reverse.toArray := by
      have z := rev_pick items.toList
      rw [Array.length_toList] at z
      rw [← z]
      simp only [Array.getElem?_toList]
    rw [e]
    exact wpAny_bind (m := Builtin.Tuple.tupleExact _) (wpAny_newObj_type (wpAny_pure ⟨_, rfl, wpAny_pure h⟩) hok)
end
def tRevT (K : Fg) (te : TE) : TE := fun σ H Q => te σ H fun x H1 => ∃ a xs, x = .ref a ∧ SqT K H1 a xs ∧ ∀ p, H1 p = none → Q (.ref p) (upd H1 p (.tup xs.reverse))
theorem pe_revT {X : Cx} {e : Expr} {te : TE} {k : Nat} {p1 p2 p3 pos : Pos} (he : PE X e te) : PE X (.Subscript e (.Slice none none (some (.UnaryOp .USub (.Constant (.int 1) k p1) p2)) p3) pos) (tRevT X.K te) := by
  refine ⟨fun pins s σ H Q I h => ?_⟩
  refine Subscript_ (thn (he.run pins s σ H _ I h) fun v s1 ⟨x, H1, I1, r1, a, xs, ex, hx, q⟩ => ?_)
  subst ex
  cases r1
  have one : PO X (some (.UnaryOp .USub (.Constant (.int 1) k p1) p2)) (tPart (tUn (rU fun i => .int (-i)) (tC (.int 1)))) := po_some (pe_un un_neg pe_int)
  refine wpAny_Slice (thn (po_none.run pins s1 σ H1 (fun o H2 => o = none ∧ H2 = H1) I1 ⟨rfl, rfl⟩) fun vl s2 z2 => ?_)
  obtain ⟨l, H2, I2, pl, el, e2⟩ := z2
  subst el e2
  refine thn (po_none.run pins s2 σ H2 (fun o H3 => o = none ∧ H3 = H2) I2 ⟨rfl, rfl⟩) fun vu s3 z3 => ?_
  obtain ⟨u, H3, I3, pu, eu, e3⟩ := z3
  subst eu e3
  refine thn (one.run pins s3 σ H3 (fun o H4 => o = some (-1) ∧ H4 = H3) I3 ⟨1, rfl, -1, rfl, rfl, rfl⟩) fun vs s4 z4 => ?_
  obtain ⟨o, H4, I4, ps, eo, e4⟩ := z4
  subst eo e4
  have I5 : Inv X pins σ H4 { s4 with heap := s4.heap.push { cls := .type "slice", data := .fields #[vl, vu, vs] } } := I4.kept (t' := s4.toks) fun b ob q => Heap.get?_push_of_some _ q
  obtain ⟨its, r, ht, hz⟩ := I5.tuple hx
  have hlen := r.length
  show wpAny (model X.prog X.w) X.A (subscriptTail e _ (.ref a) (.ref s4.heap.objs.size)) (EP X pins σ Q) X.xe _
  refine tail_any (ops := [.ref a, .ref s4.heap.objs.size]) ht.typeIs PyProof.Rows.slot_tuple_getitem.lookup ?_ (by with_unfolding_all rfl)
  refine item_rev ht (Heap.IsSliceOf.new _ vl vu vs) pl pu ps ?_ (by rw [List.size_toArray]; omega)
  refine ⟨.ref _, _, I5.laid (t' := s4.toks) (o := .tup xs.reverse) (fun b ob q => Heap.get?_push_of_some _ q) (Nat.le_refl _) ?_, rfl, q _ (I5.hok.fresh (Nat.le_refl _))⟩
  exact ⟨by rw [List.length_reverse]; exact hz, its.reverse, r.reverse, by rw [← (show its.toArray.toList.reverse.toArray = its.reverse.toArray by simp)]; exact IsTup.new _ _⟩
end K5
set_option Elab.async false
set_option linter.all false
set_option maxRecDepth 100000
set_option maxHeartbeats 2000000
namespace K5
open PySem PySem.Spec PyProof.Rows L2 PySem.W
/-! operators of own classes -/
theorem refV (a : Addr) : L2.RelV (.ref a) (Value.ref a) := rfl
section
variable {X : Cx} {CX : CXT} {C g : Addr} {k : Nat} {sp : Sp} {E : XK}
/-- what stands at an instance -/
theorem inst_at {pins : List (Addr × Obj)} {σ : L2.St} {H : Hp} {s : Shared} {a dx : Addr} {fs : List (Str × V)} (I : Inv X pins σ H s) (ea : H a = some (.ins C dx fs)) : ∃ od, PySem.W.InstAt s.heap a (PySem.W.instObj C dx) C (some od) := by
  obtain ⟨mA, O, _⟩ := ins_get I.hok ea
  obtain ⟨od, J, _⟩ := O.look
  exact ⟨od, J⟩
theorem run_in {pins : List (Addr × Obj)} {σ : L2.St} {H : Hp} {s : Shared} {Q : VK} {us : List Value} {vs : List V} (F : FnR X.prog X.w X.K X.mg X.base CX k g sp) (hr : Room k X.A) (hx : Passes CX X E) (I : Inv X pins σ H s) (r : Vals vs us) (h : sp vs H Q E) :
    wpAny (model X.prog X.w) X.A (call (.ref g) us) (EP X pins σ Q) X.xe s := wpAny_call (run_fnR F hr hx I r h)
def tIxO (C : Addr) (sp : Sp) (E : XK) (ta tb : TE) : TE := fun σ H Q => ta σ H fun x H1 => tb σ H1 fun y H2 => ∃ a dx fs, x = .ref a ∧ H2 a = some (.ins C dx fs) ∧ sp [.ref a, y] H2 Q E
/-- o[i] by the class's own word -/
theorem pe_ixO {a b : Expr} {ta tb : TE} {pos : Pos} (hs : findIn X.K (.ref C) "__getitem__" = some (some (.ref g)) ∧ isFn X.K (.ref g) = true ∧ fnIn X.K g = true) (F : FnR X.prog X.w X.K X.mg X.base CX k g sp) (hr : Room (k + 1) X.A) (hx : Passes CX X E)
    (ha : PE X a ta) (hb : PE X b tb) (hsl : ∀ o i, subscripted b true o i = runValue (.builtin "lifetime.subscript" ⟨[o, i], []⟩) := by intro _ _; rfl) : PE X (.Subscript a b pos) (tIxO C sp E ta tb) := by
  refine ⟨fun pins s σ H Q I h => ?_⟩
  refine Subscript_ (binT ha hb I h fun v u s2 x y H2 I2 rx ry q => ?_)
  obtain ⟨p, dx, fs, rfl, ea, q⟩ := q
  obtain rfl : v = Value.ref p := rx
  obtain ⟨od, J⟩ := inst_at I2 ea
  obtain ⟨m, hF⟩ := I2.fr
  refine sub_K hF I2.ok.mod.kin J hs.1 hs.2.2 hs.2.1 ?_ (hsl _ _)
  refine wpAny_call (codeAny_mono (F X.A.in1 X.stack s2 H2 [.ref p, u] [.ref p, y] Q E hr.in1 I2.env0.in1 (.cons (refV _) (.cons ry .nil)) q) fun r s' hq => ?_)
  cases r with
  | error e => exact hx pins σ H2 s2 e s' I2 hq
  | ok fl =>
    cases fl with
    | ret u' => exact I2.after hq
    | next => exact False.elim hq
    | brk => exact False.elim hq
    | cont => exact False.elim hq
def rNotInO (C : Addr) (sp : Sp) (E : XK) : R2 := fun x y H Q => ∃ a dx fs, y = .ref a ∧ H a = some (.ins C dx fs) ∧ sp [.ref a, x] H (fun v H' => ∃ b, v = .bl b ∧ Q (.bl (!b)) H') E
theorem op_notInO (hs : findIn X.K (.ref C) "__contains__" = some (some (.ref g)) ∧ isFn X.K (.ref g) = true ∧ fnIn X.K g = true) (F : FnR X.prog X.w X.K X.mg X.base CX k g sp) (hr : Room k X.A) (hx : Passes CX X E) : OpR X (compareOp .NotIn) (rNotInO C sp E) := by
  intro pins s σ H x y v u Q I rx ry h
  obtain ⟨a, dx, fs, rfl, ea, q⟩ := h
  obtain rfl : u = Value.ref a := ry
  obtain ⟨od, J⟩ := inst_at I ea
  obtain ⟨m, hF⟩ := I.fr
  refine notIn_K hF I.ok.mod.kin J hs.1 hs.2.1 (thn (run_in F hr hx I (.cons (refV _) (.cons rx .nil)) q) fun z s' ⟨zv, H', I', rz, b, ez, q'⟩ => ?_)
  subst ez
  obtain rfl : z = Value.bool b := rz
  exact wpAny_truthy_bool ⟨.bl (!b), H', I', rfl, q'⟩
def rUnO (C : Addr) (sp : Sp) (E : XK) : V → Hp → VK → Prop := fun x H Q => ∃ a dx fs, x = .ref a ∧ H a = some (.ins C dx fs) ∧ sp [.ref a] H Q E
theorem un_negO (hs : findIn X.K (.ref C) "__neg__" = some (some (.ref g)) ∧ isFn X.K (.ref g) = true ∧ fnIn X.K g = true) (F : FnR X.prog X.w X.K X.mg X.base CX k g sp) (hr : Room k X.A) (hx : Passes CX X E) : UnR X (unaryOp .USub) (rUnO C sp E) := by
  intro pins s σ H x v Q I rx h
  obtain ⟨a, dx, fs, rfl, ea, q⟩ := h
  obtain rfl : v = Value.ref a := rx
  obtain ⟨od, J⟩ := inst_at I ea
  obtain ⟨m, hF⟩ := I.fr
  exact ksp_neg hF I.ok.mod.kin J hs.1 hs.2.1 (run_in F hr hx I (.cons (refV _) .nil) q)
theorem un_invO (hs : findIn X.K (.ref C) "__invert__" = some (some (.ref g)) ∧ isFn X.K (.ref g) = true ∧ fnIn X.K g = true) (F : FnR X.prog X.w X.K X.mg X.base CX k g sp) (hr : Room k X.A) (hx : Passes CX X E) : UnR X (unaryOp .Invert) (rUnO C sp E) := by
  intro pins s σ H x v Q I rx h
  obtain ⟨a, dx, fs, rfl, ea, q⟩ := h
  obtain rfl : v = Value.ref a := rx
  obtain ⟨od, J⟩ := inst_at I ea
  obtain ⟨m, hF⟩ := I.fr
  exact ksp_inv hF I.ok.mod.kin J hs.1 hs.2.1 (run_in F hr hx I (.cons (refV _) .nil) q)
end
theorem mul_no (i : Int) (t : Tok) (x : Addr) : GivesAt (fun s => ∃ o, s.heap.get? x = some o ∧ o.data = .plain) (Builtin.«int.__mul__» ⟨[.int i t, .ref x], []⟩) (.val Value.notImplemented) := by
  intro prog w A R s hs h
  obtain ⟨⟨oc, od, odt, osl⟩, ho, hd⟩ := hs
  obtain ⟨hp, g, d, tk, os⟩ := s
  simp only at hd
  subst hd
  wp_walk using AutoSeq1.wpAny_loadPart' ho, wpAny_load ho
  exact h
theorem relV_no {v : V} {u : Value} (r : L2.RelV v u) : u ≠ Value.notImplemented := by
  intro z
  subst z
  cases v <;> first
    | (obtain ⟨t, e⟩ := r; cases e)
    | cases r
/-- i * o, o an instance of a class that says how -/
def rMulO (C : Addr) (sp : Sp) (E : XK) : R2 := fun x y H Q => ∃ i a dx fs, x = .int i ∧ y = .ref a ∧ H a = some (.ins C dx fs) ∧ sp [.ref a, .int i] H Q E
theorem op_rmulO {X : Cx} {CX : CXT} {C g f : Addr} {k : Nat} {sp : Sp} {E : XK} (hm : findIn X.K (.ref C) "__mul__" = some (some (.ref f))) (hs : findIn X.K (.ref C) "__rmul__" = some (some (.ref g)) ∧ isFn X.K (.ref g) = true ∧ fnIn X.K g = true)
    (hc : selfFirst X.K C = true) (hsub : subIn X.K (.ref C) (.type "int") = some false) (F : FnR X.prog X.w X.K X.mg X.base CX k g sp) (hr : Room k X.A) (hx : Passes CX X E) : OpR X (binaryOp .Mult) (rMulO C sp E) := by
  intro pins s σ H x y v u Q I rx ry h
  obtain ⟨i, a, dx, fs, rfl, rfl, ea, q⟩ := h
  obtain rfl : u = Value.ref a := ry
  obtain ⟨t, rfl⟩ := rx
  obtain ⟨od, J⟩ := inst_at I ea
  obtain ⟨cd, rest, hcd, hmro⟩ := ksp_first hc
  have Xk := I.kIn
  have run := run_in (us := [.ref a, .int i t]) F hr hx I (.cons (refV _) (.cons (show L2.RelV (.int i) (Value.int i t) from ⟨t, rfl⟩) .nil)) q
  have obj : ∃ o, s.heap.get? a = some o ∧ o.data = .plain := ⟨_, J.at_, rfl⟩
  have first : ∀ {Q' : Option Value → Shared → Prop}, Q' none s → wpAny (model X.prog X.w) X.A (tryMethod (.int i t) "__mul__" (.ref a)) Q' X.xe s := fun {Q'} q' => by
    unfold tryMethod
    refine wpAny_bind (wpAny_callSpecial?_slot (name := Str.ofString "__mul__") (typeIs_int s i t) PySem.F.slot_int_mul ?_)
    exact call_givesAt PySem.F.slot_int_mul (typeIs_int s i t) PySem.F.entry_int_mul (PySem.F.args_int_mul_2 _ _) (mul_no i t a) obj (wpAny_pure q')
  have second : wpAny (model X.prog X.w) X.A (tryMethod (.ref a) "__rmul__" (.int i t)) (fun r s' => ∃ z, r = some z ∧ EP X pins σ Q z s') X.xe s := by
    unfold tryMethod
    refine wpAny_bind (special_fn Xk J hs.1 (beq_iff_eq.mp hs.2.1) (wpAny_mono run (fun z s' hz => ?_) fun _ _ e => e))
    have ne : z ≠ Value.notImplemented := by
      obtain ⟨zv, H', I', rz, _⟩ := hz
      exact relV_no rz
    show wpAny _ _ (match (some z : Option Value) with
      | some Value.notImplemented => pure none
      | none => pure none
      | some v => pure (some v)) _ _ s'
    cases z <;> first
      | exact absurd rfl ne
      | exact wpAny_pure ⟨_, rfl, hz⟩
  obtain ⟨hh, gs, d, tk, os⟩ := s
  have L1 : Looks (model X.prog X.w) hh (typeOf (.int i t)) (.type "int") := Looks.of_pure rfl
  have L2 : Looks (model X.prog X.w) hh (typeOf (.ref a)) (.ref C) := J.type
  have L3 : Looks (model X.prog X.w) hh (fillsNumberSlot (.type "int") "mul") true := Looks.of_pure PySem.F.fills_int_mul
  have L4 : Looks (model X.prog X.w) hh (fillsNumberSlot (.ref C) "mul") true := fills_K Xk hcd hmro hm
  have L5 : Looks (model X.prog X.w) hh (isSubtype (.ref C) (.type "int")) false := looks_subIn Xk hsub
  have L6 : Looks (model X.prog X.w) hh (numberSlotInPython (.type "int") "mul") false := Looks.of_pure rfl
  have hne : (Value.type "int" == Value.ref C) = false := Bool.eq_false_iff.mpr fun q => by cases beq_iff_eq.mp q
  simp only [binaryOp, Operator.info]
  refine wpAny_holding (wpAny_bind ?_)
  unfold binaryOp1
  refine wpAny_bind (L1.at (wpAny_bind (L2.at (wpAny_bind (L3.at ?_)))))
  simp only [hne, Bool.false_eq_true, if_false]
  refine wpAny_bind (L4.at ?_)
  ksp_lk
  refine first ?_
  refine wpAny_bind (wpAny_mono second (fun r s' hr => ?_) fun _ _ e => e)
  obtain ⟨z, rfl, hz⟩ := hr
  ksp_lk
  exact hz
end K5
set_option Elab.async false
set_option linter.all false
set_option maxRecDepth 100000
set_option maxHeartbeats 2000000
namespace K5
open PySem PySem.Spec PyProof.Rows L2
/-! o.f as a target -/
def gFl (K : Fg) (to : TE) (f : Str) : TG := fun v σ H Q => to σ H fun x H1 => ∃ a C dx fs, x = .ref a ∧ H1 a = some (.ins C dx fs) ∧ Cls K C ∧ NoAttr K C f ∧ fs.length < 1000 ∧ Q σ (upd H1 a (.ins C dx (putF f v fs)))
theorem pg_at {X : Cx} {o : Expr} {f : Str} {pos : Pos} {to : TE} (ho : PE X o to) : PG X (.Attribute o f pos) (gFl X.K to f) := by
  refine ⟨fun pins s σ H v u Q I r h => ?_⟩
  rw [assign_Attribute]
  refine wpAny_bind (wpAny_holding (thn (ho.run pins s σ H _ I h) fun ov s1 z => ?_))
  obtain ⟨x, H1, I1, rx, a, C, dx, fs, ex, ea, c, n, l, q⟩ := z
  subst ex
  obtain rfl : ov = Value.ref a := rx
  refine wpAny_bind (wpAny_standAt (wpAny_bind (wpAny_holding (setattr_ok I1 ea c n l r fun s3 I3 => ?_))))
  exact wpAny_release ⟨σ, _, I3, q⟩
/-! dict(pairs), the keys tuples that differ -/
section
variable {κ : Type} [DecidableEq κ]
theorem stored_all {ps : List (κ × Addr × Value)} : ∀ {xs : List (κ × Addr × Value)}, ((xs ++ ps).map (·.1)).Nodup → storedAllH xs ps = xs ++ ps := by
  induction ps with
  | nil => intro xs _; simp [storedAllH]
  | cons p ps ih =>
    intro xs hn
    have e : atKey xs p.1 = none := by
      unfold atKey
      rw [Option.map_eq_none_iff, List.find?_eq_none]
      intro x hx z
      have z' : x.1 = p.1 := by simpa using z
      rw [List.map_append, List.nodup_append] at hn
      exact hn.2.2 x.1 (List.mem_map_of_mem hx) p.1 (by simp) z'
    have step : storedAllH xs (p :: ps) = storedAllH (xs ++ [p]) ps := by
      show storedAllH (storedH xs p.1 p.2.1 p.2.2) ps = _
      rw [storedH_new e]
    rw [step, ih (by simpa using hn)]
    simp
end
/-- a pair (key, value): its own tuple, the key's tuple, the key, the value -/
structure PrD where
  p : Addr
  b : Addr
  k : List Key
  v : V
def PrAt (H : Hp) (e : PrD) : Prop := H e.p = some (.tup [.ref e.b, e.v]) ∧ H e.b = some (.tup (e.k.map kV))
theorem prs_of {X : Cx} {pins : List (Addr × Obj)} {σ : L2.St} {H : Hp} {s : Shared} (I : Inv X pins σ H s) : ∀ {es : List PrD}, (∀ e ∈ es, PrAt H e) →
    ∃ us : List Value, us.length = es.length ∧ KT H (es.map fun e => (e.k, e.v)) ((es.zip us).map fun z => (z.1.k, z.1.b, z.2)) ∧
      ∀ (j : Nat) (e : PrD) (u : Value), es[j]? = some e → us[j]? = some u → IsTup s.heap e.p #[.ref e.b, u]
  | [], _ => ⟨[], rfl, .nil, fun j e u h => by simp at h⟩
  | e :: es, h => by
    obtain ⟨us, hl, kt, hg⟩ := prs_of I (es := es) fun x hx => h x (List.mem_cons_of_mem _ hx)
    obtain ⟨h1, h2⟩ := h e List.mem_cons_self
    obtain ⟨its, rv, ht, _⟩ := I.tuple (SqT.of h1)
    obtain ⟨u, y, ei, ru, ry⟩ := vals2 rv
    subst ei
    obtain rfl : u = Value.ref e.b := ru
    refine ⟨y :: us, by rw [List.length_cons, List.length_cons, hl], .cons ⟨rfl, h2, ry⟩ kt, fun j x z hx hz => ?_⟩
    cases j with
    | zero =>
      obtain rfl : e = x := by simpa using hx
      obtain rfl : y = z := by simpa using hz
      exact ht
    | succ j => exact hg j x z (by simpa using hx) (by simpa using hz)
theorem call_dictT {X : Cx} (hc : X.calm = true) (hu : X.A.units + 2 < cLine) : CallR X (.type "dict") (fun xs H Q => ∃ (a : Addr) (es : List PrD), xs = [.ref a] ∧ H a = some (.lst (es.map fun e => .ref e.p)) ∧ (∀ e ∈ es, PrAt H e) ∧ (es.map (·.k)).Nodup ∧
    ∀ p, H p = none → Q (.ref p) (upd H p (.dT (es.map fun e => (e.k, e.v))))) := by
  intro pins s σ H xs us Q I r q
  obtain ⟨a, es, ex, hq, hp, hn, q⟩ := q
  subst ex
  obtain ⟨u, rfl, rx⟩ := vals1 r
  obtain rfl : u = Value.ref a := rx
  obtain ⟨its, rv, pl, hz⟩ := I.list (SqL.of hq)
  have rv' : Vals ((es.map (·.p)).map V.ref) its := by rw [List.map_map]; exact rv
  have ei := refs_at rv'
  subst ei
  obtain ⟨ws, hl, kt, hg⟩ := prs_of I hp
  rw [List.length_map] at hz
  obtain ⟨o, n, ho, hcl, hd, hdat⟩ := pl
  have hsz : ((es.map (·.p)).map Value.ref).toArray.size = es.length := by simp
  let ps : List (Value × Value) := (es.zip ws).map fun z => (Value.ref z.1.b, z.2)
  let qs : List (List Key × Addr × Value) := (es.zip ws).map fun z => (z.1.k, z.1.b, z.2)
  have lp : ps.length = es.length := by simp [ps, hl]
  have lq : qs.length = es.length := by simp [qs, hl]
  have gp : ∀ (j : Nat) (k v : Value), ps[j]? = some (k, v) → ∃ e : PrD, es[j]? = some e ∧ ws[j]? = some v ∧ k = Value.ref e.b := fun j k v h => by
    have h' : ((es.zip ws).map fun z => (Value.ref z.1.b, z.2))[j]? = some (k, v) := h
    rw [List.getElem?_map] at h'
    obtain ⟨z, hz1, hz2⟩ := Option.map_eq_some_iff.mp h'
    obtain ⟨h1, h2⟩ := List.getElem?_zip_eq_some.mp hz1
    obtain ⟨rfl, rfl⟩ := Prod.mk.inj hz2
    exact ⟨z.1, h1, h2, rfl⟩
  let Ts : Nat → Addr := fun j => (es[j]?.map (·.p)).getD 0
  have items : PairItems s.heap ((es.map (·.p)).map Value.ref).toArray Ts ps := by
    refine ⟨by rw [hsz, lp], fun j k v h => ?_⟩
    obtain ⟨e, h1, h2, rfl⟩ := gp j k v h
    have eT : Ts j = e.p := by simp [Ts, h1]
    refine ⟨by rw [eT]; simp [h1], .inl ?_⟩
    rw [eT]
    exact hg j e v h1 h2
  have nd : (qs.map (·.1)).Nodup := by
    have z : qs.map (·.1) = es.map (·.k) := by
      simp only [qs, List.map_map]
      have z2 : ∀ (l : List PrD) (m : List Value), m.length = l.length → (l.zip m).map (fun z => z.1.k) = l.map (·.k) := by
        intro l
        induction l with
        | nil => intro m _; simp
        | cons x l ih =>
          intro m hm
          cases m with
          | nil => simp at hm
          | cons y m => simp only [List.zip_cons_cons, List.map_cons, ih m (by simpa using hm)]
      exact z2 es ws hl
    rw [z]
    exact hn
  have keys : PairsHaveH (tupleKind (mixKind X.prog X.w)) ps.length (PairRel ps) qs := by
    refine ⟨by rw [lq, lp], fun i key v h => ?_⟩
    obtain ⟨e, h1, h2, rfl⟩ := gp i key v h
    refine ⟨e.k, e.b, ?_, rfl⟩
    have hz : (es.zip ws)[i]? = some (e, v) := List.getElem?_zip_eq_some.mpr ⟨h1, h2⟩
    show ((es.zip ws).map fun z => (z.1.k, z.1.b, z.2))[i]? = _
    rw [List.getElem?_map, hz]
    rfl
  have isk : ∀ x ∈ qs, (tupleKind (mixKind X.prog X.w)).is s.heap x.1 x.2.1 := fun x hx => by
    obtain ⟨z, hz, rfl⟩ := List.mem_map.mp hx
    exact key_of I.hok (hp z.1 (List.of_mem_zip hz).1).2
  refine call_dict_pairsH (knd := tupleKind (mixKind X.prog X.w)) (ps := qs) (PairArg.list a _ Ts ps) (I.ok.hd hc) (by show X.A.units + 1 + 1 < cLine; omega) ⟨⟨o, n, ho, hcl, hd, hdat⟩, items⟩ keys (fun h' hk x hx => ?_) (by rw [lp]; exact hz) fun h' tk hd' hk => ?_
  · exact tupleKind_stays.stays (fun b ob vs m e _ => hk b ob (Nat.ne_of_lt (Heap.lt_size e)) (by simp) e) (isk x hx)
  · rw [stored_all (by simpa using nd), List.nil_append] at hd'
    have hm : (s.heap.objs.size == sysModules) = false := beq_eq_false_iff_ne.mpr (Nat.ne_of_gt I.big)
    have kp : ∀ b u, s.heap.get? b = some u → h'.get? b = some u := fun b u e => hk b u (by simp) e
    have hf := I.hok.fresh (Nat.le_refl s.heap.objs.size)
    have new : ObjOk X.prog X.w (upd H s.heap.objs.size (.dT (es.map fun e => (e.k, e.v)))) h' s.heap.objs.size (.dT (es.map fun e => (e.k, e.v))) := by
      obtain ⟨oo, eds, ep, h1, h2, h3, h4, h5, h6⟩ := hd'
      exact ⟨by rw [List.length_map]; exact hz, hm, qs, kt.keeps fun b ys e => by rw [upd_ne (ne_of_none e hf)]; exact e, oo, eds, ep, h1, h2, h3, h4, h6⟩
    exact ⟨.ref s.heap.objs.size, upd H s.heap.objs.size (.dT (es.map fun e => (e.k, e.v))), I.laid (t' := tk) kp (Nat.le_refl _) new, rfl, q _ hf⟩
end K5
set_option Elab.async false
set_option linter.all false
set_option maxRecDepth 100000
set_option maxHeartbeats 4000000
namespace K5
open PySem PySem.Spec PyProof.Rows L2
theorem fd_is_number_rules : fds[0]? = some d_is_number_rules := rfl
def n_is_number_rules : List Str := ["thing"]
theorem sc_is_number_rules : FnScope ["thing"] ["thing"] (defScope s_is_number_rules) := ⟨rfl, rfl, rfl, by decide +kernel, rfl, by decide +kernel, by decide +kernel⟩
theorem bd_is_number_rules (kV doc pm : Value) (an : Option Addr) (cdv ct : Value) (us : List Value) (hl : us.length = (["thing"] : List Str).length) : bindArgs (PySem.W.fnOf d_is_number_rules.name d_is_number_rules.qual (defArgs s_is_number_rules) (defBody s_is_number_rules) (defScope s_is_number_rules) .none kV doc pm an cdv ct) ⟨us, []⟩ = pure ((["thing"] : List Str).zip us) := match us, hl with | [_], _ => rfl
theorem fd_is_from : fds[1]? = some d_is_from := rfl
def n_is_from : List Str := ["thing", "least"]
theorem sc_is_from : FnScope ["thing", "least"] ["thing", "least"] (defScope s_is_from) := ⟨rfl, rfl, rfl, by decide +kernel, rfl, by decide +kernel, by decide +kernel⟩
theorem bd_is_from (kV doc pm : Value) (an : Option Addr) (cdv ct : Value) (us : List Value) (hl : us.length = (["thing", "least"] : List Str).length) : bindArgs (PySem.W.fnOf d_is_from.name d_is_from.qual (defArgs s_is_from) (defBody s_is_from) (defScope s_is_from) .none kV doc pm an cdv ct) ⟨us, []⟩ = pure ((["thing", "least"] : List Str).zip us) := match us, hl with | [_, _], _ => rfl
theorem fd_is_list : fds[2]? = some d_is_list := rfl
def n_is_list : List Str := ["thing"]
theorem sc_is_list : FnScope ["thing"] ["thing"] (defScope s_is_list) := ⟨rfl, rfl, rfl, by decide +kernel, rfl, by decide +kernel, by decide +kernel⟩
theorem bd_is_list (kV doc pm : Value) (an : Option Addr) (cdv ct : Value) (us : List Value) (hl : us.length = (["thing"] : List Str).length) : bindArgs (PySem.W.fnOf d_is_list.name d_is_list.qual (defArgs s_is_list) (defBody s_is_list) (defScope s_is_list) .none kV doc pm an cdv ct) ⟨us, []⟩ = pure ((["thing"] : List Str).zip us) := match us, hl with | [_], _ => rfl
theorem fd_without_end : fds[3]? = some d_without_end := rfl
def n_without_end : List Str := ["numbers", "many"]
theorem sc_without_end : FnScope ["numbers", "many"] ["numbers"] (defScope s_without_end) := ⟨rfl, rfl, rfl, by decide +kernel, rfl, by decide +kernel, by decide +kernel⟩
theorem bd_without_end (kV doc pm : Value) (an : Option Addr) (cdv ct : Value) (us : List Value) (hl : us.length = (["numbers"] : List Str).length) : bindArgs (PySem.W.fnOf d_without_end.name d_without_end.qual (defArgs s_without_end) (defBody s_without_end) (defScope s_without_end) .none kV doc pm an cdv ct) ⟨us, []⟩ = pure ((["numbers"] : List Str).zip us) := match us, hl with | [_], _ => rfl
theorem fd_row_value : fds[4]? = some d_row_value := rfl
def n_row_value : List Str := ["numbers", "t", "found", "number"]
theorem sc_row_value : FnScope ["numbers", "t", "found", "number"] ["numbers", "t"] (defScope s_row_value) := ⟨rfl, rfl, rfl, by decide +kernel, rfl, by decide +kernel, by decide +kernel⟩
theorem bd_row_value (kV doc pm : Value) (an : Option Addr) (cdv ct : Value) (us : List Value) (hl : us.length = (["numbers", "t"] : List Str).length) : bindArgs (PySem.W.fnOf d_row_value.name d_row_value.qual (defArgs s_row_value) (defBody s_row_value) (defScope s_row_value) .none kV doc pm an cdv ct) ⟨us, []⟩ = pure ((["numbers", "t"] : List Str).zip us) := match us, hl with | [_, _], _ => rfl
theorem fd_row_sum : fds[5]? = some d_row_sum := rfl
def n_row_sum : List Str := ["numbers", "others", "times", "size", "found", "at", "number"]
theorem sc_row_sum : FnScope ["numbers", "others", "times", "size", "found", "at", "number"] ["numbers", "others", "times"] (defScope s_row_sum) := ⟨rfl, rfl, rfl, by decide +kernel, rfl, by decide +kernel, by decide +kernel⟩
theorem bd_row_sum (kV doc pm : Value) (an : Option Addr) (cdv ct : Value) (us : List Value) (hl : us.length = (["numbers", "others", "times"] : List Str).length) : bindArgs (PySem.W.fnOf d_row_sum.name d_row_sum.qual (defArgs s_row_sum) (defBody s_row_sum) (defScope s_row_sum) .none kV doc pm an cdv ct) ⟨us, []⟩ = pure ((["numbers", "others", "times"] : List Str).zip us) := match us, hl with | [_, _, _], _ => rfl
theorem fd_row_product : fds[6]? = some d_row_product := rfl
def n_row_product : List Str := ["numbers", "others", "place", "found", "at", "number", "factor"]
theorem sc_row_product : FnScope ["numbers", "others", "place", "found", "at", "number", "factor"] ["numbers", "others"] (defScope s_row_product) := ⟨rfl, rfl, rfl, by decide +kernel, rfl, by decide +kernel, by decide +kernel⟩
theorem bd_row_product (kV doc pm : Value) (an : Option Addr) (cdv ct : Value) (us : List Value) (hl : us.length = (["numbers", "others"] : List Str).length) : bindArgs (PySem.W.fnOf d_row_product.name d_row_product.qual (defArgs s_row_product) (defBody s_row_product) (defScope s_row_product) .none kV doc pm an cdv ct) ⟨us, []⟩ = pure ((["numbers", "others"] : List Str).zip us) := match us, hl with | [_, _], _ => rfl
theorem fd_need_point : fds[7]? = some d_need_point := rfl
def n_need_point : List Str := ["x", "y"]
theorem sc_need_point : FnScope ["x", "y"] ["x", "y"] (defScope s_need_point) := ⟨rfl, rfl, rfl, by decide +kernel, rfl, by decide +kernel, by decide +kernel⟩
theorem bd_need_point (kV doc pm : Value) (an : Option Addr) (cdv ct : Value) (us : List Value) (hl : us.length = (["x", "y"] : List Str).length) : bindArgs (PySem.W.fnOf d_need_point.name d_need_point.qual (defArgs s_need_point) (defBody s_need_point) (defScope s_need_point) .none kV doc pm an cdv ct) ⟨us, []⟩ = pure ((["x", "y"] : List Str).zip us) := match us, hl with | [_, _], _ => rfl
theorem fd_is_step : fds[8]? = some d_is_step := rfl
def n_is_step : List Str := ["thing", "number"]
theorem sc_is_step : FnScope ["thing", "number"] ["thing"] (defScope s_is_step) := ⟨rfl, rfl, rfl, by decide +kernel, rfl, by decide +kernel, by decide +kernel⟩
theorem bd_is_step (kV doc pm : Value) (an : Option Addr) (cdv ct : Value) (us : List Value) (hl : us.length = (["thing"] : List Str).length) : bindArgs (PySem.W.fnOf d_is_step.name d_is_step.qual (defArgs s_is_step) (defBody s_is_step) (defScope s_is_step) .none kV doc pm an cdv ct) ⟨us, []⟩ = pure ((["thing"] : List Str).zip us) := match us, hl with | [_], _ => rfl
theorem fd_done : fds[9]? = some d_done := rfl
def n_done : List Str := ["step", "x", "y"]
theorem sc_done : FnScope ["step", "x", "y"] ["step", "x", "y"] (defScope s_done) := ⟨rfl, rfl, rfl, by decide +kernel, rfl, by decide +kernel, by decide +kernel⟩
theorem bd_done (kV doc pm : Value) (an : Option Addr) (cdv ct : Value) (us : List Value) (hl : us.length = (["step", "x", "y"] : List Str).length) : bindArgs (PySem.W.fnOf d_done.name d_done.qual (defArgs s_done) (defBody s_done) (defScope s_done) .none kV doc pm an cdv ct) ⟨us, []⟩ = pure ((["step", "x", "y"] : List Str).zip us) := match us, hl with | [_, _, _], _ => rfl
theorem fd_undone : fds[10]? = some d_undone := rfl
def n_undone : List Str := ["step", "word", "a", "b", "c", "d", "sign"]
theorem sc_undone : FnScope ["step", "word", "a", "b", "c", "d", "sign"] ["step"] (defScope s_undone) := ⟨rfl, rfl, rfl, by decide +kernel, rfl, by decide +kernel, by decide +kernel⟩
theorem bd_undone (kV doc pm : Value) (an : Option Addr) (cdv ct : Value) (us : List Value) (hl : us.length = (["step"] : List Str).length) : bindArgs (PySem.W.fnOf d_undone.name d_undone.qual (defArgs s_undone) (defBody s_undone) (defScope s_undone) .none kV doc pm an cdv ct) ⟨us, []⟩ = pure ((["step"] : List Str).zip us) := match us, hl with | [_], _ => rfl
theorem fd_need_program_programs : fds[11]? = some d_need_program_programs := rfl
def n_need_program_programs : List Str := ["thing"]
theorem sc_need_program_programs : FnScope ["thing"] ["thing"] (defScope s_need_program_programs) := ⟨rfl, rfl, rfl, by decide +kernel, rfl, by decide +kernel, by decide +kernel⟩
theorem bd_need_program_programs (kV doc pm : Value) (an : Option Addr) (cdv ct : Value) (us : List Value) (hl : us.length = (["thing"] : List Str).length) : bindArgs (PySem.W.fnOf d_need_program_programs.name d_need_program_programs.qual (defArgs s_need_program_programs) (defBody s_need_program_programs) (defScope s_need_program_programs) .none kV doc pm an cdv ct) ⟨us, []⟩ = pure ((["thing"] : List Str).zip us) := match us, hl with | [_], _ => rfl
theorem fd_inverse_modulo : fds[12]? = some d_inverse_modulo := rfl
def n_inverse_modulo : List Str := ["number", "size", "high", "low", "past", "found", "times"]
theorem sc_inverse_modulo : FnScope ["number", "size", "high", "low", "past", "found", "times"] ["number", "size"] (defScope s_inverse_modulo) := ⟨rfl, rfl, rfl, by decide +kernel, rfl, by decide +kernel, by decide +kernel⟩
theorem bd_inverse_modulo (kV doc pm : Value) (an : Option Addr) (cdv ct : Value) (us : List Value) (hl : us.length = (["number", "size"] : List Str).length) : bindArgs (PySem.W.fnOf d_inverse_modulo.name d_inverse_modulo.qual (defArgs s_inverse_modulo) (defBody s_inverse_modulo) (defScope s_inverse_modulo) .none kV doc pm an cdv ct) ⟨us, []⟩ = pure ((["number", "size"] : List Str).zip us) := match us, hl with | [_, _], _ => rfl
theorem fd_is_bend : fds[13]? = some d_is_bend := rfl
def n_is_bend : List Str := ["step"]
theorem sc_is_bend : FnScope ["step"] ["step"] (defScope s_is_bend) := ⟨rfl, rfl, rfl, by decide +kernel, rfl, by decide +kernel, by decide +kernel⟩
theorem bd_is_bend (kV doc pm : Value) (an : Option Addr) (cdv ct : Value) (us : List Value) (hl : us.length = (["step"] : List Str).length) : bindArgs (PySem.W.fnOf d_is_bend.name d_is_bend.qual (defArgs s_is_bend) (defBody s_is_bend) (defScope s_is_bend) .none kV doc pm an cdv ct) ⟨us, []⟩ = pure ((["step"] : List Str).zip us) := match us, hl with | [_], _ => rfl
theorem fd_is_quarter : fds[14]? = some d_is_quarter := rfl
def n_is_quarter : List Str := ["step"]
theorem sc_is_quarter : FnScope ["step"] ["step"] (defScope s_is_quarter) := ⟨rfl, rfl, rfl, by decide +kernel, rfl, by decide +kernel, by decide +kernel⟩
theorem bd_is_quarter (kV doc pm : Value) (an : Option Addr) (cdv ct : Value) (us : List Value) (hl : us.length = (["step"] : List Str).length) : bindArgs (PySem.W.fnOf d_is_quarter.name d_is_quarter.qual (defArgs s_is_quarter) (defBody s_is_quarter) (defScope s_is_quarter) .none kV doc pm an cdv ct) ⟨us, []⟩ = pure ((["step"] : List Str).zip us) := match us, hl with | [_], _ => rfl
theorem fd_is_plain : fds[15]? = some d_is_plain := rfl
def n_is_plain : List Str := ["program", "steps", "parts", "one", "other", "step"]
theorem sc_is_plain : FnScope ["program", "steps", "parts", "one", "other", "step"] ["program"] (defScope s_is_plain) := ⟨rfl, rfl, rfl, by decide +kernel, rfl, by decide +kernel, by decide +kernel⟩
theorem bd_is_plain (kV doc pm : Value) (an : Option Addr) (cdv ct : Value) (us : List Value) (hl : us.length = (["program"] : List Str).length) : bindArgs (PySem.W.fnOf d_is_plain.name d_is_plain.qual (defArgs s_is_plain) (defBody s_is_plain) (defScope s_is_plain) .none kV doc pm an cdv ct) ⟨us, []⟩ = pure ((["program"] : List Str).zip us) := match us, hl with | [_], _ => rfl
theorem fd_plain : fds[16]? = some d_plain := rfl
def n_plain : List Str := ["program", "word", "step", "e", "n", "s", "f", "t"]
theorem sc_plain : FnScope ["program", "word", "step", "e", "n", "s", "f", "t"] ["program"] (defScope s_plain) := ⟨rfl, rfl, rfl, by decide +kernel, rfl, by decide +kernel, by decide +kernel⟩
theorem bd_plain (kV doc pm : Value) (an : Option Addr) (cdv ct : Value) (us : List Value) (hl : us.length = (["program"] : List Str).length) : bindArgs (PySem.W.fnOf d_plain.name d_plain.qual (defArgs s_plain) (defBody s_plain) (defScope s_plain) .none kV doc pm an cdv ct) ⟨us, []⟩ = pure ((["program"] : List Str).zip us) := match us, hl with | [_], _ => rfl
theorem fd_need_program_cores : fds[17]? = some d_need_program_cores := rfl
def n_need_program_cores : List Str := ["program"]
theorem sc_need_program_cores : FnScope ["program"] ["program"] (defScope s_need_program_cores) := ⟨rfl, rfl, rfl, by decide +kernel, rfl, by decide +kernel, by decide +kernel⟩
theorem bd_need_program_cores (kV doc pm : Value) (an : Option Addr) (cdv ct : Value) (us : List Value) (hl : us.length = (["program"] : List Str).length) : bindArgs (PySem.W.fnOf d_need_program_cores.name d_need_program_cores.qual (defArgs s_need_program_cores) (defBody s_need_program_cores) (defScope s_need_program_cores) .none kV doc pm an cdv ct) ⟨us, []⟩ = pure ((["program"] : List Str).zip us) := match us, hl with | [_], _ => rfl
theorem fd_parts_of : fds[18]? = some d_parts_of := rfl
def n_parts_of : List Str := ["program"]
theorem sc_parts_of : FnScope ["program"] ["program"] (defScope s_parts_of) := ⟨rfl, rfl, rfl, by decide +kernel, rfl, by decide +kernel, by decide +kernel⟩
theorem bd_parts_of (kV doc pm : Value) (an : Option Addr) (cdv ct : Value) (us : List Value) (hl : us.length = (["program"] : List Str).length) : bindArgs (PySem.W.fnOf d_parts_of.name d_parts_of.qual (defArgs s_parts_of) (defBody s_parts_of) (defScope s_parts_of) .none kV doc pm an cdv ct) ⟨us, []⟩ = pure ((["program"] : List Str).zip us) := match us, hl with | [_], _ => rfl
theorem fd_are_core_parts : fds[19]? = some d_are_core_parts := rfl
def n_are_core_parts : List Str := ["parts"]
theorem sc_are_core_parts : FnScope ["parts"] ["parts"] (defScope s_are_core_parts) := ⟨rfl, rfl, rfl, by decide +kernel, rfl, by decide +kernel, by decide +kernel⟩
theorem bd_are_core_parts (kV doc pm : Value) (an : Option Addr) (cdv ct : Value) (us : List Value) (hl : us.length = (["parts"] : List Str).length) : bindArgs (PySem.W.fnOf d_are_core_parts.name d_are_core_parts.qual (defArgs s_are_core_parts) (defBody s_are_core_parts) (defScope s_are_core_parts) .none kV doc pm an cdv ct) ⟨us, []⟩ = pure ((["parts"] : List Str).zip us) := match us, hl with | [_], _ => rfl
theorem fd_is_core : fds[20]? = some d_is_core := rfl
def n_is_core : List Str := ["program"]
theorem sc_is_core : FnScope ["program"] ["program"] (defScope s_is_core) := ⟨rfl, rfl, rfl, by decide +kernel, rfl, by decide +kernel, by decide +kernel⟩
theorem bd_is_core (kV doc pm : Value) (an : Option Addr) (cdv ct : Value) (us : List Value) (hl : us.length = (["program"] : List Str).length) : bindArgs (PySem.W.fnOf d_is_core.name d_is_core.qual (defArgs s_is_core) (defBody s_is_core) (defScope s_is_core) .none kV doc pm an cdv ct) ⟨us, []⟩ = pure ((["program"] : List Str).zip us) := match us, hl with | [_], _ => rfl
theorem fd_need_core : fds[21]? = some d_need_core := rfl
def n_need_core : List Str := ["core"]
theorem sc_need_core : FnScope ["core"] ["core"] (defScope s_need_core) := ⟨rfl, rfl, rfl, by decide +kernel, rfl, by decide +kernel, by decide +kernel⟩
theorem bd_need_core (kV doc pm : Value) (an : Option Addr) (cdv ct : Value) (us : List Value) (hl : us.length = (["core"] : List Str).length) : bindArgs (PySem.W.fnOf d_need_core.name d_need_core.qual (defArgs s_need_core) (defBody s_need_core) (defScope s_need_core) .none kV doc pm an cdv ct) ⟨us, []⟩ = pure ((["core"] : List Str).zip us) := match us, hl with | [_], _ => rfl
theorem fd_is_number_fates : fds[22]? = some d_is_number_fates := rfl
def n_is_number_fates : List Str := ["thing"]
theorem sc_is_number_fates : FnScope ["thing"] ["thing"] (defScope s_is_number_fates) := ⟨rfl, rfl, rfl, by decide +kernel, rfl, by decide +kernel, by decide +kernel⟩
theorem bd_is_number_fates (kV doc pm : Value) (an : Option Addr) (cdv ct : Value) (us : List Value) (hl : us.length = (["thing"] : List Str).length) : bindArgs (PySem.W.fnOf d_is_number_fates.name d_is_number_fates.qual (defArgs s_is_number_fates) (defBody s_is_number_fates) (defScope s_is_number_fates) .none kV doc pm an cdv ct) ⟨us, []⟩ = pure ((["thing"] : List Str).zip us) := match us, hl with | [_], _ => rfl
theorem fd_is_point : fds[23]? = some d_is_point := rfl
def n_is_point : List Str := ["thing"]
theorem sc_is_point : FnScope ["thing"] ["thing"] (defScope s_is_point) := ⟨rfl, rfl, rfl, by decide +kernel, rfl, by decide +kernel, by decide +kernel⟩
theorem bd_is_point (kV doc pm : Value) (an : Option Addr) (cdv ct : Value) (us : List Value) (hl : us.length = (["thing"] : List Str).length) : bindArgs (PySem.W.fnOf d_is_point.name d_is_point.qual (defArgs s_is_point) (defBody s_is_point) (defScope s_is_point) .none kV doc pm an cdv ct) ⟨us, []⟩ = pure ((["thing"] : List Str).zip us) := match us, hl with | [_], _ => rfl
theorem fd_with_end : fds[24]? = some d_with_end := rfl
def n_with_end : List Str := ["quarter", "turn", "move", "a", "b", "c", "d", "left", "mixed", "zero", "right"]
theorem sc_with_end : FnScope ["quarter", "turn", "move", "a", "b", "c", "d", "left", "mixed", "zero", "right"] ["quarter", "turn", "move"] (defScope s_with_end) := ⟨rfl, rfl, rfl, by decide +kernel, rfl, by decide +kernel, by decide +kernel⟩
theorem bd_with_end (kV doc pm : Value) (an : Option Addr) (cdv ct : Value) (us : List Value) (hl : us.length = (["quarter", "turn", "move"] : List Str).length) : bindArgs (PySem.W.fnOf d_with_end.name d_with_end.qual (defArgs s_with_end) (defBody s_with_end) (defScope s_with_end) .none kV doc pm an cdv ct) ⟨us, []⟩ = pure ((["quarter", "turn", "move"] : List Str).zip us) := match us, hl with | [_, _, _], _ => rfl
theorem fd_couples_of : fds[25]? = some d_couples_of := rfl
def n_couples_of : List Str := ["core", "steps", "found", "at"]
theorem sc_couples_of : FnScope ["core", "steps", "found", "at"] ["core"] (defScope s_couples_of) := ⟨rfl, rfl, rfl, by decide +kernel, rfl, by decide +kernel, by decide +kernel⟩
theorem bd_couples_of (kV doc pm : Value) (an : Option Addr) (cdv ct : Value) (us : List Value) (hl : us.length = (["core"] : List Str).length) : bindArgs (PySem.W.fnOf d_couples_of.name d_couples_of.qual (defArgs s_couples_of) (defBody s_couples_of) (defScope s_couples_of) .none kV doc pm an cdv ct) ⟨us, []⟩ = pure ((["core"] : List Str).zip us) := match us, hl with | [_], _ => rfl
theorem fd_lower_sum : fds[26]? = some d_lower_sum := rfl
def n_lower_sum : List Str := ["rule", "number"]
theorem sc_lower_sum : FnScope ["rule", "number"] ["rule"] (defScope s_lower_sum) := ⟨rfl, rfl, rfl, by decide +kernel, rfl, by decide +kernel, by decide +kernel⟩
theorem bd_lower_sum (kV doc pm : Value) (an : Option Addr) (cdv ct : Value) (us : List Value) (hl : us.length = (["rule"] : List Str).length) : bindArgs (PySem.W.fnOf d_lower_sum.name d_lower_sum.qual (defArgs s_lower_sum) (defBody s_lower_sum) (defScope s_lower_sum) .none kV doc pm an cdv ct) ⟨us, []⟩ = pure ((["rule"] : List Str).zip us) := match us, hl with | [_], _ => rfl
theorem fd_least_height : fds[27]? = some d_least_height := rfl
def n_least_height : List Str := ["rule", "numbers", "width", "a", "b", "c", "d", "s", "t"]
theorem sc_least_height : FnScope ["rule", "numbers", "width", "a", "b", "c", "d", "s", "t"] ["rule", "numbers", "width"] (defScope s_least_height) := ⟨rfl, rfl, rfl, by decide +kernel, rfl, by decide +kernel, by decide +kernel⟩
theorem bd_least_height (kV doc pm : Value) (an : Option Addr) (cdv ct : Value) (us : List Value) (hl : us.length = (["rule", "numbers", "width"] : List Str).length) : bindArgs (PySem.W.fnOf d_least_height.name d_least_height.qual (defArgs s_least_height) (defBody s_least_height) (defScope s_least_height) .none kV doc pm an cdv ct) ⟨us, []⟩ = pure ((["rule", "numbers", "width"] : List Str).zip us) := match us, hl with | [_, _, _], _ => rfl
theorem fd_least_reach : fds[28]? = some d_least_reach := rfl
def n_least_reach : List Str := ["rule", "numbers", "width", "a", "b", "c", "d", "s", "t", "both", "shift", "rest"]
theorem sc_least_reach : FnScope ["rule", "numbers", "width", "a", "b", "c", "d", "s", "t", "both", "shift", "rest"] ["rule", "numbers", "width"] (defScope s_least_reach) := ⟨rfl, rfl, rfl, by decide +kernel, rfl, by decide +kernel, by decide +kernel⟩
theorem bd_least_reach (kV doc pm : Value) (an : Option Addr) (cdv ct : Value) (us : List Value) (hl : us.length = (["rule", "numbers", "width"] : List Str).length) : bindArgs (PySem.W.fnOf d_least_reach.name d_least_reach.qual (defArgs s_least_reach) (defBody s_least_reach) (defScope s_least_reach) .none kV doc pm an cdv ct) ⟨us, []⟩ = pure ((["rule", "numbers", "width"] : List Str).zip us) := match us, hl with | [_, _, _], _ => rfl
theorem fd_fate_by : fds[29]? = some d_fate_by := rfl
def n_fate_by : List Str := ["core", "wedge", "point", "here", "passes"]
theorem sc_fate_by : FnScope ["core", "wedge", "point", "here", "passes"] ["core", "wedge", "point"] (defScope s_fate_by) := ⟨rfl, rfl, rfl, by decide +kernel, rfl, by decide +kernel, by decide +kernel⟩
theorem bd_fate_by (kV doc pm : Value) (an : Option Addr) (cdv ct : Value) (us : List Value) (hl : us.length = (["core", "wedge", "point"] : List Str).length) : bindArgs (PySem.W.fnOf d_fate_by.name d_fate_by.qual (defArgs s_fate_by) (defBody s_fate_by) (defScope s_fate_by) .none kV doc pm an cdv ct) ⟨us, []⟩ = pure ((["core", "wedge", "point"] : List Str).zip us) := match us, hl with | [_, _, _], _ => rfl
theorem fd_fate : fds[30]? = some d_fate := rfl
def n_fate : List Str := ["core", "x", "y", "wedge"]
theorem sc_fate : FnScope ["core", "x", "y", "wedge"] ["core", "x", "y"] (defScope s_fate) := ⟨rfl, rfl, rfl, by decide +kernel, rfl, by decide +kernel, by decide +kernel⟩
theorem bd_fate (kV doc pm : Value) (an : Option Addr) (cdv ct : Value) (us : List Value) (hl : us.length = (["core", "x", "y"] : List Str).length) : bindArgs (PySem.W.fnOf d_fate.name d_fate.qual (defArgs s_fate) (defBody s_fate) (defScope s_fate) .none kV doc pm an cdv ct) ⟨us, []⟩ = pure ((["core", "x", "y"] : List Str).zip us) := match us, hl with | [_, _, _], _ => rfl
theorem fd_returning : fds[31]? = some d_returning := rfl
def n_returning : List Str := ["core", "wedge", "high", "wide", "found", "x", "y", "word", "passes"]
theorem sc_returning : FnScope ["core", "wedge", "high", "wide", "found", "x", "y", "word", "passes"] ["core"] (defScope s_returning) := ⟨rfl, rfl, rfl, by decide +kernel, rfl, by decide +kernel, by decide +kernel⟩
theorem bd_returning (kV doc pm : Value) (an : Option Addr) (cdv ct : Value) (us : List Value) (hl : us.length = (["core"] : List Str).length) : bindArgs (PySem.W.fnOf d_returning.name d_returning.qual (defArgs s_returning) (defBody s_returning) (defScope s_returning) .none kV doc pm an cdv ct) ⟨us, []⟩ = pure ((["core"] : List Str).zip us) := match us, hl with | [_], _ => rfl
theorem fd_l_curl : fds[32]? = some d_l_curl := rfl
def n_l_curl : List Str := ["_law_state", "_law_most", "_law_great", "_law_row", "_law_place"]
theorem sc_l_curl : FnScope ["_law_state", "_law_most", "_law_great", "_law_row", "_law_place"] ["_law_state", "_law_most", "_law_great"] (defScope s_l_curl) := ⟨rfl, rfl, rfl, by decide +kernel, rfl, by decide +kernel, by decide +kernel⟩
theorem bd_l_curl (kV doc pm : Value) (an : Option Addr) (cdv ct : Value) (us : List Value) (hl : us.length = (["_law_state", "_law_most", "_law_great"] : List Str).length) : bindArgs (PySem.W.fnOf d_l_curl.name d_l_curl.qual (defArgs s_l_curl) (defBody s_l_curl) (defScope s_l_curl) .none kV doc pm an cdv ct) ⟨us, []⟩ = pure ((["_law_state", "_law_most", "_law_great"] : List Str).zip us) := match us, hl with | [_, _, _], _ => rfl
theorem fd_l_couples : fds[33]? = some d_l_couples := rfl
def n_l_couples : List Str := ["_law_steps", "_law_found", "_law_turn", "_law_move", "_law_spot", "_law_word", "_law_a", "_law_b", "_law_c", "_law_d", "_law_six", "_law_upper"]
theorem sc_l_couples : FnScope ["_law_steps", "_law_found", "_law_turn", "_law_move", "_law_spot", "_law_word", "_law_a", "_law_b", "_law_c", "_law_d", "_law_six", "_law_upper"] ["_law_steps"] (defScope s_l_couples) := ⟨rfl, rfl, rfl, by decide +kernel, rfl, by decide +kernel, by decide +kernel⟩
theorem bd_l_couples (kV doc pm : Value) (an : Option Addr) (cdv ct : Value) (us : List Value) (hl : us.length = (["_law_steps"] : List Str).length) : bindArgs (PySem.W.fnOf d_l_couples.name d_l_couples.qual (defArgs s_l_couples) (defBody s_l_couples) (defScope s_l_couples) .none kV doc pm an cdv ct) ⟨us, []⟩ = pure ((["_law_steps"] : List Str).zip us) := match us, hl with | [_], _ => rfl
theorem fd_l_sizes : fds[34]? = some d_l_sizes := rfl
def n_l_sizes : List Str := ["_law_steps", "_law_rows", "_law_low", "_law_wide", "_law_heights_here", "_law_reaches", "_law_a", "_law_b", "_law_c", "_law_d", "_law_s", "_law_t", "_law_v", "_law_u", "_law_far", "_law_row", "_law_six", "_law_worth"]
theorem sc_l_sizes : FnScope ["_law_steps", "_law_rows", "_law_low", "_law_wide", "_law_heights_here", "_law_reaches", "_law_a", "_law_b", "_law_c", "_law_d", "_law_s", "_law_t", "_law_v", "_law_u", "_law_far", "_law_row", "_law_six", "_law_worth"] ["_law_steps"] (defScope s_l_sizes) := ⟨rfl, rfl, rfl, by decide +kernel, rfl, by decide +kernel, by decide +kernel⟩
theorem bd_l_sizes (kV doc pm : Value) (an : Option Addr) (cdv ct : Value) (us : List Value) (hl : us.length = (["_law_steps"] : List Str).length) : bindArgs (PySem.W.fnOf d_l_sizes.name d_l_sizes.qual (defArgs s_l_sizes) (defBody s_l_sizes) (defScope s_l_sizes) .none kV doc pm an cdv ct) ⟨us, []⟩ = pure ((["_law_steps"] : List Str).zip us) := match us, hl with | [_], _ => rfl
theorem fd_l_small_core : fds[35]? = some d_l_small_core := rfl
def n_l_small_core : List Str := ["_law_state", "_law_found", "_law_turn", "_law_move"]
theorem sc_l_small_core : FnScope ["_law_state", "_law_found", "_law_turn", "_law_move"] ["_law_state"] (defScope s_l_small_core) := ⟨rfl, rfl, rfl, by decide +kernel, rfl, by decide +kernel, by decide +kernel⟩
theorem bd_l_small_core (kV doc pm : Value) (an : Option Addr) (cdv ct : Value) (us : List Value) (hl : us.length = (["_law_state"] : List Str).length) : bindArgs (PySem.W.fnOf d_l_small_core.name d_l_small_core.qual (defArgs s_l_small_core) (defBody s_l_small_core) (defScope s_l_small_core) .none kV doc pm an cdv ct) ⟨us, []⟩ = pure ((["_law_state"] : List Str).zip us) := match us, hl with | [_], _ => rfl
theorem fd_l_box : fds[36]? = some d_l_box := rfl
def n_l_box : List Str := ["_law_sizes_here", "_law_wide", "_law_low", "_law_reach_here"]
theorem sc_l_box : FnScope ["_law_sizes_here", "_law_wide", "_law_low", "_law_reach_here"] ["_law_sizes_here"] (defScope s_l_box) := ⟨rfl, rfl, rfl, by decide +kernel, rfl, by decide +kernel, by decide +kernel⟩
theorem bd_l_box (kV doc pm : Value) (an : Option Addr) (cdv ct : Value) (us : List Value) (hl : us.length = (["_law_sizes_here"] : List Str).length) : bindArgs (PySem.W.fnOf d_l_box.name d_l_box.qual (defArgs s_l_box) (defBody s_l_box) (defScope s_l_box) .none kV doc pm an cdv ct) ⟨us, []⟩ = pure ((["_law_sizes_here"] : List Str).zip us) := match us, hl with | [_], _ => rfl
theorem fd_l_gcd : fds[37]? = some d_l_gcd := rfl
def n_l_gcd : List Str := ["_law_one_here", "_law_two_here"]
theorem sc_l_gcd : FnScope ["_law_one_here", "_law_two_here"] ["_law_one_here", "_law_two_here"] (defScope s_l_gcd) := ⟨rfl, rfl, rfl, by decide +kernel, rfl, by decide +kernel, by decide +kernel⟩
theorem bd_l_gcd (kV doc pm : Value) (an : Option Addr) (cdv ct : Value) (us : List Value) (hl : us.length = (["_law_one_here", "_law_two_here"] : List Str).length) : bindArgs (PySem.W.fnOf d_l_gcd.name d_l_gcd.qual (defArgs s_l_gcd) (defBody s_l_gcd) (defScope s_l_gcd) .none kV doc pm an cdv ct) ⟨us, []⟩ = pure ((["_law_one_here", "_law_two_here"] : List Str).zip us) := match us, hl with | [_, _], _ => rfl
theorem fd_l_begun : fds[38]? = some d_l_begun := rfl
def n_l_begun : List Str := ["_law_script", "_law_wide", "_law_cell"]
theorem sc_l_begun : FnScope ["_law_script", "_law_wide", "_law_cell"] ["_law_script"] (defScope s_l_begun) := ⟨rfl, rfl, rfl, by decide +kernel, rfl, by decide +kernel, by decide +kernel⟩
theorem bd_l_begun (kV doc pm : Value) (an : Option Addr) (cdv ct : Value) (us : List Value) (hl : us.length = (["_law_script"] : List Str).length) : bindArgs (PySem.W.fnOf d_l_begun.name d_l_begun.qual (defArgs s_l_begun) (defBody s_l_begun) (defScope s_l_begun) .none kV doc pm an cdv ct) ⟨us, []⟩ = pure ((["_law_script"] : List Str).zip us) := match us, hl with | [_], _ => rfl
theorem fd_l_mixed : fds[39]? = some d_l_mixed := rfl
def n_l_mixed : List Str := ["_law_state", "_law_turn", "_law_found", "_law_prime", "_law_blend", "_law_cell"]
theorem sc_l_mixed : FnScope ["_law_state", "_law_turn", "_law_found", "_law_prime", "_law_blend", "_law_cell"] ["_law_state"] (defScope s_l_mixed) := ⟨rfl, rfl, rfl, by decide +kernel, rfl, by decide +kernel, by decide +kernel⟩
theorem bd_l_mixed (kV doc pm : Value) (an : Option Addr) (cdv ct : Value) (us : List Value) (hl : us.length = (["_law_state"] : List Str).length) : bindArgs (PySem.W.fnOf d_l_mixed.name d_l_mixed.qual (defArgs s_l_mixed) (defBody s_l_mixed) (defScope s_l_mixed) .none kV doc pm an cdv ct) ⟨us, []⟩ = pure ((["_law_state"] : List Str).zip us) := match us, hl with | [_], _ => rfl
theorem fd_l_take : fds[40]? = some d_l_take := rfl
def n_l_take : List Str := ["_law_state", "_law_size", "_law_found"]
theorem sc_l_take : FnScope ["_law_state", "_law_size", "_law_found"] ["_law_state", "_law_size"] (defScope s_l_take) := ⟨rfl, rfl, rfl, by decide +kernel, rfl, by decide +kernel, by decide +kernel⟩
theorem bd_l_take (kV doc pm : Value) (an : Option Addr) (cdv ct : Value) (us : List Value) (hl : us.length = (["_law_state", "_law_size"] : List Str).length) : bindArgs (PySem.W.fnOf d_l_take.name d_l_take.qual (defArgs s_l_take) (defBody s_l_take) (defScope s_l_take) .none kV doc pm an cdv ct) ⟨us, []⟩ = pure ((["_law_state", "_law_size"] : List Str).zip us) := match us, hl with | [_, _], _ => rfl
theorem fd_l_pick : fds[41]? = some d_l_pick := rfl
def n_l_pick : List Str := ["_law_state", "_law_some"]
theorem sc_l_pick : FnScope ["_law_state", "_law_some"] ["_law_state", "_law_some"] (defScope s_l_pick) := ⟨rfl, rfl, rfl, by decide +kernel, rfl, by decide +kernel, by decide +kernel⟩
theorem bd_l_pick (kV doc pm : Value) (an : Option Addr) (cdv ct : Value) (us : List Value) (hl : us.length = (["_law_state", "_law_some"] : List Str).length) : bindArgs (PySem.W.fnOf d_l_pick.name d_l_pick.qual (defArgs s_l_pick) (defBody s_l_pick) (defScope s_l_pick) .none kV doc pm an cdv ct) ⟨us, []⟩ = pure ((["_law_state", "_law_some"] : List Str).zip us) := match us, hl with | [_, _], _ => rfl
theorem fd_l_number : fds[42]? = some d_l_number := rfl
def n_l_number : List Str := ["_law_state", "_law_great", "_law_size"]
theorem sc_l_number : FnScope ["_law_state", "_law_great", "_law_size"] ["_law_state", "_law_great"] (defScope s_l_number) := ⟨rfl, rfl, rfl, by decide +kernel, rfl, by decide +kernel, by decide +kernel⟩
theorem bd_l_number (kV doc pm : Value) (an : Option Addr) (cdv ct : Value) (us : List Value) (hl : us.length = (["_law_state", "_law_great"] : List Str).length) : bindArgs (PySem.W.fnOf d_l_number.name d_l_number.qual (defArgs s_l_number) (defBody s_l_number) (defScope s_l_number) .none kV doc pm an cdv ct) ⟨us, []⟩ = pure ((["_law_state", "_law_great"] : List Str).zip us) := match us, hl with | [_, _], _ => rfl
theorem fd_l_is_low : fds[43]? = some d_l_is_low := rfl
def n_l_is_low : List Str := ["_law_step"]
theorem sc_l_is_low : FnScope ["_law_step"] ["_law_step"] (defScope s_l_is_low) := ⟨rfl, rfl, rfl, by decide +kernel, rfl, by decide +kernel, by decide +kernel⟩
theorem bd_l_is_low (kV doc pm : Value) (an : Option Addr) (cdv ct : Value) (us : List Value) (hl : us.length = (["_law_step"] : List Str).length) : bindArgs (PySem.W.fnOf d_l_is_low.name d_l_is_low.qual (defArgs s_l_is_low) (defBody s_l_is_low) (defScope s_l_is_low) .none kV doc pm an cdv ct) ⟨us, []⟩ = pure ((["_law_step"] : List Str).zip us) := match us, hl with | [_], _ => rfl
theorem fd_l_step_of : fds[44]? = some d_l_step_of := rfl
def n_l_step_of : List Str := ["_law_step"]
theorem sc_l_step_of : FnScope ["_law_step"] ["_law_step"] (defScope s_l_step_of) := ⟨rfl, rfl, rfl, by decide +kernel, rfl, by decide +kernel, by decide +kernel⟩
theorem bd_l_step_of (kV doc pm : Value) (an : Option Addr) (cdv ct : Value) (us : List Value) (hl : us.length = (["_law_step"] : List Str).length) : bindArgs (PySem.W.fnOf d_l_step_of.name d_l_step_of.qual (defArgs s_l_step_of) (defBody s_l_step_of) (defScope s_l_step_of) .none kV doc pm an cdv ct) ⟨us, []⟩ = pure ((["_law_step"] : List Str).zip us) := match us, hl with | [_], _ => rfl
theorem fd_l_program_of : fds[45]? = some d_l_program_of := rfl
def n_l_program_of : List Str := ["_law_steps", "_law_step"]
theorem sc_l_program_of : FnScope ["_law_steps", "_law_step"] ["_law_steps"] (defScope s_l_program_of) := ⟨rfl, rfl, rfl, by decide +kernel, rfl, by decide +kernel, by decide +kernel⟩
theorem bd_l_program_of (kV doc pm : Value) (an : Option Addr) (cdv ct : Value) (us : List Value) (hl : us.length = (["_law_steps"] : List Str).length) : bindArgs (PySem.W.fnOf d_l_program_of.name d_l_program_of.qual (defArgs s_l_program_of) (defBody s_l_program_of) (defScope s_l_program_of) .none kV doc pm an cdv ct) ⟨us, []⟩ = pure ((["_law_steps"] : List Str).zip us) := match us, hl with | [_], _ => rfl
theorem fd_l_led_right : fds[46]? = some d_l_led_right := rfl
def n_l_led_right : List Str := ["_law_made", "_law_rounds", "_law_x", "_law_y", "_law_many", "_law_known", "_law_back", "_law_here"]
theorem sc_l_led_right : FnScope ["_law_made", "_law_rounds", "_law_x", "_law_y", "_law_many", "_law_known", "_law_back", "_law_here"] ["_law_made", "_law_rounds"] (defScope s_l_led_right) := ⟨rfl, rfl, rfl, by decide +kernel, rfl, by decide +kernel, by decide +kernel⟩
theorem bd_l_led_right (kV doc pm : Value) (an : Option Addr) (cdv ct : Value) (us : List Value) (hl : us.length = (["_law_made", "_law_rounds"] : List Str).length) : bindArgs (PySem.W.fnOf d_l_led_right.name d_l_led_right.qual (defArgs s_l_led_right) (defBody s_l_led_right) (defScope s_l_led_right) .none kV doc pm an cdv ct) ⟨us, []⟩ = pure ((["_law_made", "_law_rounds"] : List Str).zip us) := match us, hl with | [_, _], _ => rfl
theorem fd_law : fds[47]? = some d_law := rfl
def n_law : List Str := ["_law_script", "_law_state", "_law_turn", "_law_steps", "_law_sizes_here", "_law_made", "_law_rounds", "_law_x", "_law_y", "_law_many", "_law_fan", "_law_known", "_law_high", "_law_lap", "_law_several", "_law_passes_here", "_law_place"]
theorem sc_law : FnScope ["_law_script", "_law_state", "_law_turn", "_law_steps", "_law_sizes_here", "_law_made", "_law_rounds", "_law_x", "_law_y", "_law_many", "_law_fan", "_law_known", "_law_high", "_law_lap", "_law_several", "_law_passes_here", "_law_place"] ["_law_script"] (defScope s_law) := ⟨rfl, rfl, rfl, by decide +kernel, rfl, by decide +kernel, by decide +kernel⟩
theorem bd_law (kV doc pm : Value) (an : Option Addr) (cdv ct : Value) (us : List Value) (hl : us.length = (["_law_script"] : List Str).length) : bindArgs (PySem.W.fnOf d_law.name d_law.qual (defArgs s_law) (defBody s_law) (defScope s_law) .none kV doc pm an cdv ct) ⟨us, []⟩ = pure ((["_law_script"] : List Str).zip us) := match us, hl with | [_], _ => rfl
theorem fd_Rule_init : fds[48]? = some d_Rule_init := rfl
def n_Rule_init : List Str := ["self", "coefficients", "at", "number"]
theorem sc_Rule_init : FnScope ["self", "coefficients", "at", "number"] ["self", "coefficients"] (defScope s_Rule_init) := ⟨rfl, rfl, rfl, by decide +kernel, rfl, by decide +kernel, by decide +kernel⟩
theorem fd_Rule_coefficients : fds[49]? = some d_Rule_coefficients := rfl
def n_Rule_coefficients : List Str := ["self"]
theorem sc_Rule_coefficients : FnScope ["self"] ["self"] (defScope s_Rule_coefficients) := ⟨rfl, rfl, rfl, by decide +kernel, rfl, by decide +kernel, by decide +kernel⟩
theorem bd_Rule_coefficients (kV doc pm : Value) (an : Option Addr) (cdv ct : Value) (us : List Value) (hl : us.length = (["self"] : List Str).length) : bindArgs (PySem.W.fnOf d_Rule_coefficients.name d_Rule_coefficients.qual (defArgs s_Rule_coefficients) (defBody s_Rule_coefficients) (defScope s_Rule_coefficients) .none kV doc pm an cdv ct) ⟨us, []⟩ = pure ((["self"] : List Str).zip us) := match us, hl with | [_], _ => rfl
theorem fd_Rule_degree : fds[50]? = some d_Rule_degree := rfl
def n_Rule_degree : List Str := ["self"]
theorem sc_Rule_degree : FnScope ["self"] ["self"] (defScope s_Rule_degree) := ⟨rfl, rfl, rfl, by decide +kernel, rfl, by decide +kernel, by decide +kernel⟩
theorem bd_Rule_degree (kV doc pm : Value) (an : Option Addr) (cdv ct : Value) (us : List Value) (hl : us.length = (["self"] : List Str).length) : bindArgs (PySem.W.fnOf d_Rule_degree.name d_Rule_degree.qual (defArgs s_Rule_degree) (defBody s_Rule_degree) (defScope s_Rule_degree) .none kV doc pm an cdv ct) ⟨us, []⟩ = pure ((["self"] : List Str).zip us) := match us, hl with | [_], _ => rfl
theorem fd_Rule_getitem : fds[51]? = some d_Rule_getitem := rfl
def n_Rule_getitem : List Str := ["self", "power"]
theorem sc_Rule_getitem : FnScope ["self", "power"] ["self", "power"] (defScope s_Rule_getitem) := ⟨rfl, rfl, rfl, by decide +kernel, rfl, by decide +kernel, by decide +kernel⟩
theorem bd_Rule_getitem (kV doc pm : Value) (an : Option Addr) (cdv ct : Value) (us : List Value) (hl : us.length = (["self", "power"] : List Str).length) : bindArgs (PySem.W.fnOf d_Rule_getitem.name d_Rule_getitem.qual (defArgs s_Rule_getitem) (defBody s_Rule_getitem) (defScope s_Rule_getitem) .none kV doc pm an cdv ct) ⟨us, []⟩ = pure ((["self", "power"] : List Str).zip us) := match us, hl with | [_, _], _ => rfl
theorem fd_Rule_rmul : fds[52]? = some d_Rule_rmul := rfl
def n_Rule_rmul : List Str := ["self", "other", "number"]
theorem sc_Rule_rmul : FnScope ["self", "other", "number"] ["self", "other"] (defScope s_Rule_rmul) := ⟨rfl, rfl, rfl, by decide +kernel, rfl, by decide +kernel, by decide +kernel⟩
theorem bd_Rule_rmul (kV doc pm : Value) (an : Option Addr) (cdv ct : Value) (us : List Value) (hl : us.length = (["self", "other"] : List Str).length) : bindArgs (PySem.W.fnOf d_Rule_rmul.name d_Rule_rmul.qual (defArgs s_Rule_rmul) (defBody s_Rule_rmul) (defScope s_Rule_rmul) .none kV doc pm an cdv ct) ⟨us, []⟩ = pure ((["self", "other"] : List Str).zip us) := match us, hl with | [_, _], _ => rfl
theorem fd_Rule_neg : fds[53]? = some d_Rule_neg := rfl
def n_Rule_neg : List Str := ["self", "number"]
theorem sc_Rule_neg : FnScope ["self", "number"] ["self"] (defScope s_Rule_neg) := ⟨rfl, rfl, rfl, by decide +kernel, rfl, by decide +kernel, by decide +kernel⟩
theorem bd_Rule_neg (kV doc pm : Value) (an : Option Addr) (cdv ct : Value) (us : List Value) (hl : us.length = (["self"] : List Str).length) : bindArgs (PySem.W.fnOf d_Rule_neg.name d_Rule_neg.qual (defArgs s_Rule_neg) (defBody s_Rule_neg) (defScope s_Rule_neg) .none kV doc pm an cdv ct) ⟨us, []⟩ = pure ((["self"] : List Str).zip us) := match us, hl with | [_], _ => rfl
theorem fd_Rule_behind : fds[54]? = some d_Rule_behind := rfl
def n_Rule_behind : List Str := ["self", "other", "found", "number"]
theorem sc_Rule_behind : FnScope ["self", "other", "found", "number"] ["self", "other"] (defScope s_Rule_behind) := ⟨rfl, rfl, rfl, by decide +kernel, rfl, by decide +kernel, by decide +kernel⟩
theorem bd_Rule_behind (kV doc pm : Value) (an : Option Addr) (cdv ct : Value) (us : List Value) (hl : us.length = (["self", "other"] : List Str).length) : bindArgs (PySem.W.fnOf d_Rule_behind.name d_Rule_behind.qual (defArgs s_Rule_behind) (defBody s_Rule_behind) (defScope s_Rule_behind) .none kV doc pm an cdv ct) ⟨us, []⟩ = pure ((["self", "other"] : List Str).zip us) := match us, hl with | [_, _], _ => rfl
theorem fd_Program_init : fds[55]? = some d_Program_init := rfl
def n_Program_init : List Str := ["self", "steps", "at", "step"]
theorem sc_Program_init : FnScope ["self", "steps", "at", "step"] ["self", "steps"] (defScope s_Program_init) := ⟨rfl, rfl, rfl, by decide +kernel, rfl, by decide +kernel, by decide +kernel⟩
theorem fd_Program_steps : fds[56]? = some d_Program_steps := rfl
def n_Program_steps : List Str := ["self"]
theorem sc_Program_steps : FnScope ["self"] ["self"] (defScope s_Program_steps) := ⟨rfl, rfl, rfl, by decide +kernel, rfl, by decide +kernel, by decide +kernel⟩
theorem bd_Program_steps (kV doc pm : Value) (an : Option Addr) (cdv ct : Value) (us : List Value) (hl : us.length = (["self"] : List Str).length) : bindArgs (PySem.W.fnOf d_Program_steps.name d_Program_steps.qual (defArgs s_Program_steps) (defBody s_Program_steps) (defScope s_Program_steps) .none kV doc pm an cdv ct) ⟨us, []⟩ = pure ((["self"] : List Str).zip us) := match us, hl with | [_], _ => rfl
theorem fd_Program_call : fds[57]? = some d_Program_call := rfl
def n_Program_call : List Str := ["self", "x", "y", "step"]
theorem sc_Program_call : FnScope ["self", "x", "y", "step"] ["self", "x", "y"] (defScope s_Program_call) := ⟨rfl, rfl, rfl, by decide +kernel, rfl, by decide +kernel, by decide +kernel⟩
theorem bd_Program_call (kV doc pm : Value) (an : Option Addr) (cdv ct : Value) (us : List Value) (hl : us.length = (["self", "x", "y"] : List Str).length) : bindArgs (PySem.W.fnOf d_Program_call.name d_Program_call.qual (defArgs s_Program_call) (defBody s_Program_call) (defScope s_Program_call) .none kV doc pm an cdv ct) ⟨us, []⟩ = pure ((["self", "x", "y"] : List Str).zip us) := match us, hl with | [_, _, _], _ => rfl
theorem fd_Program_invert : fds[58]? = some d_Program_invert := rfl
def n_Program_invert : List Str := ["self", "step"]
theorem sc_Program_invert : FnScope ["self", "step"] ["self"] (defScope s_Program_invert) := ⟨rfl, rfl, rfl, by decide +kernel, rfl, by decide +kernel, by decide +kernel⟩
theorem bd_Program_invert (kV doc pm : Value) (an : Option Addr) (cdv ct : Value) (us : List Value) (hl : us.length = (["self"] : List Str).length) : bindArgs (PySem.W.fnOf d_Program_invert.name d_Program_invert.qual (defArgs s_Program_invert) (defBody s_Program_invert) (defScope s_Program_invert) .none kV doc pm an cdv ct) ⟨us, []⟩ = pure ((["self"] : List Str).zip us) := match us, hl with | [_], _ => rfl
theorem fd_Program_passes : fds[59]? = some d_Program_passes := rfl
def n_Program_passes : List Str := ["self", "n", "step"]
theorem sc_Program_passes : FnScope ["self", "n", "step"] ["self", "n"] (defScope s_Program_passes) := ⟨rfl, rfl, rfl, by decide +kernel, rfl, by decide +kernel, by decide +kernel⟩
theorem bd_Program_passes (kV doc pm : Value) (an : Option Addr) (cdv ct : Value) (us : List Value) (hl : us.length = (["self", "n"] : List Str).length) : bindArgs (PySem.W.fnOf d_Program_passes.name d_Program_passes.qual (defArgs s_Program_passes) (defBody s_Program_passes) (defScope s_Program_passes) .none kV doc pm an cdv ct) ⟨us, []⟩ = pure ((["self", "n"] : List Str).zip us) := match us, hl with | [_, _], _ => rfl
theorem fd_Word_init : fds[60]? = some d_Word_init := rfl
def n_Word_init : List Str := ["self"]
theorem sc_Word_init : FnScope ["self"] ["self"] (defScope s_Word_init) := ⟨rfl, rfl, rfl, by decide +kernel, rfl, by decide +kernel, by decide +kernel⟩
theorem bd_Word_init (kV doc pm : Value) (an : Option Addr) (cdv ct : Value) (us : List Value) (hl : us.length = (["self"] : List Str).length) : bindArgs (PySem.W.fnOf d_Word_init.name d_Word_init.qual (defArgs s_Word_init) (defBody s_Word_init) (defScope s_Word_init) .none kV doc pm an cdv ct) ⟨us, []⟩ = pure ((["self"] : List Str).zip us) := match us, hl with | [_], _ => rfl
theorem fd_Word_bend : fds[61]? = some d_Word_bend := rfl
def n_Word_bend : List Str := ["self", "rule", "e", "n", "s", "f", "t", "inner", "more"]
theorem sc_Word_bend : FnScope ["self", "rule", "e", "n", "s", "f", "t", "inner", "more"] ["self", "rule"] (defScope s_Word_bend) := ⟨rfl, rfl, rfl, by decide +kernel, rfl, by decide +kernel, by decide +kernel⟩
theorem bd_Word_bend (kV doc pm : Value) (an : Option Addr) (cdv ct : Value) (us : List Value) (hl : us.length = (["self", "rule"] : List Str).length) : bindArgs (PySem.W.fnOf d_Word_bend.name d_Word_bend.qual (defArgs s_Word_bend) (defBody s_Word_bend) (defScope s_Word_bend) .none kV doc pm an cdv ct) ⟨us, []⟩ = pure ((["self", "rule"] : List Str).zip us) := match us, hl with | [_, _], _ => rfl
theorem fd_Word_move : fds[62]? = some d_Word_move := rfl
def n_Word_move : List Str := ["self", "s", "t"]
theorem sc_Word_move : FnScope ["self", "s", "t"] ["self", "s", "t"] (defScope s_Word_move) := ⟨rfl, rfl, rfl, by decide +kernel, rfl, by decide +kernel, by decide +kernel⟩
theorem bd_Word_move (kV doc pm : Value) (an : Option Addr) (cdv ct : Value) (us : List Value) (hl : us.length = (["self", "s", "t"] : List Str).length) : bindArgs (PySem.W.fnOf d_Word_move.name d_Word_move.qual (defArgs s_Word_move) (defBody s_Word_move) (defScope s_Word_move) .none kV doc pm an cdv ct) ⟨us, []⟩ = pure ((["self", "s", "t"] : List Str).zip us) := match us, hl with | [_, _, _], _ => rfl
theorem fd_Word_turn : fds[63]? = some d_Word_turn := rfl
def n_Word_turn : List Str := ["self", "a", "b", "c", "d", "e", "n", "s", "f", "t", "word", "i", "j", "k", "m", "sign", "turned", "size", "low", "high"]
theorem sc_Word_turn : FnScope ["self", "a", "b", "c", "d", "e", "n", "s", "f", "t", "word", "i", "j", "k", "m", "sign", "turned", "size", "low", "high"] ["self", "a", "b", "c", "d"] (defScope s_Word_turn) := ⟨rfl, rfl, rfl, by decide +kernel, rfl, by decide +kernel, by decide +kernel⟩
theorem bd_Word_turn (kV doc pm : Value) (an : Option Addr) (cdv ct : Value) (us : List Value) (hl : us.length = (["self", "a", "b", "c", "d"] : List Str).length) : bindArgs (PySem.W.fnOf d_Word_turn.name d_Word_turn.qual (defArgs s_Word_turn) (defBody s_Word_turn) (defScope s_Word_turn) .none kV doc pm an cdv ct) ⟨us, []⟩ = pure ((["self", "a", "b", "c", "d"] : List Str).zip us) := match us, hl with | [_, _, _, _, _], _ => rfl
theorem fd_Word_step : fds[64]? = some d_Word_step := rfl
def n_Word_step : List Str := ["self", "step"]
theorem sc_Word_step : FnScope ["self", "step"] ["self", "step"] (defScope s_Word_step) := ⟨rfl, rfl, rfl, by decide +kernel, rfl, by decide +kernel, by decide +kernel⟩
theorem bd_Word_step (kV doc pm : Value) (an : Option Addr) (cdv ct : Value) (us : List Value) (hl : us.length = (["self", "step"] : List Str).length) : bindArgs (PySem.W.fnOf d_Word_step.name d_Word_step.qual (defArgs s_Word_step) (defBody s_Word_step) (defScope s_Word_step) .none kV doc pm an cdv ct) ⟨us, []⟩ = pure ((["self", "step"] : List Str).zip us) := match us, hl with | [_, _], _ => rfl
theorem fd_Wedge_init : fds[65]? = some d_Wedge_init := rfl
def n_Wedge_init : List Str := ["self", "core", "couples", "height", "width", "rule", "numbers"]
theorem sc_Wedge_init : FnScope ["self", "core", "couples", "height", "width", "rule", "numbers"] ["self", "core"] (defScope s_Wedge_init) := ⟨rfl, rfl, rfl, by decide +kernel, rfl, by decide +kernel, by decide +kernel⟩
theorem bd_Wedge_init (kV doc pm : Value) (an : Option Addr) (cdv ct : Value) (us : List Value) (hl : us.length = (["self", "core"] : List Str).length) : bindArgs (PySem.W.fnOf d_Wedge_init.name d_Wedge_init.qual (defArgs s_Wedge_init) (defBody s_Wedge_init) (defScope s_Wedge_init) .none kV doc pm an cdv ct) ⟨us, []⟩ = pure ((["self", "core"] : List Str).zip us) := match us, hl with | [_, _], _ => rfl
theorem fd_Wedge_width : fds[66]? = some d_Wedge_width := rfl
def n_Wedge_width : List Str := ["self"]
theorem sc_Wedge_width : FnScope ["self"] ["self"] (defScope s_Wedge_width) := ⟨rfl, rfl, rfl, by decide +kernel, rfl, by decide +kernel, by decide +kernel⟩
theorem bd_Wedge_width (kV doc pm : Value) (an : Option Addr) (cdv ct : Value) (us : List Value) (hl : us.length = (["self"] : List Str).length) : bindArgs (PySem.W.fnOf d_Wedge_width.name d_Wedge_width.qual (defArgs s_Wedge_width) (defBody s_Wedge_width) (defScope s_Wedge_width) .none kV doc pm an cdv ct) ⟨us, []⟩ = pure ((["self"] : List Str).zip us) := match us, hl with | [_], _ => rfl
theorem fd_Wedge_reach : fds[67]? = some d_Wedge_reach := rfl
def n_Wedge_reach : List Str := ["self"]
theorem sc_Wedge_reach : FnScope ["self"] ["self"] (defScope s_Wedge_reach) := ⟨rfl, rfl, rfl, by decide +kernel, rfl, by decide +kernel, by decide +kernel⟩
theorem bd_Wedge_reach (kV doc pm : Value) (an : Option Addr) (cdv ct : Value) (us : List Value) (hl : us.length = (["self"] : List Str).length) : bindArgs (PySem.W.fnOf d_Wedge_reach.name d_Wedge_reach.qual (defArgs s_Wedge_reach) (defBody s_Wedge_reach) (defScope s_Wedge_reach) .none kV doc pm an cdv ct) ⟨us, []⟩ = pure ((["self"] : List Str).zip us) := match us, hl with | [_], _ => rfl
theorem fd_Wedge_contains : fds[68]? = some d_Wedge_contains := rfl
def n_Wedge_contains : List Str := ["self", "point"]
theorem sc_Wedge_contains : FnScope ["self", "point"] ["self", "point"] (defScope s_Wedge_contains) := ⟨rfl, rfl, rfl, by decide +kernel, rfl, by decide +kernel, by decide +kernel⟩
theorem bd_Wedge_contains (kV doc pm : Value) (an : Option Addr) (cdv ct : Value) (us : List Value) (hl : us.length = (["self", "point"] : List Str).length) : bindArgs (PySem.W.fnOf d_Wedge_contains.name d_Wedge_contains.qual (defArgs s_Wedge_contains) (defBody s_Wedge_contains) (defScope s_Wedge_contains) .none kV doc pm an cdv ct) ⟨us, []⟩ = pure ((["self", "point"] : List Str).zip us) := match us, hl with | [_, _], _ => rfl
end K5
set_option Elab.async false
set_option linter.all false
set_option maxRecDepth 100000
set_option maxHeartbeats 4000000
namespace K5
open PySem PySem.Spec PyProof.Rows L2
/-! a def of the text: called with all its parameters -/
structure Fx (P : Program) (w : World) (K : Fg) (mg : Str → Option Value) (base : Heap) (k : Nat) (f : Addr) (sp : Sp) : Prop where
  ex : ∃ fd ps, FnOk P w K mg base CX0 k f fd ps sp ∧ Binds K fd ps [] ∧ PySem.W.keepIn K (.ref f) = true
section
variable {P : Program} {w : World} {K : Fg} {mg : Str → Option Value} {base : Heap}
theorem Fx.raw {k : Nat} {f : Addr} {sp : Sp} (F : Fx P w K mg base k f sp) : FnR P w K mg base CX0 k f sp := by
  obtain ⟨fd, ps, F, b, _⟩ := F.ex
  exact (F.raw b .nil).imp fun vs H Q E h => by rw [List.append_nil]; exact h
theorem Fx.mono {j k : Nat} {f : Addr} {sp : Sp} (F : Fx P w K mg base j f sp) (h : j ≤ k) : Fx P w K mg base k f sp := by
  obtain ⟨fd, ps, F, b, q⟩ := F.ex
  exact ⟨fd, ps, F.mono h, b, q⟩
theorem Fx.imp {k : Nat} {f : Addr} {sp sp' : Sp} (F : Fx P w K mg base k f sp) (h : ∀ vs H Q E, sp' vs H Q E → sp vs H Q E) : Fx P w K mg base k f sp' := by
  obtain ⟨fd, ps, F, b, q⟩ := F.ex
  exact ⟨fd, ps, F.imp h, b, q⟩
theorem fx_mk {k i : Nat} {d : FD} {N ps : List Str} {sp : Sp} (T : TX K mg) (hd : fds[i]? = some d) (hdf : d.dfl = []) (S : FnScope N ps (defScope d.st))
    (bd : ∀ (kV doc pm : Value) (an : Option Addr) (cdv ct : Value) (us : List Value), us.length = ps.length → bindArgs (PySem.W.fnOf d.name d.qual (defArgs d.st) (defBody d.st) (defScope d.st) .none kV doc pm an cdv ct) ⟨us, []⟩ = pure (ps.zip us))
    (len : ∀ vs H Q E, sp vs H Q E → vs.length = ps.length)
    (body : ∀ (cdv : Value) (A : Around) (outer : List Env) (s : Shared) (H : Hp) (vs : List V) (Q : VK) (E : XK), Room k (A.deeper (envOfC d.qual (defScope d.st) s.heap.objs.size (d.ad K) cdv)) → sp vs H Q E →
      ∃ t, PSs (cxOf CX0 P w K mg base N d.qual (defScope d.st) (d.ad K) cdv A outer s H E).nox (defBody d.st) t ∧ t { nx := fun _ H' => Q .non H', rt := Q } (start N vs) H) : Fx P w K mg base (k + 1) (d.ad K) sp := by
  obtain ⟨fd, F⟩ := T.fn i d hd
  have e : d.dv K = [] := by
    show d.dfl.map (He.Dv.v K) = []
    rw [hdf]
    rfl
  rw [e] at F
  refine ⟨fd, ps, F.ok S len fun cdv A outer s H vs Q E hr h => ?_, FunD.bindsN F bd, F.kp⟩
  obtain ⟨t, ht, hq⟩ := body cdv A outer s H vs Q E hr h
  exact ⟨t, ht.nox, hq⟩
/-- .. with one default, that no call leaves out -/
theorem fx_mk1 {k i : Nat} {d : FD} {N ps : List Str} {sp : Sp} {v : He.Dv} (T : TX K mg) (hd : fds[i]? = some d) (hdf : d.dfl = [v]) (S : FnScope N ps (defScope d.st))
    (bd : ∀ (t : Addr) (kV doc pm : Value) (an : Option Addr) (cdv ct : Value) (us its : List Value), us.length = ps.length → its.length = 1 →
      ∃ k, bindArgs (PySem.W.fnOf d.name d.qual (defArgs d.st) (defBody d.st) (defScope d.st) (.ref t) kV doc pm an cdv ct) ⟨us, []⟩ = seqItems? (.ref t) >>= k ∧ k (some its.toArray) = pure (ps.zip (us ++ its.drop 1)))
    (len : ∀ vs H Q E, sp vs H Q E → vs.length = ps.length)
    (body : ∀ (cdv : Value) (A : Around) (outer : List Env) (s : Shared) (H : Hp) (vs : List V) (Q : VK) (E : XK), Room k (A.deeper (envOfC d.qual (defScope d.st) s.heap.objs.size (d.ad K) cdv)) → sp vs H Q E →
      ∃ t, PSs (cxOf CX0 P w K mg base N d.qual (defScope d.st) (d.ad K) cdv A outer s H E).nox (defBody d.st) t ∧ t { nx := fun _ H' => Q .non H', rt := Q } (start N vs) H) : Fx P w K mg base (k + 1) (d.ad K) sp := by
  obtain ⟨fd, F⟩ := T.fn i d hd
  have e : d.dv K = [He.Dv.v K v] := by
    show d.dfl.map (He.Dv.v K) = _
    rw [hdf]
    rfl
  rw [e] at F
  obtain ⟨ds, hv, hb⟩ := F.binds1 ps.length 1 (by simp) (by simp) fun t kV doc pm an cdv ct us its h1 h2 => bd t kV doc pm an cdv ct us its h1 (by simpa using h2)
  have e2 : ds = [] := by
    cases hv
    rfl
  subst e2
  refine ⟨fd, ps, F.ok S len fun cdv A outer s H vs Q E hr h => ?_, hb, F.kp⟩
  obtain ⟨t, ht, hq⟩ := body cdv A outer s H vs Q E hr h
  exact ⟨t, ht.nox, hq⟩
end
/-! calls -/
section
variable {X : Cx} {k j : Nat} {C f : Addr} {x m : Str} {sp : Sp} {p pos apos : Pos} {e o : Expr} {es : List Expr} {ta : TE} {t : TA}
theorem pe_f (F : Fx X.prog X.w X.K X.mg X.base k f sp) (hm : X.mg x = some (.ref f)) (hr : Room j X.A) (hk : k ≤ j) (hg : Gl X x) (ha : PA X (e :: es) t)
    (hdb : (x == ("__debug__" : Str)) = false := by decide) (he : starEach (e :: es) X.env = (false, eval e X.env) :: starEach es X.env := by rfl) (hpl : (backTo pos (starEach es X.env)).any (·.1) = false := by rfl) :
    PE X (.Call (.Name x p) (e :: es) [] pos) (tCall sp [] E0 t) := by
  obtain ⟨fd, ps, F, b, kp⟩ := F.ex
  exact pe_call F (hr.mono hk) hg hm kp b .nil pass0 ha hdb he hpl
theorem pe_new (F : Fx X.prog X.w X.K X.mg X.base k f sp) (M : Mk X.K C f) (hm : X.mg x = some (.ref C)) (hr : Room j X.A) (hk : k + 1 ≤ j) (hg : Gl X x) (ha : PA X (e :: es) t)
    (hdb : (x == ("__debug__" : Str)) = false := by decide) (he : starEach (e :: es) X.env = (false, eval e X.env) :: starEach es X.env := by rfl) (hpl : (backTo pos (starEach es X.env)).any (·.1) = false := by rfl) :
    PE X (.Call (.Name x p) (e :: es) [] pos) (tMake C sp [] E0 t) := by
  obtain ⟨fd, ps, F, b, kp⟩ := F.ex
  exact pe_make M F (hr.mono hk) hg hm b .nil pass0 ha hdb he hpl
theorem pe_new0 (F : Fx X.prog X.w X.K X.mg X.base k f sp) (M : Mk X.K C f) (hm : X.mg x = some (.ref C)) (hr : Room j X.A) (hk : k + 1 ≤ j) (hg : Gl X x) (hdb : (x == ("__debug__" : Str)) = false := by decide) :
    PE X (.Call (.Name x p) [] [] pos) (tMake C sp [] E0 tNil) := by
  obtain ⟨fd, ps, F, b, kp⟩ := F.ex
  exact pe_make0 M F (hr.mono hk) hg hm b .nil pass0 hdb
theorem pe_me {pl : Sem Bool} (F : Fx X.prog X.w X.K X.mg X.base k f sp) (c : Cls X.K C) (hm : Meth X.K C m f) (hr : Room j X.A) (hk : k ≤ j) (he : PE X o ta) (ha : PA X (e :: es) t)
    (hst : starEach (e :: es) X.env = (false, eval e X.env) :: starEach es X.env := by rfl) (hpl : (backTo pos (starEach es X.env)).any (·.1) = false := by rfl)
    (ht : eval (.Call (.Attribute o m apos) (e :: es) [] pos) X.env = (do
      let ov ← eval o X.env
      standAt apos.atName
      let (f, first) ← holding [ov] (getMethod ov m pl)
      callWith pos f first (backTo pos (starEach (e :: es) X.env)) (backToKw pos (keywordEach [] X.env))) := by rfl) :
    PE X (.Call (.Attribute o m apos) (e :: es) [] pos) (tMeth C m sp [] E0 ta t) := by
  obtain ⟨fd, ps, F, b, kp⟩ := F.ex
  exact pe_meth (pl := pl) he c hm F (hr.mono hk) b .nil pass0 ha hst hpl ht
theorem pe_pr {pp : Addr} (F : Fx X.prog X.w X.K X.mg X.base k f sp) (c : Cls X.K C) (hp : PropOf X.K C m pp f) (hr : Room j X.A) (hk : k + 1 ≤ j) (he : PE X o ta) (hab : attributeBase o m X.env (eval o X.env) = eval o X.env) : PE X (.Attribute o m pos) (tProp C sp [] E0 ta) := by
  obtain ⟨fd, ps, F, b, kp⟩ := F.ex
  exact pe_prop he c hp F (hr.mono hk) b .nil pass0 hab
end
/-! the facts in short -/
section
variable {K : Fg} {mg : Str → Option Value}
theorem TX.g (T : TX K mg) (x : Str) (h : globs.contains x = true := by decide +kernel) : mg x = some (.ref (glA x K)) := T.glo x (List.contains_iff_mem.mp h)
theorem TX.r (T : TX K mg) (x : Str) (h : frees.contains x = true := by decide +kernel) : mg x = none := T.fre x (List.contains_iff_mem.mp h)
theorem TX.c (T : TX K mg) (x : Str) (h : clss.contains x = true := by decide +kernel) : Cls K (glA x K) := T.cls x (List.contains_iff_mem.mp h)
theorem TX.m (T : TX K mg) (x : Str) (h : clss.contains x = true := by decide +kernel) : Mk K (glA x K) (meA x "__init__" K) := T.mkr x (List.contains_iff_mem.mp h)
theorem TX.a (T : TX K mg) (x f : Str) (h : noats.contains (x, f) = true := by decide +kernel) : NoAttr K (glA x K) f := T.nat (x, f) (List.contains_iff_mem.mp h)
theorem TX.me (T : TX K mg) (x f : Str) (h : mths.contains (x, f) = true := by decide +kernel) : Meth K (glA x K) f (meA x f K) := T.mth (x, f) (List.contains_iff_mem.mp h)
theorem TX.sp (T : TX K mg) (x f : Str) (h : spcs.contains (x, f) = true := by decide +kernel) : PySem.W.findIn K (.ref (glA x K)) f = some (some (.ref (meA x f K))) ∧ PySem.W.isFn K (.ref (meA x f K)) = true ∧ PySem.W.fnIn K (meA x f K) = true :=
  T.spc (x, f) (List.contains_iff_mem.mp h)
theorem TX.pr (T : TX K mg) (x f : Str) (h : prps.contains (x, f) = true := by decide +kernel) : PropOf K (glA x K) f (meA x f K) (gAd x f K) := T.prp (x, f) (List.contains_iff_mem.mp h)
end
/-! objects of the package, as they stand in the heap -/
abbrev ins1 (C dx : Addr) (f : Str) (t : Addr) : HO := .ins C dx [(f, .ref t)]
def RuleAt (K : Fg) (H : Hp) (r : Addr) (ns : List Int) : Prop := ∃ dx t, H r = some (.ins (glA "Rule" K) dx [("own_numbers", .ref t)]) ∧ H t = some (.tup (ns.map V.int))
def StepAt (K : Fg) (H : Hp) (v : V) : Stp → Prop
  | .x ns => ∃ a r, v = .ref a ∧ H a = some (.tup [.str "x", .ref r]) ∧ RuleAt K H r ns
  | .t a b c d => ∃ p, v = .ref p ∧ H p = some (.tup [.str "turn", .int a, .int b, .int c, .int d])
  | .m s t => ∃ p, v = .ref p ∧ H p = some (.tup [.str "move", .int s, .int t])
def StepsAt (K : Fg) (H : Hp) (vs : List V) (ss : List Stp) : Prop := Paired (StepAt K H) vs ss
def ProgAt (K : Fg) (H : Hp) (p : Addr) (ss : List Stp) : Prop := ∃ dx t vs, H p = some (.ins (glA "Program" K) dx [("own_steps", .ref t)]) ∧ H t = some (.tup vs) ∧ StepsAt K H vs ss
/-- of two heaps: what never changes (tuples, rules, programs) stands in both -/
def isFix : HO → Bool
  | .tup _ => true
  | .ins _ _ fs => fs.length == 1
  | _ => false
def Fixes (H H' : Hp) : Prop := ∀ b o, isFix o = true → H b = some o → H' b = some o
theorem Same.fix {H H' : Hp} (h : Same H H') : Fixes H H' := fun b o _ e => h b o e
theorem Fixes.trans {H H1 H2 : Hp} (a : Fixes H H1) (b : Fixes H1 H2) : Fixes H H2 := fun c o i h => b c o i (a c o i h)
theorem Fixes.refl (H : Hp) : Fixes H H := fun _ _ _ h => h
section
variable {K : Fg} {H H' : Hp}
theorem RuleAt.keep {r : Addr} {ns : List Int} (h : RuleAt K H r ns) (k : Fixes H H') : RuleAt K H' r ns := by
  obtain ⟨dx, t, h1, h2⟩ := h
  exact ⟨dx, t, k _ _ rfl h1, k _ _ rfl h2⟩
theorem StepAt.keep {v : V} {st : Stp} (h : StepAt K H v st) (k : Fixes H H') : StepAt K H' v st := by
  cases st with
  | x ns =>
    obtain ⟨a, r, h1, h2, h3⟩ := h
    exact ⟨a, r, h1, k _ _ rfl h2, h3.keep k⟩
  | t a b c d =>
    obtain ⟨p, h1, h2⟩ := h
    exact ⟨p, h1, k _ _ rfl h2⟩
  | m s t =>
    obtain ⟨p, h1, h2⟩ := h
    exact ⟨p, h1, k _ _ rfl h2⟩
theorem StepsAt.keep {vs : List V} {ss : List Stp} (h : StepsAt K H vs ss) (k : Fixes H H') : StepsAt K H' vs ss := Paired.mapP h fun _ _ z => z.keep k
theorem ProgAt.keep {p : Addr} {ss : List Stp} (h : ProgAt K H p ss) (k : Fixes H H') : ProgAt K H' p ss := by
  obtain ⟨dx, t, vs, h1, h2, h3⟩ := h
  exact ⟨dx, t, vs, k _ _ rfl h1, k _ _ rfl h2, h3.keep k⟩
theorem same_upd {p : Addr} {o : HO} (h : H p = none) : Same H (upd H p o) := fun b u e => by rw [upd_ne (ne_of_none e h)]; exact e
theorem Same.new {H1 : Hp} (s : Same H H1) {p : Addr} {o : HO} (h : H1 p = none) : Same H (upd H1 p o) := Same.trans s (same_upd h)
end
end K5
set_option Elab.async false
set_option linter.all false
set_option maxRecDepth 100000
set_option maxHeartbeats 4000000
namespace K5
open PySem PySem.Spec PyProof.Rows L2
section
variable {P : Program} {w : World} {K : Fg} {mg : Str → Option Value} {base : Heap}
theorem bi_isi : bootBuiltins "isinstance" = some (.builtin "isinstance") := by decide +kernel
theorem ty_int : bootBuiltins "int" = some (.type "int") := by decide +kernel
theorem ty_bool : bootBuiltins "bool" = some (.type "bool") := by decide +kernel
def spNum : Sp := fun vs H Q _ => ∃ i : Int, vs = [.int i] ∧ Q (.bl true) H
theorem ok_is_number_rules (T : TX K mg) : Fx P w K mg base 1 (glA "is_number_rules" K) spNum := by
  refine fx_mk T fd_is_number_rules rfl sc_is_number_rules bd_is_number_rules (fun vs H Q E h => ?_) (fun cdv A outer s H vs Q E hr h => ?_)
  · obtain ⟨i, rfl, _⟩ := h
    rfl
  · obtain ⟨i, rfl, q⟩ := h
    refine ⟨_, pss_one (ps_ret (pe_and (pe_callB call_isi (by rfl) (T.r "isinstance") bi_isi (pa_cons (pv 0) (pa_cons (pe_bltn (by rfl) (T.r "int") ty_int (v := .ty "int") rfl) pa_nil)))
      (pe_one (pe_not (pe_callB call_isi (by rfl) (T.r "isinstance") bi_isi (pa_cons (pv 0) (pa_cons (pe_bltn (by rfl) (T.r "bool") ty_bool (v := .ty "bool") rfl) pa_nil))))))), ?_⟩
    refine ⟨_, rfl, _, .ty "int", _, _, true, rfl, .ty "int", .base (.int i), kit_ty (by decide +kernel), true, rfl, iteT ?_⟩
    exact ⟨_, rfl, _, .ty "bool", _, _, false, rfl, .ty "bool", .base (.int i), kit_ty (by decide +kernel), false, rfl, q⟩
end
end K5
set_option Elab.async false
set_option linter.all false
set_option maxRecDepth 100000
set_option maxHeartbeats 4000000
namespace K5
open PySem PySem.Spec PyProof.Rows L2
theorem bi_len : bootBuiltins "len" = some (.builtin "len") := by decide +kernel
theorem bi_max : bootBuiltins "max" = some (.builtin "max") := by decide +kernel
theorem bi_min : bootBuiltins "min" = some (.builtin "min") := by decide +kernel
theorem bi_sum : bootBuiltins "sum" = some (.builtin "sum") := by decide +kernel
theorem bi_abs : bootBuiltins "abs" = some (.builtin "abs") := by decide +kernel
theorem bi_all : bootBuiltins "all" = some (.builtin "all") := by decide +kernel
theorem ty_list : bootBuiltins "list" = some (.type "list") := by decide +kernel
theorem ty_tuple : bootBuiltins "tuple" = some (.type "tuple") := by decide +kernel
theorem ty_str : bootBuiltins "str" = some (.type "str") := by decide +kernel
theorem ty_dict : bootBuiltins "dict" = some (.type "dict") := by decide +kernel
section
variable {K : Fg} {a b : Addr} {xs ys : List V}
theorem walk_itE : Walk (ItE K a) xs.length (fun H => SqT K H a xs) (YPair (fun i => some (.int (i : Nat))) (fun i => xs[i]?)) := by
  refine ⟨fun i _ hi q => ⟨xs, xs[i], q, by simp [hi]⟩, fun _ q => ⟨xs, q, Nat.le_refl _⟩, fun i H v H' _ q y => ?_⟩
  obtain ⟨T, x, h1, h2, h3, h4⟩ := y
  exact ⟨T, .int (i : Nat), x, h1, h2, h3, rfl, h4 xs q⟩
theorem walk_zipT {n : Nat} (hn : n = min xs.length ys.length) : Walk (RZ.ItzT K a b) n (fun H => SqT K H a xs ∧ SqT K H b ys) (YPair (fun i => xs[i]?) (fun i => ys[i]?)) := by
  subst hn
  refine ⟨fun i _ hi q => ?_, fun _ q => ⟨xs, ys, q.1, q.2, by omega⟩, fun i H v H' _ q y => ?_⟩
  · have h1 : i < xs.length := by omega
    have h2 : i < ys.length := by omega
    exact ⟨xs, ys, xs[i], ys[i], q.1, q.2, by simp [h1], by simp [h2]⟩
  · obtain ⟨T, x, z, h1, h2, h3, h4, h5⟩ := y
    exact ⟨T, x, z, h1, h2, h3, h4 xs q.1, h5 ys q.2⟩
end
theorem Same.rfl' {H : Hp} : Same H H := fun _ _ e => e
theorem Same.tr {H H1 H2 : Hp} (a : Same H H1) (b : Same H1 H2) : Same H H2 := fun c u e => b c u (a c u e)
theorem Same.upd {H H1 : Hp} (s : Same H H1) {p : Addr} {o : HO} (h : H p = none) : Same H (upd H1 p o) := fun b u e => by
  rw [upd_ne (ne_of_none e h)]
  exact s b u e
/-- a comprehension whose element leaves the heap as it was, but for what is new -/
theorem lc_all {J : It} {n : Nat} {G : Hp → Prop} {Y : Nat → Hp → V → Hp → Prop} (w : Walk J n G Y) {g : TG} {te : TE} {vs : List Nat} {σ : L2.St} {H1 : Hp} {D : Addr} {Qd : Hp → Prop} (R : Nat → Hp → V → Prop) (hD : H1 D = none)
    (hG : ∀ H, Same H1 H → G H) (hY : ∀ i H x H', Y i H x H' → Same H H') (hR : ∀ i H H' v, Fixes H H' → R i H v → R i H' v) (hn : n ≤ sizeLine)
    (elt : ∀ i x H H' (Q : VK), i < n → Same H1 H → Y i H x H' → (∀ y H4, Same H' H4 → R i H4 y → Q y H4) → g x (wipe σ vs) H' fun σ2 H2 => wipe σ2 vs = wipe σ vs ∧ te σ2 H2 Q)
    (hd : ∀ H acc, Same H1 H → H D = some (.lst acc) → acc.length = n → (∀ j v, acc[j]? = some v → R j H v) → Qd H) :
    ∃ W : Nat → Nat → Hp → Prop, (∃ m, W 0 m (upd H1 D (.lst []))) ∧ ∀ i m H, W i m H →
      (J.stop i H ∧ Qd H) ∨ (J.go i H ∧ ∃ Nx : Hp → Prop, (∀ H', Nx H' → ∃ m', m' < m ∧ W (i + 1) m' H') ∧ ∀ x H', J.yld i H x H' → g x (wipe σ vs) H' fun σ2 H2 => wipe σ2 vs = wipe σ vs ∧ tYes σ2 H2 fun b H3 =>
        if b = true then te σ2 H3 fun y H4 => ∃ acc, H4 D = some (.lst acc) ∧ acc.length < sizeLine ∧ Nx (upd H4 D (.lst (acc ++ [y]))) else Nx H3) := by
  refine lc_it w (fun i H => Same H1 H ∧ ∃ acc, H D = some (.lst acc) ∧ acc.length = i ∧ ∀ j v, acc[j]? = some v → R j H v) ⟨same_upd hD, [], upd_same, rfl, fun j v e => by simp at e⟩ (fun i H _ p => hG H p.1) (fun i x H H' hi p y => ?_) (fun H p => ?_)
  · obtain ⟨p1, acc, p2, p3, p4⟩ := p
    refine elt i x H H' _ hi p1 y fun z H4 sm r => ?_
    have s4 : Same H H4 := Same.tr (hY _ _ _ _ y) sm
    refine ⟨acc, s4 _ _ p2, by omega, fun b u e => ?_, acc ++ [z], upd_same, by simp [p3], fun j v e => ?_⟩
    · rw [upd_ne (ne_of_none e hD)]
      exact s4 b u (p1 b u e)
    · have fx : ∀ H5 : Hp, H5 D = some (.lst acc) → Fixes H5 (upd H5 D (.lst (acc ++ [z]))) := fun H5 e5 b o hb e => by
        have ne : b ≠ D := by
          intro q
          subst q
          rw [e5] at e
          cases e
          cases hb
        rw [upd_ne ne]
        exact e
      by_cases hj : j < acc.length
      · rw [List.getElem?_append_left hj] at e
        exact hR j H4 _ v (fx H4 (s4 _ _ p2)) (hR j H _ v (Same.fix s4) (p4 j v e))
      · have e2 : j = acc.length ∧ z = v := by
          rw [List.getElem?_append_right (by omega)] at e
          cases q : j - acc.length with
          | zero => rw [q] at e; exact ⟨by omega, by simpa using e⟩
          | succ k => rw [q] at e; simp at e
        obtain ⟨e3, rfl⟩ := e2
        rw [e3, p3]
        exact hR i H4 _ z (fx H4 (s4 _ _ p2)) r
  · obtain ⟨p1, acc, p2, p3, p4⟩ := p
    exact hd H acc p1 p2 p3 p4
theorem yat_same {xs : List V} : ∀ i H x H', YAt xs i H x H' → Same H H' := fun _ _ _ _ y => by rw [y.1]; exact fun _ _ e => e
theorem yfn_same {f : Nat → V} : ∀ i H x H', YFn f i H x H' → Same H H' := fun _ _ _ _ y => by rw [y.1]; exact fun _ _ e => e
theorem ypair_same {f g : Nat → Option V} : ∀ i H x H', YPair f g i H x H' → Same H H' := fun _ _ _ _ y => by
  obtain ⟨T, x, y, _, h2, rfl, _⟩ := y
  exact same_upd h2
/-- all elements known: the list itself -/
theorem acc_map {α : Type} {acc : List V} {zs : List α} {f : α → V} (h : acc.length = zs.length) (h2 : ∀ (j : Nat) (v : V), acc[j]? = some v → ∃ z, zs[j]? = some z ∧ v = f z) : acc = zs.map f := by
  apply List.ext_getElem?
  intro j
  rw [List.getElem?_map]
  cases e : acc[j]? with
  | none =>
    rw [List.getElem?_eq_none_iff] at e
    rw [List.getElem?_eq_none (by omega)]
    rfl
  | some v =>
    obtain ⟨z, h3, rfl⟩ := h2 j v e
    rw [h3]
    rfl
theorem Same.seqT {K : Fg} {H H' : Hp} {a : Addr} {xs : List V} (e : Same H H') (h : SqT K H a xs) : SqT K H' a xs := by
  rcases h with (h | ⟨o, h⟩) | h
  · exact .inl (.inl (e _ _ h))
  · exact .inl (.inr ⟨o, e _ _ h⟩)
  · exact .inr h
theorem iteD {c : Bool} {A B : Prop} (hc : c = true) (h : A) : if c = true then A else B := by
  rw [if_pos hc]
  exact h
theorem iteE {c : Bool} {A B : Prop} (hc : c = false) (h : B) : if c = true then A else B := by
  rw [hc]
  exact iteF h
theorem small2 {n : Nat} (h : n ≤ 1000) : n ≤ sizeLine := Nat.le_trans h (by decide)
end K5
set_option Elab.async false
set_option linter.all false
set_option maxRecDepth 100000
set_option maxHeartbeats 4000000
namespace K5
open PySem PySem.Spec PyProof.Rows L2
section
variable {P : Program} {w : World} {K : Fg} {mg : Str → Option Value} {base : Heap}
theorem ok_is_number_fates (T : TX K mg) : Fx P w K mg base 1 (d_is_number_fates.ad K) (spNum) := by
  refine fx_mk T fd_is_number_fates rfl sc_is_number_fates bd_is_number_fates (fun vs H Q E h => ?_) (fun cdv A outer s H vs Q E hr h => ?_)
  · obtain ⟨i, rfl, _⟩ := h
    rfl
  · obtain ⟨i, rfl, q⟩ := h
    refine ⟨_, (pss_one (ps_ret (pe_and (pe_callB call_isi (by rfl) (T.r "isinstance") bi_isi (pa_cons (pv 0) (pa_cons (pe_bltn (by rfl) (T.r "int") ty_int (v := .ty "int") rfl) pa_nil))) (pe_one (pe_not (pe_callB call_isi (by rfl) (T.r "isinstance") bi_isi (pa_cons (pv 0) (pa_cons (pe_bltn (by rfl) (T.r "bool") ty_bool (v := .ty "bool") rfl) pa_nil)))))))), ?_⟩
    refine ⟨_, rfl, ?_⟩
    refine ⟨_, .ty "int", _, _, true, rfl, .ty "int", .base (.int i), kit_ty (by decide +kernel), true, rfl, iteT ?_⟩
    exact ⟨_, rfl, _, .ty "bool", _, _, false, rfl, .ty "bool", .base (.int i), kit_ty (by decide +kernel), false, rfl, q⟩
theorem ok_is_from (T : TX K mg) : Fx P w K mg base 2 (d_is_from.ad K) (fun vs H Q _ => ∃ i l : Int, vs = [.int i, .int l] ∧ Q (.bl (decide (l ≤ i))) H) := by
  refine fx_mk T fd_is_from rfl sc_is_from bd_is_from (fun vs H Q E h => ?_) (fun cdv A outer s H vs Q E hr h => ?_)
  · obtain ⟨i, l, rfl, _⟩ := h
    rfl
  · obtain ⟨i, l, rfl, q⟩ := h
    refine ⟨_, (pss_one (ps_ret (pe_and (pe_f (ok_is_number_rules T) (T.g "is_number_rules") hr (by decide) (by rfl) (pa_cons (pv 0) pa_nil)) (pe_one (pe_cmpR op_ge (pv 0) (pv 1) (nomark _)))))), ?_⟩
    refine ⟨_, rfl, _, rfl, _, rfl, iteT ?_⟩
    exact ⟨_, rfl, _, rfl, _, _, rfl, rfl, q⟩
def spLst (K : Fg) : Sp := fun vs H Q _ => ∃ a xs, vs = [.ref a] ∧ (H a = some (.lst xs) ∨ H a = some (.tup xs)) ∧ ∀ H', Same H H' → Q (.bl true) H'
theorem ok_is_list (T : TX K mg) : Fx P w K mg base 1 (d_is_list.ad K) (spLst K) := by
  refine fx_mk T fd_is_list rfl sc_is_list bd_is_list (fun vs H Q E h => ?_) (fun cdv A outer s H vs Q E hr h => ?_)
  · obtain ⟨a, xs, rfl, _⟩ := h
    rfl
  · obtain ⟨a, xs, rfl, ha, q⟩ := h
    refine ⟨_, (pss_one (ps_ret (pe_callB call_isiT (by rfl) (T.r "isinstance") bi_isi (pa_cons (pv 0) (pa_cons (pe_tup (pa_cons (pe_bltn (by rfl) (T.r "list") ty_list (v := .ty "list") rfl) (pa_cons (pe_bltn (by rfl) (T.r "tuple") ty_tuple (v := .ty "tuple") rfl) pa_nil))) pa_nil))))), ?_⟩
    refine ⟨_, rfl, ⟨by show 2 ≤ sizeLine; decide, fun p hp => ?_⟩⟩
    have s1 : Same H (upd H p (.tup [.ty "list", .ty "tuple"])) := same_upd hp
    rcases ha with ha | ha
    · exact ⟨_, p, _, _, _, true, rfl, upd_same, .cons (.ty "list") (.cons (.ty "tuple") .nil), .base (.lst (s1 _ _ ha)), kitAny_cons (kit_ty (by decide +kernel) (r := true)) (by simp) (fun _ => rfl), q _ s1⟩
    · exact ⟨_, p, _, _, _, true, rfl, upd_same, .cons (.ty "list") (.cons (.ty "tuple") .nil), .base (.tup (s1 _ _ ha)), kitAny_cons (kit_ty (by decide +kernel) (r := false)) (fun _ => kitAny_cons (kit_ty (by decide +kernel) (r := true)) (by simp) (fun _ => rfl)) (by simp), q _ s1⟩
end
end K5
set_option Elab.async false
set_option linter.all false
set_option maxRecDepth 100000
set_option maxHeartbeats 4000000
namespace K5
open PySem PySem.Spec PyProof.Rows L2
theorem map_get {α β : Type} {f : α → β} {l : List α} {i : Nat} {x : α} (h : l[i]? = some x) : (l.map f)[i]? = some (f x) := by rw [List.getElem?_map, h]; rfl
theorem cut_to (xs : List V) (m : Nat) (h : m ≤ xs.length) : cutV xs none (some (m : Int)) = xs.take m := by
  unfold cutV
  rw [HT.sIx_none, HT.sIx_nat, Nat.min_eq_left h]
  rfl
theorem trim_step {ns : List Int} {m : Nat} (hm : m + 1 ≤ ns.length) (h0 : ns[m]? = some 0) : trim (ns.take (m + 1)) = trim (ns.take m) := by
  rw [List.take_succ, h0]
  exact trim_snoc0 _
theorem trim_stop {ns : List Int} {m : Nat} {z : Int} (hm : m + 1 ≤ ns.length) (h0 : ns[m]? = some z) (hz : z ≠ 0) : trim (ns.take (m + 1)) = ns.take (m + 1) := by
  rw [List.take_succ, h0]
  exact trim_snoc z hz _
section
variable {P : Program} {w : World} {K : Fg} {mg : Str → Option Value} {base : Heap}
def spTrim (K : Fg) : Sp := fun vs H Q _ => ∃ a ns, vs = [.ref a] ∧ SqL K H a (ns.map V.int) ∧ ∀ H' p, Same H H' → H' p = some (.tup ((trim ns).map V.int)) → Q (.ref p) H'
theorem ok_without_end (T : TX K mg) : Fx P w K mg base 1 (d_without_end.ad K) (spTrim K) := by
  refine fx_mk T fd_without_end rfl sc_without_end bd_without_end (fun vs H Q E h => ?_) (fun cdv A outer s H vs Q E hr h => ?_)
  · obtain ⟨a, ns, rfl, _⟩ := h
    rfl
  · obtain ⟨a, ns, rfl, ha, q⟩ := h
    refine ⟨_, (pss_cons (ps_set (i := 1) sc_without_end.nd rfl (.inl rfl) (pe_callB call_len_seq (by rfl) (T.r "len") bi_len (pa_cons (pv 0) pa_nil))) (pss_cons (ps_while PassesOwn.never (PW.pt (pw_and (pt_cmpR op_gt (pv 1) pe_int (nomark _)) (pw_and1 (pt_cmpR op_eq (pe_ix ix_list (pv 0) (pe_op op_sub (pv 1) pe_int) (fun _ _ => rfl)) pe_int (nomark _))))) (pss_one (ps_aug (i := 1) sc_without_end.nd rfl (.inl rfl) pe_int ip_sub))) (pss_one (ps_ret (pe_callTy call_tuple_of (by rfl) (T.r "tuple") ty_tuple (pa_cons (pe_slice sl_list (pv 0) po_none (po_some (pv 1))) pa_nil)))))), ?_⟩
    refine ⟨_, rfl, a, _, rfl, .inl ha, ?_⟩
    refine ⟨fun n σ H' => H' = H ∧ σ = [some (.ref a), some (.int (n : Nat))] ∧ n ≤ ns.length ∧ trim (ns.take n) = trim ns, ⟨ns.length, rfl, ?_, Nat.le_refl _, by rw [List.take_length]⟩, fun n σ H' hW => ?_⟩
    · show [some (V.ref a), some (V.int ((ns.map V.int).length : Nat))] = _
      rw [List.length_map]
    · obtain ⟨rfl, rfl, hn, ht⟩ := hW
      have stop : ns.take n = trim ns → tRet (tCB (fun xs H Q => ∃ p ys, xs = [.ref p] ∧ ((SqL K H p ys ∧ ∀ l, H l = none → Q (.ref l) (upd H l (.tup ys))) ∨ (SqT K H p ys ∧ Q (.ref p) H))) (tCons (tSl (rSlL K) (tVar 0) tNoPart (tPart (tVar 1))) tNil)) { nx := fun _ H' => Q .non H', rt := Q } [some (.ref a), some (.int (n : Nat))] H' := fun e => by
        refine ⟨_, rfl, _, rfl, _, rfl, a, _, rfl, ha, fun p hp => ?_⟩
        refine ⟨p, _, rfl, .inl ⟨SqL.of upd_same, fun l hl => ?_⟩⟩
        have s1 : Same H' (upd H' p (.lst (cutV (ns.map V.int) none (some (n : Int))))) := same_upd hp
        refine q _ _ (Same.tr s1 (same_upd hl)) ?_
        rw [upd_same, cut_to _ _ (by rw [List.length_map]; exact hn), ← List.map_take, e]
      refine ⟨_, rfl, _, _, rfl, rfl, _, rfl, ?_⟩
      refine ite2 (fun h1 => ?_) (fun h1 => ?_)
      · cases n with
        | zero => simp at h1
        | succ m =>
          have hm : m < ns.length := by omega
          have e1 : ns[m]? = some ns[m] := List.getElem?_eq_getElem hm
          refine ⟨_, rfl, _, rfl, _, _, rfl, rfl, a, _, _, .int ns[m], rfl, rfl, ha, ?_, ?_⟩
          · have z := atI_nat (map_get (f := V.int) e1)
            have e2 : ((m + 1 : Nat) : Int) - 1 = (m : Int) := by omega
            rw [e2]
            exact z
          · refine ⟨rfl, _, rfl, ?_⟩
            refine ite2 (fun h2 => ?_) (fun h2 => ?_)
            · have h2' : ns[m] = 0 := by simpa using h2
              refine ⟨fun σ' H2 => ∃ m', m' < m + 1 ∧ H2 = H' ∧ σ' = [some (.ref a), some (.int (m' : Nat))] ∧ m' ≤ ns.length ∧ trim (ns.take m') = trim ns, fun _ _ z => z, ?_⟩
              refine ⟨_, rfl, _, _, rfl, rfl, m, by omega, rfl, ?_, by omega, ?_⟩
              · show [some (V.ref a), some (V.int (((m + 1 : Nat) : Int) - 1))] = _
                rw [show ((m + 1 : Nat) : Int) - 1 = (m : Int) by omega]
              · rw [← trim_step hn (by rw [e1, h2']), ht]
            · have h2' : ns[m] ≠ 0 := by simpa using h2
              exact stop (by rw [← ht, trim_stop hn e1 h2'])
      · have n0 : n = 0 := by
          have : ¬ (0 : Int) < (n : Int) := by simpa using h1
          omega
        subst n0
        exact stop (by rw [← ht]; rfl)
/-! ### values -/
def Sm (i : Int) : Prop := i.natAbs.log2 < 400000
theorem Sm.mul {i j : Int} (a : Sm i) (b : Sm j) : CMulW i j := by
  unfold CMulW
  unfold Sm at a b
  omega
/-- the products of Horner's way are small enough -/
def OkV : List Int → Int → Prop
  | [], _ => True
  | _ :: r, t => OkV r t ∧ CMulW (pval r t) t
theorem okv_drop {r : List Int} {t : Int} (h : OkV r t) : ∀ n, OkV (r.drop n) t := fun n => by
  induction r generalizing n with
  | nil => simp; exact h
  | cons c r ih =>
    cases n with
    | zero => exact h
    | succ n => exact ih h.1 n
def spVal (K : Fg) : Sp := fun vs H Q _ => ∃ a ns t, vs = [.ref a, .int t] ∧ SqT K H a (ns.map V.int) ∧ OkV ns t ∧ ∀ H', Same H H' → Q (.int (pval ns t)) H'
theorem rev_at {ns : List Int} {i : Nat} {x : V} (h : ((ns.map V.int).reverse)[i]? = some x) : i < ns.length ∧ ∃ c, ns.drop (ns.length - (i + 1)) = c :: ns.drop (ns.length - i) ∧ x = .int c := by
  have hi : i < ns.length := by
    have := (List.getElem?_eq_some_iff.mp h).1
    simpa using this
  refine ⟨hi, ns[ns.length - (i + 1)]'(by omega), ?_, ?_⟩
  · rw [List.drop_eq_getElem_cons (by omega : ns.length - (i + 1) < ns.length), show ns.length - (i + 1) + 1 = ns.length - i by omega]
  · rw [List.getElem?_reverse (by simpa using hi), List.getElem?_map, List.length_map, show ns.length - 1 - i = ns.length - (i + 1) by omega, List.getElem?_eq_getElem (by omega)] at h
    exact (Option.some.inj h).symm
theorem ok_row_value (T : TX K mg) : Fx P w K mg base 1 (d_row_value.ad K) (spVal K) := by
  refine fx_mk T fd_row_value rfl sc_row_value bd_row_value (fun vs H Q E h => ?_) (fun cdv A outer s H vs Q E hr h => ?_)
  · obtain ⟨a, ns, t, rfl, _⟩ := h
    rfl
  · obtain ⟨a, ns, t, rfl, ha, ok, q⟩ := h
    refine ⟨_, (pss_cons (ps_set (i := 2) sc_row_value.nd rfl (.inl rfl) pe_int) (pss_cons (ps_for PassesOwn.never rfl (pi_tup (pe_revT (pv 0))) (pg_name (i := 3) sc_row_value.nd rfl (.inl rfl)) (pss_one (ps_set (i := 2) sc_row_value.nd rfl (.inl rfl) (pe_op op_add (pe_op op_mulW (pv 2) (pv 1)) (pv 3))))) (pss_one (ps_ret (pv 2))))), ?_⟩
    refine ⟨_, rfl, a, _, rfl, ha, fun p hp => ?_⟩
    have s1 : Same H (upd H p (.tup (ns.map V.int).reverse)) := same_upd hp
    refine ⟨p, rfl, ⟨_, SqT.of upd_same⟩, for_tup (xs := (ns.map V.int).reverse) (fun i σ H' => H' = upd H p (.tup (ns.map V.int).reverse) ∧ ∃ y, σ = [some (.ref a), some (.int t), some (.int (pval (ns.drop (ns.length - i)) t)), y])
      ⟨rfl, none, ?_⟩ (fun i σ H' _ h => by rw [h.1]; exact SqT.of upd_same) (fun i x σ H' hx hP => ?_) (fun σ H' hP => ?_)⟩
    · show [some (V.ref a), some (V.int t), some (V.int 0), none] = _
      rw [Nat.sub_zero, List.drop_length]
      rfl
    · obtain ⟨rfl, y, rfl⟩ := hP
      obtain ⟨hi, c, hc, rfl⟩ := rev_at hx
      have ok1 := okv_drop ok (ns.length - (i + 1))
      rw [hc] at ok1
      refine ⟨_, rfl, _, rfl, _, _, rfl, rfl, ok1.2, _, rfl, _, _, rfl, rfl, rfl, some (V.int c), ?_⟩
      rw [hc]
      show [some (V.ref a), some (V.int t), some (V.int (pval (ns.drop (ns.length - i)) t * t + c)), some (V.int c)] = [some (V.ref a), some (V.int t), some (V.int (c + t * pval (ns.drop (ns.length - i)) t)), some (V.int c)]
      rw [Int.mul_comm, Int.add_comm]
    · obtain ⟨rfl, y, rfl⟩ := hP
      refine ⟨_, rfl, ?_⟩
      rw [List.length_reverse, List.length_map, Nat.sub_self]
      exact q _ s1
end
end K5
set_option Elab.async false
set_option linter.all false
set_option maxRecDepth 100000
set_option maxHeartbeats 4000000
namespace K5
open PySem PySem.Spec PyProof.Rows L2
theorem ne_new {H : Hp} {a b : Addr} {u : HO} (h : H a = some u) (n : H b = none) : a ≠ b := ne_of_none h n
theorem Same.of_upd {H H1 : Hp} (s : Same H H1) {p : Addr} {o : HO} (h : H p = none) : Same H (L2.upd H1 p o) := fun b u e => by
  rw [upd_ne (ne_of_none e h)]
  exact s b u e
theorem none_back {H H1 : Hp} (s : Same H H1) {p : Addr} (h : H1 p = none) : H p = none := by
  cases e : H p with
  | none => rfl
  | some u => rw [s _ _ e] at h; cases h
theorem call_maxM {X : Cx} (hc : X.calm = true) : CallR X (.builtin "max") (fun xs H Q => ∃ i j, xs = [.int i, .int j] ∧ ∀ m, m = max i j → Q (.int m) H) := fun pins s σ H xs us Q I r h => by
  obtain ⟨i, j, e, q⟩ := h
  refine call_max2 hc pins s σ H xs us Q I r ⟨i, j, e, q _ ?_⟩
  split <;> omega
theorem ixn {n j : Nat} (h : j < n) : ixN n (j : Int) = some j := by
  unfold ixN
  rw [if_pos (by omega), if_pos (by omega)]
  simp
theorem rep0 (k : Nat) : (List.replicate k [V.int 0]).flatten = List.replicate k (V.int 0) := by
  induction k with
  | zero => rfl
  | succ k ih => rw [List.replicate_succ, List.flatten_cons, ih]; rfl
section
variable {P : Program} {w : World} {K : Fg} {mg : Str → Option Value} {base : Heap}
def spSum (K : Fg) : Sp := fun vs H Q _ => ∃ a b ns n, vs = [.ref a, .ref b, .int 1] ∧ SqL K H a (ns.map V.int) ∧ SqL K H b [.int n] ∧ ns.length ≤ 100 ∧ Sm n ∧ ∀ H' p, Same H H' → H' p = some (.lst ((add0 ns n).map V.int)) → Q (.ref p) H'
theorem ok_row_sum (T : TX K mg) : Fx P w K mg base 1 (d_row_sum.ad K) (spSum K) := by
  refine fx_mk T fd_row_sum rfl sc_row_sum bd_row_sum (fun vs H Q E h => ?_) (fun cdv A outer s H vs Q E hr h => ?_)
  · obtain ⟨a, b, ns, n, rfl, _⟩ := h
    rfl
  · obtain ⟨a, b, ns, n, rfl, ha, hb, hl, hn, q⟩ := h
    refine ⟨_, (pss_cons (ps_set (i := 3) sc_row_sum.nd rfl (.inl rfl) (pe_callB (call_maxM rfl) (by rfl) (T.r "max") bi_max (pa_cons (pe_callB call_len_seq (by rfl) (T.r "len") bi_len (pa_cons (pv 0) pa_nil)) (pa_cons (pe_callB call_len_seq (by rfl) (T.r "len") bi_len (pa_cons (pv 1) pa_nil)) pa_nil)))) (pss_cons (ps_set (i := 4) sc_row_sum.nd rfl (.inl rfl) (pe_lst (StX.pa_star (pv 0) (StX.pa_star (pe_op op_rep (pe_lst (pa_cons pe_int pa_nil)) (pe_op op_sub (pv 3) (pe_callB call_len_seq (by rfl) (T.r "len") bi_len (pa_cons (pv 0) pa_nil)))) pa_nil)))) (pss_cons (ps_for PassesOwn.never rfl (pi_enT (by rfl) (T.r "enumerate") (pa_cons (pv 1) pa_nil)) (pg_tup rfl (pgs_cons (pg_name (i := 5) sc_row_sum.nd rfl (.inl rfl)) (pgs_cons (pg_name (i := 6) sc_row_sum.nd rfl (.inl rfl)) pgs_nil))) (pss_one (ps_asg (pe_op op_add (pe_ix ix_list (pv 4) (pv 5) (fun _ _ => rfl)) (pe_op op_mulW (pv 2) (pv 6))) (pg_sub (pv 4) (pv 5) set_list)))) (pss_one (ps_ret (pv 4)))))), ?_⟩
    refine ⟨_, rfl, a, _, rfl, .inl ha, _, rfl, b, _, rfl, .inl hb, _, _, rfl, fun sz hsz => ?_⟩
    rw [List.length_map] at hsz
    have hsz : sz - ((ns.map V.int).length : Int) = ((1 - ns.length : Nat) : Int) := by
      have h1 : (([V.int n].length : Nat) : Int) = 1 := rfl
      rw [h1] at hsz
      rw [List.length_map]
      omega
    -- the new list
    refine ⟨_, rfl, a, _, rfl, .inr ha, ?_⟩
    refine ⟨by show 1 ≤ sizeLine; decide, fun z hz => ?_⟩
    refine ⟨_, rfl, _, rfl, a, _, rfl, .inl ((same_upd hz).seq ha), _, _, rfl, rfl, z, _, _, rfl, rfl, upd_same, by rw [hsz]; omega, by rw [hsz]; omega, by rw [hsz]; show 1 * _ ≤ sizeLine; exact Nat.le_trans (by omega : 1 * ((1 - ns.length : Nat) : Int).toNat ≤ 1) (by decide), fun y hy => ?_⟩
    refine ⟨y, _, rfl, .inr (SqL.of upd_same), ?_⟩
    have el : ns.map V.int ++ ((List.replicate (sz - ((ns.map V.int).length : Int)).toNat [V.int 0]).flatten ++ []) = ((ns ++ List.replicate (1 - ns.length) 0).map V.int) := by
      rw [hsz, Int.toNat_natCast, List.append_nil, List.map_append, List.map_replicate, rep0]
    have s0 := Same.of_upd (o := .lst (List.replicate (sz - ((ns.map V.int).length : Int)).toNat [V.int 0]).flatten) (same_upd (o := .lst [.int 0]) hz) (none_back (same_upd hz) hy)
    refine ⟨?_, fun l hl2 => ?_⟩
    · show (ns.map V.int ++ ((List.replicate (sz - ((ns.map V.int).length : Int)).toNat [V.int 0]).flatten ++ [])).length ≤ sizeLine
      rw [el, List.length_map, List.length_append, List.length_replicate]
      exact small2 (by omega)
    have hl0 : H l = none := none_back s0 hl2
    refine ⟨_, rfl, b, [.int n], rfl, .inl ⟨(Same.of_upd s0 hl0).seq hb, for_it (walk_enum (xs := [V.int n])) (fun i σ H' => ∃ y3 y5 y6, σ = [some (.ref a), some (.ref b), some (.int 1), y3, some (.ref l), y5, y6] ∧ Same H H' ∧ H' l = some (.lst ((if i = 0 then ns ++ List.replicate (1 - ns.length) 0 else add0 ns n).map V.int)))
      ⟨_, _, _, rfl, Same.of_upd s0 hl0, by rw [upd_same]; exact congrArg (fun l => some (HO.lst l)) el⟩ (fun i σ H' _ h => ?_) (fun i x σ H1' H' hi hP hY => ?_) (fun σ H' hP => ?_)⟩⟩
    · obtain ⟨_, _, _, _, s, _⟩ := h
      exact s.seq hb
    · obtain ⟨y3, y5, y6, rfl, s, hl3⟩ := hP
      have hi0 : i = 0 := by
        have : i < 1 := hi
        omega
      subst hi0
      obtain ⟨T, x1, x2, rfl, hT, rfl, e1, e2⟩ := hY
      cases e1
      have e2' : V.int n = x2 := Option.some.inj e2
      subst e2'
      have lT : l ≠ T := ne_new hl3 hT
      refine ⟨T, _, rfl, SqT.of upd_same, rfl, _, _, rfl, _, _, rfl, rfl, ?_⟩
      have hl4 : upd H1' T (.tup [.int ((0 : Nat) : Int), .int n]) l = some (.lst ((ns ++ List.replicate (1 - ns.length) 0).map V.int)) := by
        rw [upd_ne lT]
        exact hl3
      have e0 : ∃ c r, ns ++ List.replicate (1 - ns.length) 0 = c :: r ∧ add0 ns n = (c + 1 * n) :: r := by
        cases ns with
        | nil => exact ⟨0, [], rfl, by simp [add0]⟩
        | cons c r => exact ⟨c, r, by simp, by simp [add0]⟩
      obtain ⟨c, r, ec, en⟩ := e0
      rw [ec] at hl4
      refine ⟨_, rfl, _, rfl, l, _, _, .int c, rfl, rfl, SqL.of hl4, atI_nat rfl, ?_⟩
      refine ⟨_, rfl, _, rfl, _, _, rfl, rfl, ?_, _, _, rfl, rfl, ?_⟩
      · unfold Sm at hn
        unfold CMulW
        have : (1 : Int).natAbs.log2 = 0 := by decide
        omega
      refine ⟨_, rfl, _, rfl, l, _, _, 0, rfl, rfl, hl4, ixn (by simp), ?_⟩
      refine ⟨_, _, _, rfl, Same.of_upd (Same.of_upd s (none_back s hT)) hl0, ?_⟩
      rw [upd_same, if_neg (by omega), en]
      rfl
    · obtain ⟨y3, y5, y6, rfl, s, hl3⟩ := hP
      exact ⟨_, rfl, q _ _ s hl3⟩
end
end K5
set_option Elab.async false
set_option linter.all false
set_option maxRecDepth 100000
set_option maxHeartbeats 4000000
namespace K5
open PySem PySem.Spec PyProof.Rows L2
section
variable {P : Program} {w : World} {K : Fg} {mg : Str → Option Value} {base : Heap}
def spProd (K : Fg) : Sp := fun vs H Q _ => ∃ a b ns t f, vs = [.ref a, .ref b] ∧ SqL K H a (ns.map V.int) ∧ SqT K H b [.int t, .int f] ∧ ns.length ≤ 100 ∧ (∀ c ∈ ns, Sm c) ∧ Sm t ∧ Sm f ∧ ∀ H' p, Same H H' → H' p = some (.lst ((mulc t f ns 0).map V.int)) → Q (.ref p) H'
theorem set_mid (pre : List Int) (c d : Int) (r : List Int) : ((pre ++ c :: r).map V.int).set pre.length (.int d) = (pre ++ d :: r).map V.int := by
  rw [List.map_append, List.map_append, List.set_append_right _ _ (by simp)]
  simp
theorem get_mid (pre : List Int) (c : Int) (r : List Int) : ((pre ++ c :: r).map V.int)[pre.length]? = some (.int c) := by
  rw [List.getElem?_map, List.getElem?_append_right (Nat.le_refl _)]
  simp
theorem set_mid1 (pre : List Int) (x c d : Int) (r : List Int) : ((pre ++ x :: c :: r).map V.int).set (pre.length + 1) (.int d) = (pre ++ x :: d :: r).map V.int := by
  have := set_mid (pre ++ [x]) c d r
  simpa using this
theorem get_mid1 (pre : List Int) (x c : Int) (r : List Int) : ((pre ++ x :: c :: r).map V.int)[pre.length + 1]? = some (.int c) := by
  have := get_mid (pre ++ [x]) c r
  simpa using this
def rows (t f k c : Int) (pre z : List Int) : Nat → List Int
  | 0 => pre ++ k :: 0 :: z
  | 1 => pre ++ (k + c * t) :: 0 :: z
  | _ => pre ++ (k + c * t) :: (c * f) :: z
theorem ok_row_product (T : TX K mg) : Fx P w K mg base 1 (d_row_product.ad K) (spProd K) := by
  refine fx_mk T fd_row_product rfl sc_row_product bd_row_product (fun vs H Q E h => ?_) (fun cdv A outer s H vs Q E hr h => ?_)
  · obtain ⟨a, b, ns, t, f, rfl, _⟩ := h
    rfl
  · obtain ⟨a, b, ns, t, f, rfl, ha, hb, hl, hS, ht, hf, q⟩ := h
    refine ⟨_, (pss_cons (ps_setLc (i := 3) (own := [("place", 2)]) rfl sc_row_product.nd rfl rfl (sw_true rfl rfl rfl (by decide +kernel)) (pi_range1 (by rfl) (T.r "range") (pa_cons (pe_op op_sub (pe_op op_add (pe_callB call_len_seq (by rfl) (T.r "len") bi_len (pa_cons (pv 0) pa_nil)) (pe_callB call_len_seq (by rfl) (T.r "len") bi_len (pa_cons (pv 1) pa_nil))) pe_int) pa_nil)) (blkOk_by (own := [("place", 2)]) (N := n_row_product) (sc := defScope s_row_product) (by decide +kernel)) (fun _ _ _ _ _ => (pg_name (i := 2) sc_row_product.nd rfl (.inl rfl))) (fun _ _ _ _ _ => pts_nil) (fun _ _ _ _ _ => pe_int)) (pss_cons (ps_for PassesOwn.never rfl (pi_enT (by rfl) (T.r "enumerate") (pa_cons (pv 0) pa_nil)) (pg_tup rfl (pgs_cons (pg_name (i := 4) sc_row_product.nd rfl (.inl rfl)) (pgs_cons (pg_name (i := 5) sc_row_product.nd rfl (.inl rfl)) pgs_nil))) (pss_one (ps_for PassesOwn.never rfl (pi_enT (by rfl) (T.r "enumerate") (pa_cons (pv 1) pa_nil)) (pg_tup rfl (pgs_cons (pg_name (i := 2) sc_row_product.nd rfl (.inl rfl)) (pgs_cons (pg_name (i := 6) sc_row_product.nd rfl (.inl rfl)) pgs_nil))) (pss_one (ps_asg (pe_op op_add (pe_ix ix_list (pv 3) (pe_op op_add (pv 4) (pv 2)) (fun _ _ => rfl)) (pe_op op_mulW (pv 5) (pv 6))) (pg_sub (pv 3) (pe_op op_add (pv 4) (pv 2)) set_list)))))) (pss_one (ps_ret (pv 3))))), ?_⟩
    have hlen : ((ns.map V.int).length : Int) + (([V.int t, V.int f].length : Nat) : Int) - 1 = ((ns.length + 1 : Nat) : Int) := by
      rw [List.length_map]
      show (ns.length : Int) + ((2 : Nat) : Int) - 1 = _
      omega
    refine ⟨_, rfl, a, _, rfl, .inl ha, _, rfl, b, _, rfl, .inr hb, _, _, rfl, rfl, _, _, rfl, rfl, _, rfl, by rw [hlen]; omega, by rw [hlen]; omega, fun l hln => ?_⟩
    rw [hlen]
    refine lc_all walk_range (R := fun _ _ v => v = .int 0) hln (fun _ _ => trivial) yfn_same (fun _ _ _ _ _ r => r) (by rw [Int.toNat_natCast]; exact small2 (by omega)) (fun i x H1 H' Q' hi s hY hq => ⟨rfl, hq _ _ Same.rfl' rfl⟩) (fun H1 acc s1 hacc hal hav => ?_)
    have eacc : acc = (([] : List Int) ++ 0 :: List.replicate ns.length 0).map V.int := by
      show acc = (List.replicate (ns.length + 1) (0 : Int)).map V.int
      refine acc_map (by rw [hal, Int.toNat_natCast, List.length_replicate]) (fun j v e => ⟨0, ?_, hav j v e⟩)
      have := (List.getElem?_eq_some_iff.mp e).1
      rw [hal, Int.toNat_natCast] at this
      rw [List.getElem?_replicate, if_pos this]
    subst eacc
    refine ⟨_, rfl, a, ns.map V.int, rfl, .inl ⟨s1.seq ha, for_it (walk_enum (xs := ns.map V.int)) (fun i σ H' => ∃ y2 y4 y5 y6 pre k, σ = [some (.ref a), some (.ref b), y2, some (.ref l), y4, y5, y6] ∧ Same H H' ∧ pre.length = i ∧ H' l = some (.lst ((pre ++ k :: List.replicate (ns.length - i) 0).map V.int)) ∧ pre ++ mulc t f (ns.drop i) k = mulc t f ns 0)
      ⟨none, none, none, none, [], 0, rfl, s1, rfl, hacc, rfl⟩ (fun i σ H' _ h => ?_) (fun i x σ H2 H' hi hP hY => ?_) (fun σ H' hP => ?_)⟩⟩
    · obtain ⟨_, _, _, _, _, _, _, s, _⟩ := h
      exact s.seq ha
    · obtain ⟨y2, y4, y5, y6, pre, k, rfl, s, rfl, hl3, hm⟩ := hP
      rw [List.length_map] at hi
      obtain ⟨T, x1, x2, rfl, hT, rfl, e1, e2⟩ := hY
      cases e1
      obtain ⟨c, hc, rfl⟩ : ∃ c, ns[pre.length]? = some c ∧ x2 = .int c := by
        have e3 : (ns.map V.int)[pre.length]? = some x2 := e2
        rw [List.getElem?_map, List.getElem?_eq_getElem hi] at e3
        exact ⟨_, List.getElem?_eq_getElem hi, (Option.some.inj e3).symm⟩
      have ec : ns.drop pre.length = c :: ns.drop (pre.length + 1) := by
        rw [List.drop_eq_getElem_cons hi]
        rw [List.getElem?_eq_getElem hi] at hc
        rw [Option.some.inj hc]
      have er : List.replicate (ns.length - pre.length) (0 : Int) = 0 :: List.replicate (ns.length - (pre.length + 1)) 0 := by
        rw [show ns.length - pre.length = (ns.length - (pre.length + 1)) + 1 by omega]
        rfl
      have hcS : Sm c := hS c (List.mem_of_getElem? hc)
      have lT : l ≠ T := ne_new hl3 hT
      have hT0 := none_back s hT
      refine ⟨T, _, rfl, SqT.of upd_same, rfl, _, _, rfl, _, _, rfl, rfl, ?_⟩
      have s2 : Same H (upd H2 T (.tup [.int ((pre.length : Nat) : Int), .int c])) := Same.of_upd s hT0
      have hl4 : upd H2 T (.tup [.int ((pre.length : Nat) : Int), .int c]) l = some (.lst ((pre ++ k :: 0 :: List.replicate (ns.length - (pre.length + 1)) 0).map V.int)) := by
        rw [upd_ne lT, hl3, er]
      refine ⟨_, rfl, b, [.int t, .int f], rfl, .inr ⟨Same.seqT s2 hb, for_it (walk_itE (xs := [.int t, .int f])) (fun j σ H' => ∃ y2 y6, σ = [some (.ref a), some (.ref b), y2, some (.ref l), some (.int (pre.length : Nat)), some (.int c), y6] ∧ Same H H' ∧ H' l = some (.lst ((rows t f k c pre (List.replicate (ns.length - (pre.length + 1)) 0) j).map V.int)))
        ⟨_, _, rfl, s2, hl4⟩ (fun i σ H' _ h => ?_) (fun j x σ H3 H' hj hP hY => ?_) (fun σ H' hP => ?_)⟩⟩
      · obtain ⟨_, _, _, s, _⟩ := h
        exact Same.seqT s hb
      · obtain ⟨z2, z6, rfl, s3, hl5⟩ := hP
        obtain ⟨T2, x1, x2, rfl, hT2, rfl, e1, e2⟩ := hY
        cases e1
        have lT2 : l ≠ T2 := ne_new hl5 hT2
        have hT20 := none_back s3 hT2
        have hl0 : H l = none := hln
        match j, hj, e2, hl5 with
        | 0, _, e2, hl5 =>
          obtain rfl : V.int t = x2 := Option.some.inj e2
          have hl6 : upd H3 T2 (.tup [.int ((0 : Nat) : Int), .int t]) l = _ := (upd_ne lT2).trans hl5
          refine ⟨T2, _, rfl, SqT.of upd_same, rfl, _, _, rfl, _, _, rfl, rfl, ?_⟩
          have e0 : ((pre.length : Nat) : Int) + ((0 : Nat) : Int) = (pre.length : Nat) := by omega
          refine ⟨_, rfl, _, rfl, _, rfl, _, _, rfl, rfl, l, _, _, .int k, rfl, rfl, SqL.of hl6, by rw [e0]; exact atI_nat (get_mid pre k _), _, rfl, _, rfl, _, _, rfl, rfl, Sm.mul hcS ht, _, _, rfl, rfl, ?_⟩
          refine ⟨_, rfl, _, rfl, _, rfl, _, _, rfl, rfl, l, _, _, pre.length, rfl, rfl, hl6, by rw [e0]; exact ixn (by simp [rows]), _, _, rfl, Same.of_upd (Same.of_upd s3 hT20) hl0, ?_⟩
          rw [upd_same]
          exact congrArg (fun l => some (HO.lst l)) (set_mid pre k (k + c * t) _)
        | 1, _, e2, hl5 =>
          obtain rfl : V.int f = x2 := Option.some.inj e2
          have hl6 : upd H3 T2 (.tup [.int ((1 : Nat) : Int), .int f]) l = _ := (upd_ne lT2).trans hl5
          refine ⟨T2, _, rfl, SqT.of upd_same, rfl, _, _, rfl, _, _, rfl, rfl, ?_⟩
          have e0 : ((pre.length : Nat) : Int) + ((1 : Nat) : Int) = ((pre.length + 1 : Nat) : Int) := by omega
          refine ⟨_, rfl, _, rfl, _, rfl, _, _, rfl, rfl, l, _, _, .int 0, rfl, rfl, SqL.of hl6, by rw [e0]; exact atI_nat (get_mid1 pre _ 0 _), _, rfl, _, rfl, _, _, rfl, rfl, Sm.mul hcS hf, _, _, rfl, rfl, ?_⟩
          refine ⟨_, rfl, _, rfl, _, rfl, _, _, rfl, rfl, l, _, _, pre.length + 1, rfl, rfl, hl6, by rw [e0]; exact ixn (by simp [rows]), _, _, rfl, Same.of_upd (Same.of_upd s3 hT20) hl0, ?_⟩
          rw [upd_same]
          refine congrArg (fun l => some (HO.lst l)) ?_
          show List.set _ _ (V.int (0 + c * f)) = _
          rw [Int.zero_add]
          exact set_mid1 pre (k + c * t) 0 (c * f) _
        | j + 2, hj, _, _ => exact absurd hj (by show ¬ j + 2 < 2; omega)
      · obtain ⟨z2, z6, rfl, s3, hl5⟩ := hP
        refine ⟨_, _, _, _, pre ++ [k + c * t], c * f, rfl, s3, by simp, ?_, ?_⟩
        · rw [hl5]
          simp [rows]
        · rw [← hm, ec]
          simp [mulc]
    · obtain ⟨y2, y4, y5, y6, pre, k, rfl, s, hpl, hl3, hm⟩ := hP
      rw [List.length_map] at hpl hl3 hm
      refine ⟨_, rfl, q _ _ s ?_⟩
      rw [hl3, ← hm, List.drop_length, Nat.sub_self]
      rfl
end
end K5
set_option Elab.async false
set_option linter.all false
set_option maxRecDepth 100000
set_option maxHeartbeats 4000000
namespace K5
open PySem PySem.Spec PyProof.Rows L2
section
variable {P : Program} {w : World} {K : Fg} {mg : Str → Option Value} {base : Heap}
theorem ok_need_point (T : TX K mg) : Fx P w K mg base 2 (d_need_point.ad K) (fun vs H Q _ => ∃ x y : Int, vs = [.int x, .int y] ∧ Q .non H) := by
  refine fx_mk T fd_need_point rfl sc_need_point bd_need_point (fun vs H Q E h => ?_) (fun cdv A outer s H vs Q E hr h => ?_)
  · obtain ⟨i, l, rfl, _⟩ := h
    rfl
  · obtain ⟨i, l, rfl, q⟩ := h
    refine ⟨_, (pss_one (ps_if (PW.pt (pw_or (pt_not (pt_val (pe_f (ok_is_number_rules T) (T.g "is_number_rules") hr (by decide) (by rfl) (pa_cons (pv 0) pa_nil)))) (pw_or1 (pt_not (pt_val (pe_f (ok_is_number_rules T) (T.g "is_number_rules") hr (by decide) (by rfl) (pa_cons (pv 1) pa_nil))))))) (pss_one ps_never) pss_nil)), ?_⟩
    refine ⟨_, rfl, _, rfl, _, rfl, iteF ⟨_, rfl, _, rfl, _, rfl, iteF q⟩⟩
def InsOf (K : Fg) (H : Hp) (v : V) (C : Str) : Prop := ∃ a dx fs, v = .ref a ∧ H a = some (.ins (glA C K) dx fs)
theorem isi_own {H : Hp} {v : V} {C : Str} (T : TX K mg) (hc : clss.contains C = true) (h : InsOf K H v C) : ∃ t, TyX K H v t ∧ PySem.W.kitOne K t (.ref (glA C K)) = some true := by
  obtain ⟨a, dx, fs, rfl, ha⟩ := h
  have z := T.cla C (List.contains_iff_mem.mp hc)
  exact ⟨_, .base (.ins ha (T.c C hc) z.1 T.hn T.htk z.2), by unfold PySem.W.kitOne; rw [if_pos (beq_self_eq_true _)]⟩
theorem RuleAt.ins {H : Hp} {r : Addr} {ns : List Int} (h : RuleAt K H r ns) : InsOf K H (.ref r) "Rule" := let ⟨dx, t, h1, _⟩ := h; ⟨r, dx, _, rfl, h1⟩
theorem ProgAt.ins {H : Hp} {r : Addr} {ss : List Stp} (h : ProgAt K H r ss) : InsOf K H (.ref r) "Program" := let ⟨dx, t, vs, h1, _⟩ := h; ⟨r, dx, _, rfl, h1⟩
def spPrg (K : Fg) : Sp := fun vs H Q _ => ∃ v, vs = [v] ∧ InsOf K H v "Program" ∧ Q .non H
theorem ok_need_program_programs (T : TX K mg) : Fx P w K mg base 1 (d_need_program_programs.ad K) (spPrg K) := by
  refine fx_mk T fd_need_program_programs rfl sc_need_program_programs bd_need_program_programs (fun vs H Q E h => ?_) (fun cdv A outer s H vs Q E hr h => ?_)
  · obtain ⟨v, rfl, _⟩ := h
    rfl
  · obtain ⟨v, rfl, hi, q⟩ := h
    refine ⟨_, (pss_one (ps_if (pt_not (pt_val (pe_callB call_isi (by rfl) (T.r "isinstance") bi_isi (pa_cons (pv 0) (pa_cons (pe_glob (by rfl) (T.g "Program") (refV _)) pa_nil))))) (pss_one ps_never) pss_nil)), ?_⟩
    obtain ⟨t, ht, hk⟩ := isi_own T (by decide +kernel) hi
    exact ⟨v, rfl, _, _, t, _, true, rfl, .own _, ht, hk, _, rfl, iteF q⟩
theorem ok_need_program_cores (T : TX K mg) : Fx P w K mg base 1 (d_need_program_cores.ad K) (spPrg K) := by
  refine fx_mk T fd_need_program_cores rfl sc_need_program_cores bd_need_program_cores (fun vs H Q E h => ?_) (fun cdv A outer s H vs Q E hr h => ?_)
  · obtain ⟨v, rfl, _⟩ := h
    rfl
  · obtain ⟨v, rfl, hi, q⟩ := h
    refine ⟨_, (pss_one (ps_if (pt_not (pt_val (pe_callB call_isi (by rfl) (T.r "isinstance") bi_isi (pa_cons (pv 0) (pa_cons (pe_glob (by rfl) (T.g "Program") (refV _)) pa_nil))))) (pss_one ps_never) pss_nil)), ?_⟩
    obtain ⟨t, ht, hk⟩ := isi_own T (by decide +kernel) hi
    exact ⟨v, rfl, _, _, t, _, true, rfl, .own _, ht, hk, _, rfl, iteF q⟩
def spRuI (K : Fg) : Sp := fun vs H Q _ => ∃ x dx a ns, vs = [.ref x, .ref a] ∧ H x = some (.ins (glA "Rule" K) dx []) ∧ H a = some (.lst (ns.map V.int)) ∧ ∀ H', (∀ b u, b ≠ x → H b = some u → H' b = some u) → RuleAt K H' x (trim ns) → Q .non H'
theorem ok_Rule_init (T : TX K mg) : Fx P w K mg base 2 (d_Rule_init.ad K) (spRuI K) := by
  refine fx_mk1 T fd_Rule_init rfl sc_Rule_init (fun t kV doc pm an cdv ct us its h1 h2 => ?_) (fun vs H Q E h => ?_) (fun cdv A outer s H vs Q E hr h => ?_)
  · match us, its, h1, h2 with
    | [_, _], [_], _, _ => exact ⟨_, rfl, rfl⟩
  · obtain ⟨x, dx, a, ns, rfl, _⟩ := h
    rfl
  · obtain ⟨x, dx, a, ns, rfl, hx, ha, q⟩ := h
    refine ⟨_, (pss_cons (ps_if (pt_not (pt_val (pe_f (ok_is_list T) (T.g "is_list") hr (by decide) (by rfl) (pa_cons (pv 1) pa_nil)))) (pss_one ps_never) pss_nil) (pss_cons (ps_for PassesOwn.never rfl (pi_enT (by rfl) (T.r "enumerate") (pa_cons (pv 1) pa_nil)) (pg_tup rfl (pgs_cons (pg_name (i := 2) sc_Rule_init.nd rfl (.inl rfl)) (pgs_cons (pg_name (i := 3) sc_Rule_init.nd rfl (.inl rfl)) pgs_nil))) (pss_one (ps_if (pt_not (pt_val (pe_f (ok_is_number_rules T) (T.g "is_number_rules") hr (by decide) (by rfl) (pa_cons (pv 3) pa_nil)))) (pss_one ps_never) pss_nil))) (pss_one (ps_fld (pv 0) (pe_f (ok_without_end T) (T.g "without_end") hr (by decide) (by rfl) (pa_cons (pv 1) pa_nil)) rfl)))), ?_⟩
    refine ⟨_, rfl, a, _, rfl, .inl ha, fun H1 s1 => ⟨_, rfl, iteF ?_⟩⟩
    refine ⟨_, rfl, a, ns.map V.int, rfl, .inl ⟨SqL.of (s1 _ _ ha), for_it (walk_enum (xs := ns.map V.int)) (fun i σ H' => ∃ y2 y3, σ = [some (.ref x), some (.ref a), y2, y3] ∧ Same H H')
      ⟨none, none, rfl, s1⟩ (fun i σ H' _ h => ?_) (fun i v σ H2 H' hi hP hY => ?_) (fun σ H' hP => ?_)⟩⟩
    · obtain ⟨_, _, _, s⟩ := h
      exact SqL.of (s _ _ ha)
    · obtain ⟨y2, y3, rfl, s⟩ := hP
      rw [List.length_map] at hi
      obtain ⟨T', x1, x2, rfl, hT, rfl, e1, e2⟩ := hY
      cases e1
      obtain ⟨c, rfl⟩ : ∃ c, x2 = .int c := by
        have e3 : (ns.map V.int)[i]? = some x2 := e2
        rw [List.getElem?_map, List.getElem?_eq_getElem hi] at e3
        exact ⟨_, (Option.some.inj e3).symm⟩
      refine ⟨T', _, rfl, SqT.of upd_same, rfl, _, _, rfl, _, _, rfl, rfl, ?_⟩
      exact ⟨_, rfl, _, rfl, _, rfl, iteF ⟨_, _, rfl, Same.of_upd s (none_back s hT)⟩⟩
    · obtain ⟨y2, y3, rfl, s⟩ := hP
      refine ⟨_, rfl, a, ns, rfl, SqL.of (s _ _ ha), fun H3 p s3 hp => ?_⟩
      have s4 : Same H H3 := Same.tr s s3
      refine ⟨_, rfl, x, _, dx, _, rfl, s4 _ _ hx, T.c "Rule", T.a "Rule" "own_numbers", by decide, ?_⟩
      have px : p ≠ x := by
        intro z
        rw [z, s4 _ _ hx] at hp
        cases hp
      refine q _ (fun b u nb hb => ?_) ⟨dx, p, upd_same, ?_⟩
      · rw [upd_ne nb]
        exact s4 b u hb
      · rw [upd_ne px]
        exact hp
theorem new_rule {H1 : Hp} {a : Addr} {ns : List Int} {Q : VK} {E : XK} (ha : H1 a = some (.lst (ns.map V.int))) (q : ∀ H' x, Same H1 H' → RuleAt K H' x (trim ns) → Q (.ref x) H') :
    ∀ x dx, H1 x = none → H1 dx = none → dx ≠ x → spRuI K [.ref x, .ref a] (upd (upd H1 dx (.own x)) x (.ins (glA "Rule" K) dx [])) (fun v H2 => v = .non ∧ Q (.ref x) H2) E := fun x dx nx nd ne => by
  refine ⟨x, dx, a, ns, rfl, upd_same, ?_, fun H' k hr => ⟨rfl, q _ _ (Same.made nx nd fun b o e nb => k b o nb e) hr⟩⟩
  rw [upd_ne (ne_new ha nx), upd_ne (ne_new ha nd)]
  exact ha
def spCoe (K : Fg) : Sp := fun vs H Q _ => ∃ r ns, vs = [.ref r] ∧ RuleAt K H r ns ∧ ∀ t, H t = some (.tup (ns.map V.int)) → Q (.ref t) H
theorem ok_Rule_coefficients (T : TX K mg) : Fx P w K mg base 1 (d_Rule_coefficients.ad K) (spCoe K) := by
  refine fx_mk T fd_Rule_coefficients rfl sc_Rule_coefficients bd_Rule_coefficients (fun vs H Q E h => ?_) (fun cdv A outer s H vs Q E hr h => ?_)
  · obtain ⟨r, ns, rfl, _⟩ := h
    rfl
  · obtain ⟨r, ns, rfl, ⟨dx, t, h1, h2⟩, q⟩ := h
    refine ⟨_, (pss_one (ps_ret (pe_fld (pv 0) rfl))), ?_⟩
    exact ⟨_, rfl, r, _, dx, _, _, rfl, h1, T.c "Rule", T.a "Rule" "own_numbers", rfl, q _ h2⟩
def spDeg (K : Fg) : Sp := fun vs H Q _ => ∃ r ns, vs = [.ref r] ∧ RuleAt K H r ns ∧ Q (.int ((ns.length : Int) - 1)) H
theorem ok_Rule_degree (T : TX K mg) : Fx P w K mg base 1 (d_Rule_degree.ad K) (spDeg K) := by
  refine fx_mk T fd_Rule_degree rfl sc_Rule_degree bd_Rule_degree (fun vs H Q E h => ?_) (fun cdv A outer s H vs Q E hr h => ?_)
  · obtain ⟨r, ns, rfl, _⟩ := h
    rfl
  · obtain ⟨r, ns, rfl, ⟨dx, t, h1, h2⟩, q⟩ := h
    refine ⟨_, (pss_one (ps_ret (pe_op op_sub (pe_callB call_len_seq (by rfl) (T.r "len") bi_len (pa_cons (pe_fld (pv 0) rfl) pa_nil)) pe_int))), ?_⟩
    refine ⟨_, rfl, r, _, dx, _, _, rfl, h1, T.c "Rule", T.a "Rule" "own_numbers", rfl, t, _, rfl, .inr (SqT.of h2), _, _, rfl, rfl, ?_⟩
    rw [List.length_map]
    exact q
def spGet (K : Fg) : Sp := fun vs H Q _ => ∃ r ns, ∃ i : Nat, vs = [.ref r, .int (i : Nat)] ∧ RuleAt K H r ns ∧ Q (.int (ns.getD i 0)) H
theorem ok_Rule_getitem (T : TX K mg) : Fx P w K mg base 3 (d_Rule_getitem.ad K) (spGet K) := by
  refine fx_mk T fd_Rule_getitem rfl sc_Rule_getitem bd_Rule_getitem (fun vs H Q E h => ?_) (fun cdv A outer s H vs Q E hr h => ?_)
  · obtain ⟨r, ns, i, rfl, _⟩ := h
    rfl
  · obtain ⟨r, ns, i, rfl, ⟨dx, t, h1, h2⟩, q⟩ := h
    refine ⟨_, (pss_cons (ps_if (pt_not (pt_val (pe_f (ok_is_from T) (T.g "is_from") hr (by decide) (by rfl) (pa_cons (pv 1) (pa_cons pe_int pa_nil))))) (pss_one ps_never) pss_nil) (pss_one (ps_ret (pe_ifExp (pt_cmpR op_lt (pv 1) (pe_callB call_len_seq (by rfl) (T.r "len") bi_len (pa_cons (pe_fld (pv 0) rfl) pa_nil)) (nomark _)) (pe_ix ix_tup (pe_fld (pv 0) rfl) (pv 1) (fun _ _ => rfl)) pe_int)))), ?_⟩
    have e0 : decide ((0 : Int) ≤ (i : Nat)) = true := decide_eq_true (by omega)
    refine ⟨_, rfl, (i : Nat), 0, rfl, _, rfl, ?_⟩
    rw [e0]
    refine iteF ⟨_, rfl, _, rfl, r, _, dx, _, _, rfl, h1, T.c "Rule", T.a "Rule" "own_numbers", rfl, t, _, rfl, .inr (SqT.of h2), _, _, rfl, rfl, _, rfl, ite2 (fun hl => ?_) (fun hl => ?_)⟩
    · rw [List.length_map] at hl
      have hl2 : i < ns.length := by
        have : (i : Int) < (ns.length : Int) := by simpa using hl
        omega
      refine ⟨_, rfl, r, _, dx, _, _, rfl, h1, T.c "Rule", T.a "Rule" "own_numbers", rfl, _, rfl, t, _, _, .int ns[i], rfl, rfl, SqT.of h2, atI_nat (map_get (List.getElem?_eq_getElem hl2)), ?_⟩
      rw [List.getD_eq_getElem?_getD, List.getElem?_eq_getElem hl2] at q
      exact q
    · rw [List.length_map] at hl
      have hl2 : ¬ i < ns.length := by
        have : ¬ (i : Int) < (ns.length : Int) := by simpa using hl
        omega
      rw [List.getD_eq_getElem?_getD, List.getElem?_eq_none (by omega)] at q
      exact q
def spRmul (K : Fg) : Sp := fun vs H Q _ => ∃ r ns e, vs = [.ref r, .int e] ∧ RuleAt K H r ns ∧ ns.length ≤ 100 ∧ Sm e ∧ (∀ c ∈ ns, Sm c) ∧ ∀ H' p, Same H H' → RuleAt K H' p (trim (ns.map (e * ·))) → Q (.ref p) H'
theorem acc_ints {ns : List Int} {acc : List V} {g : Int → Int} (hl : acc.length = (ns.map V.int).length) (h : ∀ (j : Nat) v, acc[j]? = some v → ∃ c, ns[j]? = some c ∧ v = .int (g c)) : acc = (ns.map g).map V.int := by
  rw [List.map_map]
  exact acc_map (by rw [hl, List.length_map]) h
theorem ok_Rule_rmul (T : TX K mg) : Fx P w K mg base 4 (d_Rule_rmul.ad K) (spRmul K) := by
  refine fx_mk T fd_Rule_rmul rfl sc_Rule_rmul bd_Rule_rmul (fun vs H Q E h => ?_) (fun cdv A outer s H vs Q E hr h => ?_)
  · obtain ⟨r, ns, i, rfl, _⟩ := h
    rfl
  · obtain ⟨r, ns, e, rfl, ⟨dx, t, h1, h2⟩, hl, he, hS, q⟩ := h
    refine ⟨_, (pss_cons (ps_if (pt_not (pt_val (pe_f (ok_is_number_rules T) (T.g "is_number_rules") hr (by decide) (by rfl) (pa_cons (pv 1) pa_nil)))) (pss_one ps_never) pss_nil) (pss_one (ps_ret (pe_new (ok_Rule_init T) (T.m "Rule") (T.g "Rule") hr (by decide) (by rfl) (pa_cons (pe_lc (own := [("number", 2)]) rfl sc_Rule_rmul.nd (pi_tup (pe_fld (pv 0) rfl)) (blkOk_by (own := [("number", 2)]) (N := n_Rule_rmul) (sc := defScope s_Rule_rmul) (by decide +kernel)) (fun _ _ _ _ _ => (pg_name (i := 2) sc_Rule_rmul.nd rfl (.inl rfl))) (fun _ _ _ _ _ => pts_nil) (fun _ _ _ _ _ => (pe_op op_mulW (pv 1) (pv 2)))) pa_nil))))), ?_⟩
    refine ⟨_, rfl, _, rfl, _, rfl, iteF ?_⟩
    refine ⟨_, rfl, r, _, dx, _, _, rfl, h1, T.c "Rule", T.a "Rule" "own_numbers", rfl, t, rfl, ⟨_, SqT.of h2⟩, fun D hD => ?_⟩
    refine lc_all (walk_tup (xs := ns.map V.int)) (R := fun i _ v => ∃ c, ns[i]? = some c ∧ v = .int (e * c)) hD (fun H' s => SqT.of (s _ _ h2)) yat_same (fun _ _ _ _ _ r => r) (by rw [List.length_map]; exact small2 (by omega)) (fun i x H1 H' Q' hi s hY hq => ?_) (fun H1 acc s1 hacc hal hav => ?_)
    · obtain ⟨rfl, hx⟩ := hY
      rw [List.length_map] at hi
      rw [List.getElem?_map, List.getElem?_eq_getElem hi] at hx
      obtain rfl := Option.some.inj hx
      exact ⟨rfl, _, rfl, _, rfl, _, _, rfl, rfl, Sm.mul he (hS _ (List.getElem_mem hi)), hq _ _ Same.rfl' ⟨_, List.getElem?_eq_getElem hi, rfl⟩⟩
    · have e1 := acc_ints hal hav
      subst e1
      exact new_rule hacc fun H' x s hr => q _ _ (Same.tr s1 s) hr
def spNeg (K : Fg) : Sp := fun vs H Q _ => ∃ r ns, vs = [.ref r] ∧ RuleAt K H r ns ∧ ns.length ≤ 100 ∧ ∀ H' p, Same H H' → RuleAt K H' p (trim (ns.map (0 - ·))) → Q (.ref p) H'
theorem ok_Rule_neg (T : TX K mg) : Fx P w K mg base 4 (d_Rule_neg.ad K) (spNeg K) := by
  refine fx_mk T fd_Rule_neg rfl sc_Rule_neg bd_Rule_neg (fun vs H Q E h => ?_) (fun cdv A outer s H vs Q E hr h => ?_)
  · obtain ⟨r, ns, rfl, _⟩ := h
    rfl
  · obtain ⟨r, ns, rfl, ⟨dx, t, h1, h2⟩, hl, q⟩ := h
    refine ⟨_, (pss_one (ps_ret (pe_new (ok_Rule_init T) (T.m "Rule") (T.g "Rule") hr (by decide) (by rfl) (pa_cons (pe_lc (own := [("number", 1)]) rfl sc_Rule_neg.nd (pi_tup (pe_fld (pv 0) rfl)) (blkOk_by (own := [("number", 1)]) (N := n_Rule_neg) (sc := defScope s_Rule_neg) (by decide +kernel)) (fun _ _ _ _ _ => (pg_name (i := 1) sc_Rule_neg.nd rfl (.inl rfl))) (fun _ _ _ _ _ => pts_nil) (fun _ _ _ _ _ => (pe_op op_sub pe_int (pv 1)))) pa_nil)))), ?_⟩
    refine ⟨_, rfl, r, _, dx, _, _, rfl, h1, T.c "Rule", T.a "Rule" "own_numbers", rfl, t, rfl, ⟨_, SqT.of h2⟩, fun D hD => ?_⟩
    refine lc_all (walk_tup (xs := ns.map V.int)) (R := fun i _ v => ∃ c, ns[i]? = some c ∧ v = .int (0 - c)) hD (fun H' s => SqT.of (s _ _ h2)) yat_same (fun _ _ _ _ _ r => r) (by rw [List.length_map]; exact small2 (by omega)) (fun i x H1 H' Q' hi s hY hq => ?_) (fun H1 acc s1 hacc hal hav => ?_)
    · obtain ⟨rfl, hx⟩ := hY
      rw [List.length_map] at hi
      rw [List.getElem?_map, List.getElem?_eq_getElem hi] at hx
      obtain rfl := Option.some.inj hx
      exact ⟨rfl, _, rfl, _, _, rfl, rfl, hq _ _ Same.rfl' ⟨_, List.getElem?_eq_getElem hi, rfl⟩⟩
    · have e1 := acc_ints hal hav
      subst e1
      exact new_rule hacc fun H' x s hr => q _ _ (Same.tr s1 s) hr
/-- what is made on the way is small enough -/
def OkB (t f : Int) : List Int → Prop
  | [] => True
  | c :: r => OkB t f r ∧ (∀ x ∈ beh t f r, Sm x) ∧ Sm c
theorem okb_drop {t f : Int} {r : List Int} (h : OkB t f r) : ∀ n, OkB t f (r.drop n) := fun n => by
  induction r generalizing n with
  | nil => simp; exact h
  | cons c r ih =>
    cases n with
    | zero => exact h
    | succ n => exact ih h.1 n
def spBeh (K : Fg) : Sp := fun vs H Q _ => ∃ r o ns t f, vs = [.ref r, .ref o] ∧ RuleAt K H r ns ∧ RuleAt K H o [t, f] ∧ ns.length ≤ 50 ∧ Sm t ∧ Sm f ∧ OkB t f ns ∧ ∀ H' p, Same H H' → RuleAt K H' p (trim (beh t f ns)) → Q (.ref p) H'
theorem ok_Rule_behind (T : TX K mg) : Fx P w K mg base 4 (d_Rule_behind.ad K) (spBeh K) := by
  refine fx_mk T fd_Rule_behind rfl sc_Rule_behind bd_Rule_behind (fun vs H Q E h => ?_) (fun cdv A outer s H vs Q E hr h => ?_)
  · obtain ⟨r, o, ns, t, f, rfl, _⟩ := h
    rfl
  · obtain ⟨r, o, ns, t, f, rfl, ⟨dx, tt, h1, h2⟩, ⟨dx2, t2, h3, h4⟩, hl, ht, hf, ok, q⟩ := h
    refine ⟨_, (pss_cons (ps_set (i := 2) sc_Rule_behind.nd rfl (.inl rfl) (pe_lst pa_nil)) (pss_cons (ps_for PassesOwn.never rfl (pi_tup (pe_revT (pe_fld (pv 0) rfl))) (pg_name (i := 3) sc_Rule_behind.nd rfl (.inl rfl)) (pss_one (ps_set (i := 2) sc_Rule_behind.nd rfl (.inl rfl) (pe_f (ok_row_sum T) (T.g "row_sum") hr (by decide) (by rfl) (pa_cons (pe_f (ok_row_product T) (T.g "row_product") hr (by decide) (by rfl) (pa_cons (pv 2) (pa_cons (pe_fld (pv 1) rfl) pa_nil))) (pa_cons (pe_lst (pa_cons (pv 3) pa_nil)) (pa_cons pe_int pa_nil))))))) (pss_one (ps_ret (pe_new (ok_Rule_init T) (T.m "Rule") (T.g "Rule") hr (by decide) (by rfl) (pa_cons (pv 2) pa_nil)))))), ?_⟩
    refine ⟨by decide, fun l0 hl0 => ?_⟩
    have s0 : Same H (upd H l0 (.lst [])) := same_upd hl0
    refine ⟨_, rfl, r, _, dx, _, _, rfl, s0 _ _ h1, T.c "Rule", T.a "Rule" "own_numbers", rfl, tt, _, rfl, SqT.of (s0 _ _ h2), fun p hp => ?_⟩
    have s1 : Same H (upd (upd H l0 (.lst [])) p (.tup (ns.map V.int).reverse)) := Same.of_upd s0 (none_back s0 hp)
    have lp : l0 ≠ p := ne_new (u := .lst []) upd_same hp
    refine ⟨p, rfl, ⟨_, SqT.of upd_same⟩, for_tup (xs := (ns.map V.int).reverse) (fun i σ H' => Same H H' ∧ H' p = some (.tup (ns.map V.int).reverse) ∧ ∃ l y, σ = [some (.ref r), some (.ref o), some (.ref l), y] ∧ H' l = some (.lst ((beh t f (ns.drop (ns.length - i))).map V.int)))
      ⟨s1, upd_same, l0, none, rfl, ?_⟩ (fun i σ H' _ h => SqT.of h.2.1) (fun i x σ H' hx hP => ?_) (fun σ H' hP => ?_)⟩
    · rw [upd_ne lp, upd_same, Nat.sub_zero, List.drop_length]
      rfl
    · obtain ⟨s2, hp2, l, y, rfl, hl2⟩ := hP
      obtain ⟨hi, c, hc, rfl⟩ := rev_at hx
      have ok1 := okb_drop ok (ns.length - (i + 1))
      rw [hc] at ok1
      have hlen : (ns.drop (ns.length - i)).length ≤ 50 := by rw [List.length_drop]; omega
      refine ⟨_, rfl, _, rfl, o, _, dx2, _, _, rfl, s2 _ _ h3, T.c "Rule", T.a "Rule" "own_numbers", rfl, l, t2, beh t f (ns.drop (ns.length - i)), t, f, rfl, SqL.of hl2, SqT.of (s2 _ _ h4), by rw [beh_len]; omega, ok1.2.1, ht, hf, fun H3 m s3 hm => ?_⟩
      refine ⟨_, rfl, by show 1 ≤ sizeLine; decide, fun z hz => ?_⟩
      have s4 : Same H3 (upd H3 z (.lst [.int c])) := same_upd hz
      refine ⟨m, z, _, c, rfl, SqL.of (s4 _ _ hm), SqL.of upd_same, by rw [mulc_len, beh_len]; omega, ok1.2.2, fun H5 l5 s5 hl5 => ?_⟩
      have s6 : Same H' H5 := Same.tr (Same.tr s3 s4) s5
      refine ⟨Same.tr s2 s6, s6 _ _ hp2, l5, _, rfl, ?_⟩
      rw [hc]
      exact hl5
    · obtain ⟨s2, hp2, l, y, rfl, hl2⟩ := hP
      rw [List.length_reverse, List.length_map, Nat.sub_self] at hl2
      exact ⟨_, rfl, new_rule hl2 fun H' x s hr => q _ _ (Same.tr s2 s) hr⟩
end
end K5
set_option Elab.async false
set_option linter.all false
set_option maxRecDepth 100000
set_option maxHeartbeats 4000000
namespace K5
open PySem PySem.Spec PyProof.Rows L2
def OkS : Stp → Prop
  | .x _ => True
  | .t a b c d => (Sm a ∧ Sm b ∧ Sm c ∧ Sm d) ∧ (a * d - b * c = 1 ∨ a * d - b * c = -1)
  | .m _ _ => True
def undo : Stp → Stp
  | .x r => .x (trim (r.map (0 - ·)))
  | .t a b c d => .t ((a * d - b * c) * d) (0 - (a * d - b * c) * b) (0 - (a * d - b * c) * c) ((a * d - b * c) * a)
  | .m s t => .m (0 - s) (0 - t)
def stepF : Stp → Pt → Pt
  | .x r, p => (p.1 + pval r p.2, p.2)
  | .t a b c d, p => (a * p.1 + b * p.2, c * p.1 + d * p.2)
  | .m s t, p => (p.1 + s, p.2 + t)
def runs (ss : List Stp) (p : Pt) : Pt := ss.foldl (fun p s => stepF s p) p
def OkF : Stp → Pt → Prop
  | .x r, p => OkV r p.2
  | .t a b c d, p => CMulW a p.1 ∧ CMulW b p.2 ∧ CMulW c p.1 ∧ CMulW d p.2
  | .m _ _, _ => True
def OkRun : List Stp → Pt → Prop
  | [], _ => True
  | s :: ss, p => OkF s p ∧ OkRun ss (stepF s p)
/-- a tuple, as a step stands -/
theorem StepAt.tup {K : Fg} {H : Hp} {v : V} {st : Stp} (h : StepAt K H v st) : ∃ p xs, v = .ref p ∧ H p = some (.tup xs) := by
  cases st with
  | x r => obtain ⟨a, r, e, h, _⟩ := h; exact ⟨a, _, e, h⟩
  | t a b c d => obtain ⟨p, e, h⟩ := h; exact ⟨p, _, e, h⟩
  | m s t => obtain ⟨p, e, h⟩ := h; exact ⟨p, _, e, h⟩
section
variable {P : Program} {w : World} {K : Fg} {mg : Str → Option Value} {base : Heap}
theorem all_nums {n : Nat} {acc : List V} (h : ∀ (j : Nat) v, acc[j]? = some v → v = .bl true) : ∃ bs : List Bool, acc = bs.map V.bl ∧ bs.all id = true := by
  refine ⟨List.replicate acc.length true, ?_, by simp⟩
  apply List.ext_getElem?
  intro j
  rw [List.getElem?_map, List.getElem?_replicate]
  cases e : acc[j]? with
  | none =>
    rw [List.getElem?_eq_none_iff] at e
    rw [if_neg (by omega)]
    rfl
  | some v =>
    have hj := (List.getElem?_eq_some_iff.mp e).1
    rw [if_pos hj, h j v e]
    rfl
def spIsS (K : Fg) : Sp := fun vs H Q _ => ∃ v st, vs = [v] ∧ StepAt K H v st ∧ OkS st ∧ ∀ H', Same H H' → Q (.bl true) H'
theorem ok_is_step (T : TX K mg) : Fx P w K mg base 2 (d_is_step.ad K) (spIsS K) := by
  refine fx_mk T fd_is_step rfl sc_is_step bd_is_step (fun vs H Q E h => ?_) (fun cdv A outer s H vs Q E hr h => ?_)
  · obtain ⟨v, st, rfl, _⟩ := h
    rfl
  · obtain ⟨v, st, rfl, hst, ok, q⟩ := h
    refine ⟨_, (pss_cons (ps_if (PW.pt (pw_or (pt_not (pt_val (pe_callB call_isi (by rfl) (T.r "isinstance") bi_isi (pa_cons (pv 0) (pa_cons (pe_bltn (by rfl) (T.r "tuple") ty_tuple (v := .ty "tuple") rfl) pa_nil))))) (pw_or (pt_cmpR op_eq (pe_callB call_len_seq (by rfl) (T.r "len") bi_len (pa_cons (pv 0) pa_nil)) pe_int (nomark _)) (pw_or1 (pt_not (pt_val (pe_callB call_isi (by rfl) (T.r "isinstance") bi_isi (pa_cons (pe_ix ix_tup (pv 0) pe_int (fun _ _ => rfl)) (pa_cons (pe_bltn (by rfl) (T.r "str") ty_str (v := .ty "str") rfl) pa_nil))))))))) (pss_one (ps_ret pe_bl)) pss_nil) (pss_cons (ps_if (pt_cmpR op_in_seq (pe_ix ix_tup (pv 0) pe_int (fun _ _ => rfl)) (pe_tup (pa_cons pe_str (pa_cons pe_str pa_nil))) (by with_unfolding_all rfl)) (pss_one (ps_ret (pe_and (pe_cmpR op_eq (pe_callB call_len_seq (by rfl) (T.r "len") bi_len (pa_cons (pv 0) pa_nil)) pe_int (nomark _)) (pe_one (pe_callB call_isi (by rfl) (T.r "isinstance") bi_isi (pa_cons (pe_ix ix_tup (pv 0) pe_int (fun _ _ => rfl)) (pa_cons (pe_glob (by rfl) (T.g "Rule") (refV _)) pa_nil))))))) pss_nil) (pss_cons (ps_if (pt_not (pt_val (pe_callB (cr_all rfl) (by rfl) (T.r "all") bi_all (pa_cons (pe_lc (own := [("number", 1)]) rfl sc_is_step.nd (pi_tup (pe_slice sl_tupA (pv 0) (po_some pe_int) po_none)) (blkOk_by (own := [("number", 1)]) (N := n_is_step) (sc := defScope s_is_step) (by decide +kernel)) (fun _ _ _ _ _ => (pg_name (i := 1) sc_is_step.nd rfl (.inl rfl))) (fun _ _ _ _ _ => pts_nil) (fun _ _ _ _ _ => (pe_f (ok_is_number_rules T) (T.g "is_number_rules") hr (by decide) (by rfl) (pa_cons (pv 1) pa_nil)))) pa_nil)))) (pss_one (ps_ret pe_bl)) pss_nil) (pss_cons (ps_if (pt_cmpR op_eq (pe_ix ix_tup (pv 0) pe_int (fun _ _ => rfl)) pe_str (nomark _)) (pss_one (ps_ret (pe_cmpR op_eq (pe_callB call_len_seq (by rfl) (T.r "len") bi_len (pa_cons (pv 0) pa_nil)) pe_int (nomark _)))) pss_nil) (pss_cons (ps_if (PW.pt (pw_or (pt_cmpR op_ne (pe_ix ix_tup (pv 0) pe_int (fun _ _ => rfl)) pe_str (nomark _)) (pw_or1 (pt_cmpR op_ne (pe_callB call_len_seq (by rfl) (T.r "len") bi_len (pa_cons (pv 0) pa_nil)) pe_int (nomark _))))) (pss_one (ps_ret pe_bl)) pss_nil) (pss_one (ps_ret (pe_cmpR op_in_seq (pe_op op_sub (pe_op op_mulW (pe_ix ix_tup (pv 0) pe_int (fun _ _ => rfl)) (pe_ix ix_tup (pv 0) pe_int (fun _ _ => rfl))) (pe_op op_mulW (pe_ix ix_tup (pv 0) pe_int (fun _ _ => rfl)) (pe_ix ix_tup (pv 0) pe_int (fun _ _ => rfl)))) (pe_tup (pa_cons pe_int (pa_cons (pe_un un_neg pe_int) pa_nil))) (by with_unfolding_all rfl))))))))), ?_⟩
    cases st with
    | x r =>
      obtain ⟨a, ra, rfl, ha, hr⟩ := hst
      refine ⟨_, rfl, _, .ty "tuple", _, _, true, rfl, .ty "tuple", .base (.tup ha), kit_ty (by decide +kernel), true, rfl, iteF ?_⟩
      refine ⟨_, rfl, a, _, rfl, .inr (SqT.of ha), rfl, _, rfl, iteF ?_⟩
      refine ⟨_, rfl, a, _, _, _, rfl, rfl, SqT.of ha, rfl, _, .ty "str", _, _, true, rfl, .ty "str", .base (.str _), kit_ty (by decide +kernel), true, rfl, iteF ?_⟩
      refine ⟨_, rfl, a, _, _, _, rfl, rfl, SqT.of ha, rfl, by show 2 ≤ sizeLine; decide, fun p hp => ⟨p, _, rfl, .inr (SqT.of upd_same), rfl, rfl, _, rfl, iteT ?_⟩⟩
      have s1 := same_upd (o := .tup [.str "x", .str "y"]) hp
      obtain ⟨t, ht, hk⟩ := isi_own T (by decide +kernel) (hr.keep (Same.fix s1)).ins
      exact ⟨_, rfl, a, _, rfl, .inr (SqT.of (s1 _ _ ha)), rfl, _, rfl, iteT ⟨_, rfl, a, _, _, _, rfl, rfl, SqT.of (s1 _ _ ha), rfl, _, _, t, _, true, rfl, .own _, ht, hk, q _ s1⟩⟩
    | t x y z u =>
      obtain ⟨a, rfl, ha⟩ := hst
      obtain ⟨⟨m1, m2, m3, m4⟩, hdet⟩ := ok
      refine ⟨_, rfl, _, .ty "tuple", _, _, true, rfl, .ty "tuple", .base (.tup ha), kit_ty (by decide +kernel), true, rfl, iteF ?_⟩
      refine ⟨_, rfl, a, _, rfl, .inr (SqT.of ha), rfl, _, rfl, iteF ?_⟩
      refine ⟨_, rfl, a, _, _, _, rfl, rfl, SqT.of ha, rfl, _, .ty "str", _, _, true, rfl, .ty "str", .base (.str _), kit_ty (by decide +kernel), true, rfl, iteF ?_⟩
      refine ⟨_, rfl, a, _, _, _, rfl, rfl, SqT.of ha, rfl, by show 2 ≤ sizeLine; decide, fun p hp => ⟨p, _, rfl, .inr (SqT.of upd_same), rfl, rfl, _, rfl, iteF ?_⟩⟩
      have s1 := same_upd (o := .tup [.str "x", .str "y"]) hp
      refine ⟨_, rfl, _, rfl, a, _, rfl, SqT.of (s1 _ _ ha), fun h => absurd (show (1 : Nat) = 0 from h.1) (by decide), fun _ p2 hp2 => ⟨p2, rfl, ⟨_, SqT.of upd_same⟩, fun D hD => ?_⟩⟩
      have s2 : Same H _ := Same.of_upd (o := .tup (cutV [V.str "turn", .int x, .int y, .int z, .int u] (some 1) none)) s1 (none_back s1 hp2)
      refine lc_all (walk_tup (xs := cutV [V.str "turn", .int x, .int y, .int z, .int u] (some 1) none)) (R := fun i _ v => v = .bl true) hD (fun H' s => SqT.of (s _ _ upd_same)) yat_same (fun _ _ _ _ _ r => r) (small2 (Nat.le_of_ble_eq_true rfl)) (fun i x H1 H' Q' hi s hY hq => ?_) (fun H1 acc s3 hacc hal hav => ?_)
      · obtain ⟨rfl, hx⟩ := hY
        refine ⟨rfl, _, rfl, ?_⟩
        match i, hi, hx with
        | 0, _, hx => cases hx; exact ⟨_, rfl, hq _ _ Same.rfl' rfl⟩
        | 1, _, hx => cases hx; exact ⟨_, rfl, hq _ _ Same.rfl' rfl⟩
        | 2, _, hx => cases hx; exact ⟨_, rfl, hq _ _ Same.rfl' rfl⟩
        | 3, _, hx => cases hx; exact ⟨_, rfl, hq _ _ Same.rfl' rfl⟩
        | i + 4, hi, _ => exact absurd hi (by show ¬ i + 4 < 4; omega)
      · obtain ⟨bs, rfl, hall⟩ := all_nums (n := 4) hav
        have s4 : Same H H1 := Same.tr s2 s3
        have ha4 := SqT.of (K := K) (s4 _ _ ha)
        refine ⟨_, bs, rfl, SqL.of hacc, _, rfl, ?_⟩
        rw [hall]
        refine iteF ⟨_, rfl, a, _, _, _, rfl, rfl, ha4, rfl, rfl, _, rfl, iteF ⟨_, rfl, a, _, _, _, rfl, rfl, ha4, rfl, rfl, _, rfl, iteF ⟨_, rfl, a, _, rfl, .inr ha4, rfl, _, rfl, iteF ?_⟩⟩⟩
        refine ⟨_, rfl, a, _, _, _, rfl, rfl, ha4, rfl, _, rfl, a, _, _, _, rfl, rfl, ha4, rfl, _, _, rfl, rfl, Sm.mul m1 m4, _, rfl, a, _, _, _, rfl, rfl, ha4, rfl, _, rfl, a, _, _, _, rfl, rfl, ha4, rfl, _, _, rfl, rfl, Sm.mul m2 m3, _, _, rfl, rfl, ?_⟩
        refine ⟨_, rfl, by show 2 ≤ sizeLine; decide, fun p3 hp3 => ⟨p3, _, rfl, .inr (SqT.of upd_same), rfl, rfl, ?_⟩⟩
        have e1 : inV (.int (x * u - y * z)) [.int 1, .int (-1)] = true := by rcases hdet with e | e <;> rw [e] <;> rfl
        show Q (.bl (inV (.int (x * u - y * z)) [.int 1, .int (-1)])) _
        rw [e1]
        exact q _ (Same.of_upd s4 (none_back s4 hp3))
    | m x y =>
      obtain ⟨a, rfl, ha⟩ := hst
      refine ⟨_, rfl, _, .ty "tuple", _, _, true, rfl, .ty "tuple", .base (.tup ha), kit_ty (by decide +kernel), true, rfl, iteF ?_⟩
      refine ⟨_, rfl, a, _, rfl, .inr (SqT.of ha), rfl, _, rfl, iteF ?_⟩
      refine ⟨_, rfl, a, _, _, _, rfl, rfl, SqT.of ha, rfl, _, .ty "str", _, _, true, rfl, .ty "str", .base (.str _), kit_ty (by decide +kernel), true, rfl, iteF ?_⟩
      refine ⟨_, rfl, a, _, _, _, rfl, rfl, SqT.of ha, rfl, by show 2 ≤ sizeLine; decide, fun p hp => ⟨p, _, rfl, .inr (SqT.of upd_same), rfl, rfl, _, rfl, iteF ?_⟩⟩
      have s1 := same_upd (o := .tup [.str "x", .str "y"]) hp
      refine ⟨_, rfl, _, rfl, a, _, rfl, SqT.of (s1 _ _ ha), fun h => absurd (show (1 : Nat) = 0 from h.1) (by decide), fun _ p2 hp2 => ⟨p2, rfl, ⟨_, SqT.of upd_same⟩, fun D hD => ?_⟩⟩
      have s2 : Same H _ := Same.of_upd (o := .tup (cutV [V.str "move", .int x, .int y] (some 1) none)) s1 (none_back s1 hp2)
      refine lc_all (walk_tup (xs := cutV [V.str "move", .int x, .int y] (some 1) none)) (R := fun i _ v => v = .bl true) hD (fun H' s => SqT.of (s _ _ upd_same)) yat_same (fun _ _ _ _ _ r => r) (small2 (Nat.le_of_ble_eq_true rfl)) (fun i x H1 H' Q' hi s hY hq => ?_) (fun H1 acc s3 hacc hal hav => ?_)
      · obtain ⟨rfl, hx⟩ := hY
        refine ⟨rfl, _, rfl, ?_⟩
        match i, hi, hx with
        | 0, _, hx => cases hx; exact ⟨_, rfl, hq _ _ Same.rfl' rfl⟩
        | 1, _, hx => cases hx; exact ⟨_, rfl, hq _ _ Same.rfl' rfl⟩
        | i + 2, hi, _ => exact absurd hi (by show ¬ i + 2 < 2; omega)
      · obtain ⟨bs, rfl, hall⟩ := all_nums (n := 4) hav
        have s4 : Same H H1 := Same.tr s2 s3
        have ha4 := SqT.of (K := K) (s4 _ _ ha)
        refine ⟨_, bs, rfl, SqL.of hacc, _, rfl, ?_⟩
        rw [hall]
        exact iteF ⟨_, rfl, a, _, _, _, rfl, rfl, ha4, rfl, rfl, _, rfl, iteT ⟨_, rfl, a, _, rfl, .inr ha4, rfl, q _ s4⟩⟩
end
end K5
set_option Elab.async false
set_option linter.all false
set_option maxRecDepth 100000
set_option maxHeartbeats 4000000
namespace K5
open PySem PySem.Spec PyProof.Rows L2
theorem paired_of {α : Type} {R : V → α → Prop} : ∀ {vs : List V} {ss : List α}, vs.length = ss.length → (∀ (j : Nat) v, vs[j]? = some v → ∃ s, ss[j]? = some s ∧ R v s) → Paired R vs ss
  | [], [], _, _ => .nil
  | v :: vs, s :: ss, hl, h => by
    obtain ⟨s', e, r⟩ := h 0 v rfl
    obtain rfl : s = s' := by simpa using e
    exact .cons r (paired_of (by simpa using hl) fun j v e => h (j + 1) v (by simpa using e))
  | [], _ :: _, hl, _ => by simp at hl
  | _ :: _, [], hl, _ => by simp at hl
theorem paired_len {α : Type} {R : V → α → Prop} : ∀ {vs : List V} {ss : List α}, Paired R vs ss → vs.length = ss.length
  | [], [], .nil => rfl
  | _ :: _, _ :: _, .cons _ r => by rw [List.length_cons, List.length_cons, paired_len r]
theorem paired_get {α : Type} {R : V → α → Prop} : ∀ {vs : List V} {ss : List α}, Paired R vs ss → ∀ {j : Nat} {v : V}, vs[j]? = some v → ∃ s, ss[j]? = some s ∧ R v s
  | _ :: _, _ :: _, .cons r _, 0, v, h => ⟨_, rfl, by obtain rfl := Option.some.inj h; exact r⟩
  | _ :: _, _ :: _, .cons _ r, j + 1, v, h => by
    obtain ⟨s, e, q⟩ := paired_get r (j := j) (v := v) (by simpa using h)
    exact ⟨s, by simpa using e, q⟩
  | [], [], .nil, j, v, h => by simp at h
theorem paired_app {α : Type} {R : V → α → Prop} : ∀ {vs ws : List V} {ss ts : List α}, Paired R vs ss → Paired R ws ts → Paired R (vs ++ ws) (ss ++ ts)
  | [], _, [], _, .nil, b => b
  | _ :: _, _, _ :: _, _, .cons r a, b => .cons r (paired_app a b)
theorem paired_rep {α : Type} {R : V → α → Prop} {vs : List V} {ss : List α} (h : Paired R vs ss) : ∀ n : Nat, Paired R (List.replicate n vs).flatten (List.replicate n ss).flatten
  | 0 => .nil
  | n + 1 => by
    rw [List.replicate_succ, List.replicate_succ, List.flatten_cons, List.flatten_cons]
    exact paired_app h (paired_rep h n)
theorem paired_rev {α : Type} {R : V → α → Prop} : ∀ {vs : List V} {ss : List α}, Paired R vs ss → Paired R vs.reverse ss.reverse
  | [], [], .nil => .nil
  | _ :: _, _ :: _, .cons r a => by
    rw [List.reverse_cons, List.reverse_cons]
    exact paired_app (paired_rev a) (.cons r .nil)
section
variable {P : Program} {w : World} {K : Fg} {mg : Str → Option Value} {base : Heap}
def spDone (K : Fg) : Sp := fun vs H Q _ => ∃ v st, ∃ p : Pt, vs = [v, .int p.1, .int p.2] ∧ StepAt K H v st ∧ OkF st p ∧ ∀ H' t, Same H H' → H' t = some (.tup [.int (stepF st p).1, .int (stepF st p).2]) → Q (.ref t) H'
theorem ok_done (T : TX K mg) : Fx P w K mg base 2 (d_done.ad K) (spDone K) := by
  refine fx_mk T fd_done rfl sc_done bd_done (fun vs H Q E h => ?_) (fun cdv A outer s H vs Q E hr h => ?_)
  · obtain ⟨v, st, p, rfl, _⟩ := h
    rfl
  · obtain ⟨v, st, ⟨x, y⟩, rfl, hst, ok, q⟩ := h
    refine ⟨_, (pss_cons (ps_if (pt_cmpR op_eq (pe_ix ix_tup (pv 0) pe_int (fun _ _ => rfl)) pe_str (nomark _)) (pss_one (ps_ret (pe_tup (pa_cons (pe_op op_add (pv 1) (pe_f (ok_row_value T) (T.g "row_value") hr (by decide) (by rfl) (pa_cons (pe_fld (pe_ix ix_tup (pv 0) pe_int (fun _ _ => rfl)) rfl) (pa_cons (pv 2) pa_nil)))) (pa_cons (pv 2) pa_nil))))) pss_nil) (pss_cons (ps_if (pt_cmpR op_eq (pe_ix ix_tup (pv 0) pe_int (fun _ _ => rfl)) pe_str (nomark _)) (pss_one (ps_ret (pe_tup (pa_cons (pv 1) (pa_cons (pe_op op_add (pv 2) (pe_f (ok_row_value T) (T.g "row_value") hr (by decide) (by rfl) (pa_cons (pe_fld (pe_ix ix_tup (pv 0) pe_int (fun _ _ => rfl)) rfl) (pa_cons (pv 1) pa_nil)))) pa_nil))))) pss_nil) (pss_cons (ps_if (pt_cmpR op_eq (pe_ix ix_tup (pv 0) pe_int (fun _ _ => rfl)) pe_str (nomark _)) (pss_one (ps_ret (pe_tup (pa_cons (pe_op op_add (pv 1) (pe_ix ix_tup (pv 0) pe_int (fun _ _ => rfl))) (pa_cons (pe_op op_add (pv 2) (pe_ix ix_tup (pv 0) pe_int (fun _ _ => rfl))) pa_nil))))) pss_nil) (pss_one (ps_ret (pe_tup (pa_cons (pe_op op_add (pe_op op_mulW (pe_ix ix_tup (pv 0) pe_int (fun _ _ => rfl)) (pv 1)) (pe_op op_mulW (pe_ix ix_tup (pv 0) pe_int (fun _ _ => rfl)) (pv 2))) (pa_cons (pe_op op_add (pe_op op_mulW (pe_ix ix_tup (pv 0) pe_int (fun _ _ => rfl)) (pv 1)) (pe_op op_mulW (pe_ix ix_tup (pv 0) pe_int (fun _ _ => rfl)) (pv 2))) pa_nil)))))))), ?_⟩
    cases st with
    | x r =>
      obtain ⟨a, ra, rfl, ha, dx, t, h1, h2⟩ := hst
      refine ⟨_, rfl, a, _, _, _, rfl, rfl, SqT.of ha, rfl, rfl, _, rfl, iteT ?_⟩
      refine ⟨_, rfl, _, rfl, a, _, _, _, rfl, rfl, SqT.of ha, rfl, ra, _, dx, _, _, rfl, h1, T.c "Rule", T.a "Rule" "own_numbers", rfl, _, rfl, t, r, y, rfl, SqT.of h2, ok, fun H1 s1 => ⟨_, _, rfl, rfl, ?_⟩⟩
      exact ⟨_, rfl, by show 2 ≤ sizeLine; decide, fun p hp => q _ _ (Same.of_upd s1 (none_back s1 hp)) upd_same⟩
    | t e b c d =>
      obtain ⟨a, rfl, ha⟩ := hst
      obtain ⟨m1, m2, m3, m4⟩ := ok
      refine ⟨_, rfl, a, _, _, _, rfl, rfl, SqT.of ha, rfl, rfl, _, rfl, iteF ⟨_, rfl, a, _, _, _, rfl, rfl, SqT.of ha, rfl, rfl, _, rfl, iteF ⟨_, rfl, a, _, _, _, rfl, rfl, SqT.of ha, rfl, rfl, _, rfl, iteF ?_⟩⟩⟩
      refine ⟨_, rfl, a, _, _, _, rfl, rfl, SqT.of ha, rfl, _, rfl, _, _, rfl, rfl, m1, _, rfl, a, _, _, _, rfl, rfl, SqT.of ha, rfl, _, rfl, _, _, rfl, rfl, m2, _, _, rfl, rfl, ?_⟩
      refine ⟨_, rfl, a, _, _, _, rfl, rfl, SqT.of ha, rfl, _, rfl, _, _, rfl, rfl, m3, _, rfl, a, _, _, _, rfl, rfl, SqT.of ha, rfl, _, rfl, _, _, rfl, rfl, m4, _, _, rfl, rfl, ?_⟩
      exact ⟨by show 2 ≤ sizeLine; decide, fun p hp => q _ _ (same_upd hp) upd_same⟩
    | m s t =>
      obtain ⟨a, rfl, ha⟩ := hst
      refine ⟨_, rfl, a, _, _, _, rfl, rfl, SqT.of ha, rfl, rfl, _, rfl, iteF ⟨_, rfl, a, _, _, _, rfl, rfl, SqT.of ha, rfl, rfl, _, rfl, iteF ⟨_, rfl, a, _, _, _, rfl, rfl, SqT.of ha, rfl, rfl, _, rfl, iteT ?_⟩⟩⟩
      refine ⟨_, rfl, _, rfl, a, _, _, _, rfl, rfl, SqT.of ha, rfl, _, _, rfl, rfl, _, rfl, _, rfl, a, _, _, _, rfl, rfl, SqT.of ha, rfl, _, _, rfl, rfl, ?_⟩
      exact ⟨by show 2 ≤ sizeLine; decide, fun p hp => q _ _ (same_upd hp) upd_same⟩
/-- what can be undone with products that are small enough -/
def OkU : Stp → Prop
  | .x r => r.length ≤ 100
  | .t a b c d => (Sm a ∧ Sm b ∧ Sm c ∧ Sm d) ∧ Sm (a * d - b * c)
  | .m _ _ => True
def spUnd (K : Fg) : Sp := fun vs H Q _ => ∃ v st, vs = [v] ∧ StepAt K H v st ∧ OkU st ∧ ∀ H' u, Same H H' → StepAt K H' u (undo st) → Q u H'
theorem ok_undone (T : TX K mg) : Fx P w K mg base 5 (d_undone.ad K) (spUnd K) := by
  refine fx_mk T fd_undone rfl sc_undone bd_undone (fun vs H Q E h => ?_) (fun cdv A outer s H vs Q E hr h => ?_)
  · obtain ⟨v, st, rfl, _⟩ := h
    rfl
  · obtain ⟨v, st, rfl, hst, ok, q⟩ := h
    refine ⟨_, (pss_cons (ps_if (pt_cmpR op_in_seq (pe_ix ix_tup (pv 0) pe_int (fun _ _ => rfl)) (pe_tup (pa_cons pe_str (pa_cons pe_str pa_nil))) (by with_unfolding_all rfl)) (pss_one (ps_ret (pe_tup (pa_cons (pe_ix ix_tup (pv 0) pe_int (fun _ _ => rfl)) (pa_cons (pe_un (un_negO (T.sp "Rule" "__neg__") (ok_Rule_neg T).raw (hr.mono (by decide)) pass0) (pe_ix ix_tup (pv 0) pe_int (fun _ _ => rfl))) pa_nil))))) pss_nil) (pss_cons (ps_if (pt_cmpR op_eq (pe_ix ix_tup (pv 0) pe_int (fun _ _ => rfl)) pe_str (nomark _)) (pss_one (ps_ret (pe_tup (pa_cons (pe_ix ix_tup (pv 0) pe_int (fun _ _ => rfl)) (pa_cons (pe_op op_sub pe_int (pe_ix ix_tup (pv 0) pe_int (fun _ _ => rfl))) (pa_cons (pe_op op_sub pe_int (pe_ix ix_tup (pv 0) pe_int (fun _ _ => rfl))) pa_nil)))))) pss_nil) (pss_cons (ps_asg (pv 0) (pg_tup rfl (pgs_cons (pg_name (i := 1) sc_undone.nd rfl (.inl rfl)) (pgs_cons (pg_name (i := 2) sc_undone.nd rfl (.inl rfl)) (pgs_cons (pg_name (i := 3) sc_undone.nd rfl (.inl rfl)) (pgs_cons (pg_name (i := 4) sc_undone.nd rfl (.inl rfl)) (pgs_cons (pg_name (i := 5) sc_undone.nd rfl (.inl rfl)) pgs_nil))))))) (pss_cons (ps_set (i := 6) sc_undone.nd rfl (.inl rfl) (pe_op op_sub (pe_op op_mulW (pv 2) (pv 5)) (pe_op op_mulW (pv 3) (pv 4)))) (pss_one (ps_ret (pe_tup (pa_cons (pv 1) (pa_cons (pe_op op_mulW (pv 6) (pv 5)) (pa_cons (pe_op op_sub pe_int (pe_op op_mulW (pv 6) (pv 3))) (pa_cons (pe_op op_sub pe_int (pe_op op_mulW (pv 6) (pv 4))) (pa_cons (pe_op op_mulW (pv 6) (pv 2)) pa_nil)))))))))))), ?_⟩
    cases st with
    | x r =>
      obtain ⟨a, ra, rfl, ha, hr1⟩ := hst
      refine ⟨_, rfl, a, _, _, _, rfl, rfl, SqT.of ha, rfl, by show 2 ≤ sizeLine; decide, fun p hp => ⟨p, _, rfl, .inr (SqT.of upd_same), rfl, rfl, _, rfl, iteT ?_⟩⟩
      have s1 := same_upd (o := .tup [.str "x", .str "y"]) hp
      have hr2 := hr1.keep (Same.fix s1)
      obtain ⟨dx, t, h1, h2⟩ := id hr2
      refine ⟨_, rfl, a, _, _, _, rfl, rfl, SqT.of (s1 _ _ ha), rfl, _, rfl, a, _, _, _, rfl, rfl, SqT.of (s1 _ _ ha), rfl, ra, dx, _, rfl, h1, ra, r, rfl, hr2, ok, fun H2 z s2 hz => ?_⟩
      have s3 : Same H H2 := Same.tr s1 s2
      exact ⟨by show 2 ≤ sizeLine; decide, fun p2 hp2 => q _ _ (Same.of_upd s3 (none_back s3 hp2)) ⟨p2, z, rfl, upd_same, hz.keep (Same.fix (same_upd hp2))⟩⟩
    | t e b c d =>
      obtain ⟨a, rfl, ha⟩ := hst
      obtain ⟨⟨m1, m2, m3, m4⟩, m5⟩ := ok
      refine ⟨_, rfl, a, _, _, _, rfl, rfl, SqT.of ha, rfl, by show 2 ≤ sizeLine; decide, fun p hp => ⟨p, _, rfl, .inr (SqT.of upd_same), rfl, rfl, _, rfl, iteF ?_⟩⟩
      have s1 := same_upd (o := .tup [.str "x", .str "y"]) hp
      have ha1 := s1 _ _ ha
      refine ⟨_, rfl, a, _, _, _, rfl, rfl, SqT.of ha1, rfl, rfl, _, rfl, iteF ?_⟩
      refine ⟨_, rfl, a, _, rfl, SqT.of ha1, rfl, _, _, rfl, _, _, rfl, _, _, rfl, _, _, rfl, _, _, rfl, rfl, ?_⟩
      refine ⟨_, rfl, _, rfl, _, _, rfl, rfl, Sm.mul m1 m4, _, rfl, _, rfl, _, _, rfl, rfl, Sm.mul m2 m3, _, _, rfl, rfl, ?_⟩
      refine ⟨_, rfl, _, rfl, _, rfl, _, _, rfl, rfl, Sm.mul m5 m4, _, rfl, _, rfl, _, _, rfl, rfl, Sm.mul m5 m2, _, _, rfl, rfl, _, rfl, _, rfl, _, _, rfl, rfl, Sm.mul m5 m3, _, _, rfl, rfl, _, rfl, _, rfl, _, _, rfl, rfl, Sm.mul m5 m1, ?_⟩
      exact ⟨by show 5 ≤ sizeLine; decide, fun p2 hp2 => q _ _ (Same.of_upd s1 (none_back s1 hp2)) ⟨p2, rfl, upd_same⟩⟩
    | m s t =>
      obtain ⟨a, rfl, ha⟩ := hst
      refine ⟨_, rfl, a, _, _, _, rfl, rfl, SqT.of ha, rfl, by show 2 ≤ sizeLine; decide, fun p hp => ⟨p, _, rfl, .inr (SqT.of upd_same), rfl, rfl, _, rfl, iteF ?_⟩⟩
      have s1 := same_upd (o := .tup [.str "x", .str "y"]) hp
      have ha1 := s1 _ _ ha
      refine ⟨_, rfl, a, _, _, _, rfl, rfl, SqT.of ha1, rfl, rfl, _, rfl, iteT ?_⟩
      refine ⟨_, rfl, a, _, _, _, rfl, rfl, SqT.of ha1, rfl, _, rfl, a, _, _, _, rfl, rfl, SqT.of ha1, rfl, _, _, rfl, rfl, _, rfl, a, _, _, _, rfl, rfl, SqT.of ha1, rfl, _, _, rfl, rfl, ?_⟩
      exact ⟨by show 3 ≤ sizeLine; decide, fun p2 hp2 => q _ _ (Same.of_upd s1 (none_back s1 hp2)) ⟨p2, rfl, upd_same⟩⟩
end
end K5
set_option Elab.async false
set_option linter.all false
set_option maxRecDepth 100000
set_option maxHeartbeats 4000000
namespace K5
open PySem PySem.Spec PyProof.Rows L2
theorem SAt {K : Fg} {H : Hp} {a : Addr} {vs : List V} (h : H a = some (.lst vs) ∨ H a = some (.tup vs)) {H' : Hp} (s : Same H H') : H' a = some (.lst vs) ∨ H' a = some (.tup vs) := by
  rcases h with h | h
  · exact .inl (s _ _ h)
  · exact .inr (s _ _ h)
section
variable {P : Program} {w : World} {K : Fg} {mg : Str → Option Value} {base : Heap}
def spPrI (K : Fg) : Sp := fun vs H Q _ => ∃ x dx a us ss, vs = [.ref x, .ref a] ∧ H x = some (.ins (glA "Program" K) dx []) ∧ (H a = some (.lst us) ∨ H a = some (.tup us)) ∧ StepsAt K H us ss ∧ (∀ s ∈ ss, OkS s) ∧ us.length ≤ 1000 ∧
  ∀ H', (∀ b u, b ≠ x → H b = some u → H' b = some u) → ProgAt K H' x ss → Q .non H'
theorem ok_Program_init (T : TX K mg) : Fx P w K mg base 3 (d_Program_init.ad K) (spPrI K) := by
  refine fx_mk1 T fd_Program_init rfl sc_Program_init (fun t kV doc pm an cdv ct us its h1 h2 => ?_) (fun vs H Q E h => ?_) (fun cdv A outer s H vs Q E hr h => ?_)
  · match us, its, h1, h2 with
    | [_, _], [_], _, _ => exact ⟨_, rfl, rfl⟩
  · obtain ⟨x, dx, a, us, ss, rfl, _⟩ := h
    rfl
  · obtain ⟨x, dx, a, us, ss, rfl, hx, ha, hp, ok, hl, q⟩ := h
    refine ⟨_, (pss_cons (ps_if (pt_not (pt_val (pe_f (ok_is_list T) (T.g "is_list") hr (by decide) (by rfl) (pa_cons (pv 1) pa_nil)))) (pss_one ps_never) pss_nil) (pss_cons (ps_for PassesOwn.never rfl (pi_enT (by rfl) (T.r "enumerate") (pa_cons (pv 1) pa_nil)) (pg_tup rfl (pgs_cons (pg_name (i := 2) sc_Program_init.nd rfl (.inl rfl)) (pgs_cons (pg_name (i := 3) sc_Program_init.nd rfl (.inl rfl)) pgs_nil))) (pss_one (ps_if (pt_not (pt_val (pe_f (ok_is_step T) (T.g "is_step") hr (by decide) (by rfl) (pa_cons (pv 3) pa_nil)))) (pss_one ps_never) pss_nil))) (pss_one (ps_fld (pv 0) (pe_callTy call_tuple_of (by rfl) (T.r "tuple") ty_tuple (pa_cons (pv 1) pa_nil)) rfl)))), ?_⟩
    refine ⟨_, rfl, a, _, rfl, ha, fun H1 s1 => ⟨_, rfl, iteF ?_⟩⟩
    have turn : ∀ i v (σ : L2.St) (H2 H' : Hp), i < us.length → (∃ y2 y3, σ = [some (.ref x), some (.ref a), y2, y3] ∧ Same H H2) → YPair (fun i => some (.int (i : Nat))) (fun i => us[i]?) i H2 v H' →
        ∃ T' x2 st, v = .ref T' ∧ H2 T' = none ∧ H' = upd H2 T' (.tup [.int (i : Nat), x2]) ∧ StepAt K H' x2 st ∧ OkS st ∧ Same H H' ∧ ∃ y2 y3, σ = [some (.ref x), some (.ref a), y2, y3] := fun i v σ H2 H' hi hP hY => by
      obtain ⟨y2, y3, rfl, s⟩ := hP
      obtain ⟨T', x1, x2, rfl, hT, rfl, e1, e2⟩ := hY
      cases e1
      obtain ⟨st, e3, r⟩ := paired_get hp e2
      have s2 : Same H (upd H2 T' (.tup [.int (i : Nat), x2])) := Same.of_upd s (none_back s hT)
      exact ⟨T', x2, st, rfl, hT, rfl, r.keep (Same.fix s2), ok _ (List.mem_of_getElem? e3), s2, _, _, rfl⟩
    have fin : ∀ (σ : L2.St) (H' : Hp), (∃ y2 y3, σ = [some (.ref x), some (.ref a), y2, y3] ∧ Same H H') → tRet (tCB (fun xs H Q => ∃ p ys, xs = [.ref p] ∧ ((SqL K H p ys ∧ ∀ l, H l = none → Q (.ref l) (upd H l (.tup ys))) ∨ (SqT K H p ys ∧ Q (.ref p) H))) (tCons (tVar 1) tNil)) { nx := fun _ _ => False, rt := fun v H3 => ∃ p, v = .ref p ∧ Same H H3 ∧ H3 p = some (.tup us) } σ H' := fun σ H' hP => by
      obtain ⟨y2, y3, rfl, s⟩ := hP
      rcases SAt (K := K) ha s with h | h
      · exact ⟨_, rfl, a, us, rfl, .inl ⟨SqL.of h, fun l hl => ⟨l, rfl, Same.of_upd s (none_back s hl), upd_same⟩⟩⟩
      · exact ⟨_, rfl, a, us, rfl, .inr ⟨SqT.of h, a, rfl, s, h⟩⟩
    have fin2 : ∀ (H3 : Hp) p, Same H H3 → H3 p = some (.tup us) → ∃ a1 C dx1 fs, V.ref x = .ref a1 ∧ H3 a1 = some (.ins C dx1 fs) ∧ Cls K C ∧ NoAttr K C "own_steps" ∧ fs.length < 1000 ∧ Q .non (upd H3 a1 (.ins C dx1 (putF "own_steps" (.ref p) fs))) := fun H3 p s4 hp3 => by
      refine ⟨x, _, dx, _, rfl, s4 _ _ hx, T.c "Program", T.a "Program" "own_steps", by decide, ?_⟩
      have px : p ≠ x := by
        intro z
        rw [z, s4 _ _ hx] at hp3
        cases hp3
      have fx : Fixes H (upd H3 x (.ins (glA "Program" K) dx (putF "own_steps" (.ref p) []))) := fun b o hb e => by
        have nb : b ≠ x := by
          rintro rfl
          rw [hx] at e
          cases e
          cases hb
        rw [upd_ne nb]
        exact s4 b o e
      refine q _ (fun b u nb hb => ?_) ⟨dx, p, us, upd_same, ?_, hp.keep fx⟩
      · rw [upd_ne nb]
        exact s4 b u hb
      · rw [upd_ne px]
        exact hp3
    have last : ∀ (σ : L2.St) (H' : Hp), (∃ y2 y3, σ = [some (.ref x), some (.ref a), y2, y3] ∧ Same H H') → sFld K (tVar 0) (tCB (fun xs H Q => ∃ p ys, xs = [.ref p] ∧ ((SqL K H p ys ∧ ∀ l, H l = none → Q (.ref l) (upd H l (.tup ys))) ∨ (SqT K H p ys ∧ Q (.ref p) H))) (tCons (tVar 1) tNil)) "own_steps" { nx := fun _ H' => Q .non H', rt := Q } σ H' := fun σ H' hP => by
      obtain ⟨y2, y3, rfl, s⟩ := hP
      rcases SAt (K := K) ha s with h | h
      · exact ⟨_, rfl, a, us, rfl, .inl ⟨SqL.of h, fun l hl => ⟨_, rfl, fin2 _ l (Same.of_upd s (none_back s hl)) upd_same⟩⟩⟩
      · exact ⟨_, rfl, a, us, rfl, .inr ⟨SqT.of h, _, rfl, fin2 _ a s h⟩⟩
    refine ⟨_, rfl, a, us, rfl, ?_⟩
    have h1 := SAt (K := K) ha s1
    rcases ha with ha | ha
    · refine .inl ⟨SqL.of (s1 _ _ ha), for_it (walk_enum (xs := us)) (fun i σ H' => ∃ y2 y3, σ = [some (.ref x), some (.ref a), y2, y3] ∧ Same H H') ⟨none, none, rfl, s1⟩ (fun i σ H' _ h => ?_) (fun i v σ H2 H' hi hP hY => ?_) last⟩
      · obtain ⟨_, _, _, s⟩ := h
        exact SqL.of (s _ _ ha)
      · obtain ⟨T', x2, st, rfl, hT, rfl, hst, okst, s2, y2, y3, rfl⟩ := turn i v σ H2 H' hi hP hY
        exact ⟨T', _, rfl, SqT.of upd_same, rfl, _, _, rfl, _, _, rfl, rfl, _, rfl, _, st, rfl, hst, okst, fun H3 s3 => ⟨_, rfl, iteF ⟨_, _, rfl, Same.tr s2 s3⟩⟩⟩
    · refine .inr ⟨SqT.of (s1 _ _ ha), for_it (walk_itE (xs := us)) (fun i σ H' => ∃ y2 y3, σ = [some (.ref x), some (.ref a), y2, y3] ∧ Same H H') ⟨none, none, rfl, s1⟩ (fun i σ H' _ h => ?_) (fun i v σ H2 H' hi hP hY => ?_) last⟩
      · obtain ⟨_, _, _, s⟩ := h
        exact SqT.of (s _ _ ha)
      · obtain ⟨T', x2, st, rfl, hT, rfl, hst, okst, s2, y2, y3, rfl⟩ := turn i v σ H2 H' hi hP hY
        exact ⟨T', _, rfl, SqT.of upd_same, rfl, _, _, rfl, _, _, rfl, rfl, _, rfl, _, st, rfl, hst, okst, fun H3 s3 => ⟨_, rfl, iteF ⟨_, _, rfl, Same.tr s2 s3⟩⟩⟩
theorem new_prog {H1 : Hp} {a : Addr} {us : List V} {ss : List Stp} {Q : VK} {E : XK} (ha : H1 a = some (.lst us) ∨ H1 a = some (.tup us)) (hp : StepsAt K H1 us ss) (ok : ∀ s ∈ ss, OkS s) (hl : us.length ≤ 1000) (q : ∀ H' x, Same H1 H' → ProgAt K H' x ss → Q (.ref x) H') :
    ∀ x dx, H1 x = none → H1 dx = none → dx ≠ x → spPrI K [.ref x, .ref a] (upd (upd H1 dx (.own x)) x (.ins (glA "Program" K) dx [])) (fun v H2 => v = .non ∧ Q (.ref x) H2) E := fun x dx nx nd ne => by
  have s : Same H1 (upd (upd H1 dx (.own x)) x (.ins (glA "Program" K) dx [])) := Same.of_upd (same_upd nd) nx
  exact ⟨x, dx, a, us, ss, rfl, upd_same, SAt (K := K) ha s, hp.keep (Same.fix s), ok, hl, fun H' k hr => ⟨rfl, q _ _ (Same.made nx nd fun b o e nb => k b o nb e) hr⟩⟩
def spStp (K : Fg) : Sp := fun vs H Q _ => ∃ r ss, vs = [.ref r] ∧ ProgAt K H r ss ∧ ∀ t us, H t = some (.tup us) → StepsAt K H us ss → Q (.ref t) H
theorem ok_Program_steps (T : TX K mg) : Fx P w K mg base 1 (d_Program_steps.ad K) (spStp K) := by
  refine fx_mk T fd_Program_steps rfl sc_Program_steps bd_Program_steps (fun vs H Q E h => ?_) (fun cdv A outer s H vs Q E hr h => ?_)
  · obtain ⟨r, ns, rfl, _⟩ := h
    rfl
  · obtain ⟨r, ns, rfl, ⟨dx, t, us, h1, h2, h3⟩, q⟩ := h
    refine ⟨_, (pss_one (ps_ret (pe_fld (pv 0) rfl))), ?_⟩
    exact ⟨_, rfl, r, _, dx, _, _, rfl, h1, T.c "Program", T.a "Program" "own_steps", rfl, q _ _ h2 h3⟩
theorem okrun_drop {ss : List Stp} : ∀ {p : Pt}, OkRun ss p → ∀ {i : Nat} {s : Stp}, ss[i]? = some s → OkF s (runs (ss.take i) p) := by
  induction ss with
  | nil => intro p _ i s h; simp at h
  | cons a ss ih =>
    intro p h i s e
    cases i with
    | zero => obtain rfl : a = s := by simpa using e
              exact h.1
    | succ i => exact ih h.2 (by simpa using e)
theorem runs_take {ss : List Stp} {i : Nat} {s : Stp} (h : ss[i]? = some s) (p : Pt) : runs (ss.take (i + 1)) p = stepF s (runs (ss.take i) p) := by
  rw [List.take_succ, h]
  unfold runs
  rw [List.foldl_append]
  rfl
def spPrC (K : Fg) : Sp := fun vs H Q _ => ∃ r ss, ∃ p : Pt, vs = [.ref r, .int p.1, .int p.2] ∧ ProgAt K H r ss ∧ OkRun ss p ∧ ∀ H' t, Same H H' → H' t = some (.tup [.int (runs ss p).1, .int (runs ss p).2]) → Q (.ref t) H'
theorem ok_Program_call (T : TX K mg) : Fx P w K mg base 3 (d_Program_call.ad K) (spPrC K) := by
  refine fx_mk T fd_Program_call rfl sc_Program_call bd_Program_call (fun vs H Q E h => ?_) (fun cdv A outer s H vs Q E hr h => ?_)
  · obtain ⟨r, ns, p, rfl, _⟩ := h
    rfl
  · obtain ⟨r, ss, p, rfl, ⟨dx, t, us, h1, h2, h3⟩, ok, q⟩ := h
    refine ⟨_, (pss_cons (ps_expr (pe_f (ok_need_point T) (T.g "need_point") hr (by decide) (by rfl) (pa_cons (pv 1) (pa_cons (pv 2) pa_nil)))) (pss_cons (ps_for PassesOwn.never rfl (pi_tup (pe_fld (pv 0) rfl)) (pg_name (i := 3) sc_Program_call.nd rfl (.inl rfl)) (pss_one (ps_asg (pe_f (ok_done T) (T.g "done") hr (by decide) (by rfl) (pa_cons (pv 3) (pa_cons (pv 1) (pa_cons (pv 2) pa_nil)))) (pg_tup rfl (pgs_cons (pg_name (i := 1) sc_Program_call.nd rfl (.inl rfl)) (pgs_cons (pg_name (i := 2) sc_Program_call.nd rfl (.inl rfl)) pgs_nil)))))) (pss_one (ps_ret (pe_tup (pa_cons (pv 1) (pa_cons (pv 2) pa_nil))))))), ?_⟩
    refine ⟨_, rfl, _, rfl, p.1, p.2, rfl, ?_⟩
    refine ⟨_, rfl, r, _, dx, _, _, rfl, h1, T.c "Program", T.a "Program" "own_steps", rfl, t, rfl, ⟨_, SqT.of h2⟩, for_tup (xs := us) (fun i σ H' => Same H H' ∧ ∃ y, σ = [some (.ref r), some (.int (runs (ss.take i) p).1), some (.int (runs (ss.take i) p).2), y])
      ⟨Same.rfl', none, rfl⟩ (fun i σ H' _ h => SqT.of (h.1 _ _ h2)) (fun i v σ H' hv hP => ?_) (fun σ H' hP => ?_)⟩
    · obtain ⟨s, y, rfl⟩ := hP
      obtain ⟨st, e, hst⟩ := paired_get h3 hv
      refine ⟨_, rfl, _, rfl, _, rfl, v, st, runs (ss.take i) p, rfl, hst.keep (Same.fix s), okrun_drop ok e, fun H2 t2 s2 ht2 => ?_⟩
      refine ⟨t2, _, rfl, SqT.of ht2, rfl, _, _, rfl, _, _, rfl, rfl, Same.tr s s2, some v, ?_⟩
      rw [runs_take e]
      rfl
    · obtain ⟨s, y, rfl⟩ := hP
      rw [paired_len h3, List.take_length]
      exact ⟨_, rfl, _, rfl, by show 2 ≤ sizeLine; decide, fun t3 ht3 => q _ _ (Same.of_upd s (none_back s ht3)) upd_same⟩
def spPrV (K : Fg) : Sp := fun vs H Q _ => ∃ r ss, vs = [.ref r] ∧ ProgAt K H r ss ∧ (∀ s ∈ ss, OkU s ∧ OkS (undo s)) ∧ ss.length ≤ 1000 ∧ ∀ H' x, Same H H' → ProgAt K H' x (ss.reverse.map undo) → Q (.ref x) H'
theorem ok_Program_invert (T : TX K mg) : Fx P w K mg base 6 (d_Program_invert.ad K) (spPrV K) := by
  refine fx_mk T fd_Program_invert rfl sc_Program_invert bd_Program_invert (fun vs H Q E h => ?_) (fun cdv A outer s H vs Q E hr h => ?_)
  · obtain ⟨r, ns, rfl, _⟩ := h
    rfl
  · obtain ⟨r, ss, rfl, ⟨dx, t, us, h1, h2, h3⟩, ok, hl, q⟩ := h
    refine ⟨_, (pss_one (ps_ret (pe_new (ok_Program_init T) (T.m "Program") (T.g "Program") hr (by decide) (by rfl) (pa_cons (pe_lc (own := [("step", 1)]) rfl sc_Program_invert.nd (pi_tup (pe_revT (pe_fld (pv 0) rfl))) (blkOk_by (own := [("step", 1)]) (N := n_Program_invert) (sc := defScope s_Program_invert) (by decide +kernel)) (fun _ _ _ _ _ => (pg_name (i := 1) sc_Program_invert.nd rfl (.inl rfl))) (fun _ _ _ _ _ => pts_nil) (fun _ _ _ _ _ => (pe_f (ok_undone T) (T.g "undone") hr (by decide) (by rfl) (pa_cons (pv 1) pa_nil)))) pa_nil)))), ?_⟩
    have hlen := paired_len h3
    refine ⟨_, rfl, r, _, dx, _, _, rfl, h1, T.c "Program", T.a "Program" "own_steps", rfl, t, _, rfl, SqT.of h2, fun p hp => ?_⟩
    have s1 : Same H (upd H p (.tup us.reverse)) := same_upd hp
    have h4 : StepsAt K (upd H p (.tup us.reverse)) us.reverse ss.reverse := StepsAt.keep (paired_rev h3) (Same.fix s1)
    refine ⟨p, rfl, ⟨_, SqT.of upd_same⟩, fun D hD => ?_⟩
    refine lc_all (walk_tup (xs := us.reverse)) (R := fun i H v => ∃ st, (ss.reverse.map undo)[i]? = some st ∧ StepAt K H v st) hD (fun H' s => SqT.of (s _ _ upd_same)) yat_same (fun i H H' v f h => ?_) (by rw [List.length_reverse]; exact small2 (by omega)) (fun i x H1 H' Q' hi s hY hq => ?_) (fun H1 acc s2 hacc hal hav => ?_)
    · obtain ⟨st, e, h⟩ := h
      exact ⟨st, e, h.keep f⟩
    · obtain ⟨rfl, hx⟩ := hY
      obtain ⟨st, e, hst⟩ := paired_get h4 hx
      refine ⟨rfl, _, rfl, x, st, rfl, hst.keep (Same.fix s), (ok st (List.mem_reverse.mp (List.mem_of_getElem? e))).1, fun H2 u s2 hu => hq _ _ s2 ⟨_, ?_, hu⟩⟩
      rw [List.getElem?_map, e]
      rfl
    · refine new_prog (.inl hacc) (paired_of (by rw [hal, List.length_reverse, List.length_map, List.length_reverse, hlen]) hav) (fun s hs => ?_) (by rw [hal, List.length_reverse]; omega) fun H' x s hr => q _ _ (Same.tr (Same.tr s1 s2) s) hr
      obtain ⟨s', hs', rfl⟩ := List.mem_map.mp hs
      exact (ok s' (List.mem_reverse.mp hs')).2
def spPas (K : Fg) : Sp := fun vs H Q _ => ∃ r ss, ∃ n : Nat, vs = [.ref r, .int (n : Nat)] ∧ ProgAt K H r ss ∧ 2 ≤ n ∧ n ≤ 10 ∧ (∀ s ∈ ss, OkS s) ∧ ss ≠ [] ∧ ss.length ≤ 100 ∧ ∀ H' x, Same H H' → ProgAt K H' x (List.replicate n ss).flatten → Q (.ref x) H'
theorem ok_Program_passes (T : TX K mg) : Fx P w K mg base 6 (d_Program_passes.ad K) (spPas K) := by
  refine fx_mk T fd_Program_passes rfl sc_Program_passes bd_Program_passes (fun vs H Q E h => ?_) (fun cdv A outer s H vs Q E hr h => ?_)
  · obtain ⟨r, ns, n, rfl, _⟩ := h
    rfl
  · obtain ⟨r, ss, n, rfl, ⟨dx, t, us, h1, h2, h3⟩, hn, hn2, ok, hne, hl, q⟩ := h
    refine ⟨_, (pss_cons (ps_if (pt_not (pt_val (pe_f (ok_is_number_rules T) (T.g "is_number_rules") hr (by decide) (by rfl) (pa_cons (pv 1) pa_nil)))) (pss_one ps_never) pss_nil) (pss_cons (ps_if (pt_cmpR op_lt (pv 1) pe_int (nomark _)) (pss_one ps_never) pss_nil) (pss_one (ps_ret (pe_new (ok_Program_init T) (T.m "Program") (T.g "Program") hr (by decide) (by rfl) (pa_cons (pe_op op_repT (pe_fld (pv 0) rfl) (pv 1)) pa_nil)))))), ?_⟩
    have hlen := paired_len h3
    refine ⟨_, rfl, _, rfl, _, rfl, iteF ⟨_, rfl, _, _, rfl, rfl, _, rfl, ?_⟩⟩
    rw [decide_eq_false (by omega)]
    refine iteF ⟨_, rfl, r, _, dx, _, _, rfl, h1, T.c "Program", T.a "Program" "own_steps", rfl, _, rfl, t, _, us, rfl, rfl, SqT.of h2, ?_, by omega, by omega, by omega, fun p hp => ?_⟩
    · intro z
      rw [z] at hlen
      exact hne (List.length_eq_zero_iff.mp hlen.symm)
    · rw [Int.toNat_natCast]
      have s1 : Same H (upd H p (.tup (List.replicate n us).flatten)) := same_upd hp
      have fl : ∀ (k : Nat) (l : List V), (List.replicate k l).flatten.length = k * l.length := fun k l => by simp
      refine new_prog (.inr upd_same) (StepsAt.keep (paired_rep h3 n) (Same.fix s1)) (fun s hs => ?_) ?_ fun H' x s hr => q _ _ (Same.tr s1 s) hr
      · obtain ⟨l, hl1, hl2⟩ := List.mem_flatten.mp hs
        rw [List.eq_of_mem_replicate hl1] at hl2
        exact ok s hl2
      · rw [fl]
        have : n * us.length ≤ 10 * 100 := Nat.mul_le_mul hn2 (by omega)
        omega
end
end K5
set_option Elab.async false
set_option linter.all false
set_option maxRecDepth 100000
set_option maxHeartbeats 4000000
namespace K5
open PySem PySem.Spec PyProof.Rows L2
def nameS : Stp → Str
  | .x _ => "x"
  | .t _ _ _ _ => "turn"
  | .m _ _ => "move"
def restS : Stp → List V
  | .x _ => []
  | .t a b c d => [.int a, .int b, .int c, .int d]
  | .m s t => [.int s, .int t]
theorem StepAt.hd {K : Fg} {H : Hp} {v : V} {st : Stp} (h : StepAt K H v st) : ∃ p xs, v = .ref p ∧ H p = some (.tup (.str (nameS st) :: xs)) := by
  cases st with
  | x r => obtain ⟨a, r, e, h, _⟩ := h; exact ⟨a, _, e, h⟩
  | t a b c d => obtain ⟨p, e, h⟩ := h; exact ⟨p, _, e, h⟩
  | m s t => obtain ⟨p, e, h⟩ := h; exact ⟨p, _, e, h⟩
theorem atI_neg {α : Type} {xs : List α} {k : Nat} {v : α} (h : xs[xs.length - k]? = some v) (h0 : 0 < k) (hk : k ≤ xs.length) : atI xs (-(k : Int)) = some v := by
  unfold atI ixN
  rw [if_neg (by omega), if_pos (by omega)]
  show xs[(-(k : Int) + (xs.length : Int)).toNat]? = some v
  rw [show (-(k : Int) + (xs.length : Int)).toNat = xs.length - k by omega]
  exact h
theorem sIx_neg (n d k : Nat) (h0 : 0 < k) (h : k ≤ n) : HT.sIx n d (some (-(k : Int))) = n - k := by
  unfold HT.sIx
  simp only
  first
    | omega
    | (split <;> omega)
    | (rw [if_neg (by omega)]; omega)
theorem cut_neg (xs : List V) (k : Nat) (h0 : 0 < k) (h : k ≤ xs.length) : cutV xs none (some (-(k : Int))) = xs.take (xs.length - k) := by
  unfold cutV
  rw [HT.sIx_none, sIx_neg _ _ _ h0 h]
  rfl
theorem cut_from (xs : List V) (k : Nat) (h : k ≤ xs.length) : cutV xs (some (k : Int)) none = xs.drop k := by
  unfold cutV
  rw [HT.sIx_nat, HT.sIx_none, Nat.min_eq_left h, List.take_of_length_le (by rw [List.length_drop]; omega)]
def okPart : Stp → Prop
  | .x r => Bend r
  | .t a b c d => a = 0 ∧ b = -1 ∧ c = 1 ∧ Sm d
  | .m _ _ => False
structure CoreL (ss parts : List Stp) (e f s t : Int) : Prop where
  eq : ss = parts ++ [.t e 0 0 f, .m s t]
  two : 2 ≤ parts.length
  even : parts.length % 2 = 0
  hd : ∃ r rest, parts = .x r :: rest
  all : ∀ s ∈ parts, okPart s
  alt : ∀ (j : Nat) (a b : Stp), parts[j]? = some a → parts[j + 1]? = some b → nameS a ≠ nameS b
  len : parts.length ≤ 100
theorem CoreL.ln {ss parts : List Stp} {e f s t : Int} (h : CoreL ss parts e f s t) : ss.length = parts.length + 2 := by rw [h.eq]; simp
section
variable {P : Program} {w : World} {K : Fg} {mg : Str → Option Value} {base : Heap}
def spBnd (K : Fg) : Sp := fun vs H Q _ => ∃ v st, vs = [v] ∧ StepAt K H v st ∧ okPart st ∧ Q (.bl (decide (nameS st = "x"))) H
theorem ok_is_bend (T : TX K mg) : Fx P w K mg base 5 (d_is_bend.ad K) (spBnd K) := by
  refine fx_mk T fd_is_bend rfl sc_is_bend bd_is_bend (fun vs H Q E h => ?_) (fun cdv A outer s H vs Q E hr h => ?_)
  · obtain ⟨v, st, rfl, _⟩ := h
    rfl
  · obtain ⟨v, st, rfl, hst, ok, q⟩ := h
    refine ⟨_, (pss_one (ps_ret (pe_and (pe_cmpR op_eq (pe_ix ix_tup (pv 0) pe_int (fun _ _ => rfl)) pe_str (nomark _)) (pe_and (pe_cmpR op_gt (pe_pr (ok_Rule_degree T) (T.c "Rule") (T.pr "Rule" "degree") hr (by decide) (pe_ix ix_tup (pv 0) pe_int (fun _ _ => rfl)) rfl) pe_int (nomark _)) (pe_and (pe_cmpR op_eq (pe_ixO (T.sp "Rule" "__getitem__") (ok_Rule_getitem T).raw (hr.mono (by decide)) pass0 (pe_ix ix_tup (pv 0) pe_int (fun _ _ => rfl)) pe_int) pe_int (nomark _)) (pe_one (pe_cmpR op_eq (pe_ixO (T.sp "Rule" "__getitem__") (ok_Rule_getitem T).raw (hr.mono (by decide)) pass0 (pe_ix ix_tup (pv 0) pe_int (fun _ _ => rfl)) pe_int) pe_int (nomark _)))))))), ?_⟩
    cases st with
    | x r =>
      obtain ⟨a, ra, rfl, ha, hr1⟩ := hst
      obtain ⟨q0, rfl, hnz⟩ := id ok
      obtain ⟨dx, t, h1, h2⟩ := id hr1
      have l3 := bend_len ok
      refine ⟨_, rfl, a, _, _, _, rfl, rfl, SqT.of ha, rfl, rfl, _, rfl, iteT ?_⟩
      refine ⟨_, rfl, a, _, _, _, rfl, rfl, SqT.of ha, rfl, ra, dx, _, rfl, h1, ra, _, rfl, hr1, _, _, rfl, rfl, _, rfl, ?_⟩
      rw [decide_eq_true (by show (1 : Int) < ((0 :: 0 :: q0).length : Int) - 1; omega)]
      refine iteT ⟨_, rfl, a, _, _, _, rfl, rfl, SqT.of ha, rfl, ra, dx, _, rfl, h1, ra, _, 0, rfl, hr1, rfl, _, rfl, iteT ?_⟩
      exact ⟨_, rfl, a, _, _, _, rfl, rfl, SqT.of ha, rfl, ra, dx, _, rfl, h1, ra, _, 1, rfl, hr1, rfl, q⟩
    | t x y z u =>
      obtain ⟨a, rfl, ha⟩ := hst
      exact ⟨_, rfl, a, _, _, _, rfl, rfl, SqT.of ha, rfl, rfl, _, rfl, iteF q⟩
    | m x y => exact ok.elim
def spQua (K : Fg) : Sp := fun vs H Q _ => ∃ v d, vs = [v] ∧ StepAt K H v (.t 0 (-1) 1 d) ∧ Sm d ∧ Q (.bl true) H
theorem ok_is_quarter (T : TX K mg) : Fx P w K mg base 1 (d_is_quarter.ad K) (spQua K) := by
  refine fx_mk T fd_is_quarter rfl sc_is_quarter bd_is_quarter (fun vs H Q E h => ?_) (fun cdv A outer s H vs Q E hr h => ?_)
  · obtain ⟨v, st, rfl, _⟩ := h
    rfl
  · obtain ⟨v, d, rfl, ⟨a, rfl, ha⟩, hd, q⟩ := h
    refine ⟨_, (pss_one (ps_ret (pe_and (pe_cmpR op_eq (pe_ix ix_tup (pv 0) pe_int (fun _ _ => rfl)) pe_str (nomark _)) (pe_and (pe_chain op_le op_lt pe_int (pe_ix ix_tup (pv 0) pe_int (fun _ _ => rfl)) (pe_ix ix_tup (pv 0) pe_int (fun _ _ => rfl))) (pe_one (pe_cmpR op_eq (pe_op op_sub (pe_op op_mulW (pe_ix ix_tup (pv 0) pe_int (fun _ _ => rfl)) (pe_ix ix_tup (pv 0) pe_int (fun _ _ => rfl))) (pe_op op_mulW (pe_ix ix_tup (pv 0) pe_int (fun _ _ => rfl)) (pe_ix ix_tup (pv 0) pe_int (fun _ _ => rfl)))) pe_int (nomark _))))))), ?_⟩
    have ha' := SqT.of (K := K) ha
    refine ⟨_, rfl, a, _, _, _, rfl, rfl, ha', rfl, rfl, _, rfl, iteT ?_⟩
    refine ⟨_, rfl, a, _, _, _, rfl, rfl, ha', rfl, _, _, rfl, rfl, _, rfl, iteT ⟨_, rfl, a, _, _, _, rfl, rfl, ha', rfl, _, _, rfl, rfl, _, rfl, iteT ?_⟩⟩
    refine ⟨_, rfl, a, _, _, _, rfl, rfl, ha', rfl, _, rfl, a, _, _, _, rfl, rfl, ha', rfl, _, _, rfl, rfl, Sm.mul (by unfold Sm; decide) hd, ?_⟩
    refine ⟨_, rfl, a, _, _, _, rfl, rfl, ha', rfl, _, rfl, a, _, _, _, rfl, rfl, ha', rfl, _, _, rfl, rfl, Sm.mul (by unfold Sm; decide) (by unfold Sm; decide), _, _, rfl, rfl, rfl, ?_⟩
    rw [Int.zero_mul]
    exact q
end
end K5
set_option Elab.async false
set_option linter.all false
set_option maxRecDepth 100000
set_option maxHeartbeats 4000000
namespace K5
open PySem PySem.Spec PyProof.Rows L2
theorem Sm.of {n : Nat} {i : Int} (h : Bt n i) (h0 : 0 < n) (h1 : n < 400000) : Sm i := Nat.lt_trans (h.log h0) h1
theorem Bt.cm {n m : Nat} {i j : Int} (a : Bt n i) (b : Bt m j) (h0 : 0 < n) (h1 : 0 < m) (h : n + m ≤ 1000000) : CMulW i j := by
  have x := a.log h0
  have y := b.log h1
  unfold CMulW
  omega
/-- a core whose numbers are small enough -/
structure CF.fit (c : CF) : Prop where
  ok : c.ok
  len : c.cs.length ≤ 40
  rl : ∀ q ∈ c.cs, q.1.length ≤ 50
  d : ∀ q ∈ c.cs, Bt 1000 q.2
  r : ∀ q ∈ c.cs, ∀ x ∈ q.1, Bt 1000 x
  s : Bt 1000 c.s
  t : Bt 1000 c.t
theorem CF.fit.core {c : CF} (h : c.fit) : CoreL c.steps c.parts c.e c.f c.s c.t := by
  refine ⟨rfl, ?_, ?_, ?_, ?_, ?_, ?_⟩
  · rw [show c.parts = parS c.cs from rfl, parS_len]
    have := List.length_pos_iff.mpr h.ok.ne
    omega
  · rw [show c.parts = parS c.cs from rfl, parS_len]
    omega
  · cases e : c.cs with
    | nil => exact absurd e h.ok.ne
    | cons q cs => exact ⟨q.1, _, by rw [show c.parts = parS c.cs from rfl, e]; rfl⟩
  · intro s hs
    obtain ⟨q, hq, hs⟩ := List.mem_flatMap.mp (show s ∈ c.cs.flatMap _ from hs)
    have hs' : s = .x q.1 ∨ s = .t 0 (-1) 1 q.2 := by simpa using hs
    rcases hs' with rfl | rfl
    · exact h.ok.r q hq
    · exact ⟨rfl, rfl, rfl, Sm.of (h.d q hq) (by decide) (by decide)⟩
  · intro j a b ha hb
    have hl : j + 1 < 2 * c.cs.length := by
      have := (List.getElem?_eq_some_iff.mp hb).1
      rwa [show c.parts = parS c.cs from rfl, parS_len] at this
    have k : ∀ i, i < c.cs.length → (parS c.cs)[2 * i]? = some (.x (c.cs[i]!).1) ∧ (parS c.cs)[2 * i + 1]? = some (.t 0 (-1) 1 (c.cs[i]!).2) := fun i hi => parS_x (by rw [List.getElem?_eq_getElem hi, getElem!_pos c.cs i hi])
    have ha' : (parS c.cs)[j]? = some a := ha
    have hb' : (parS c.cs)[j + 1]? = some b := hb
    rcases Nat.mod_two_eq_zero_or_one j with m | m
    · obtain ⟨k1, k2⟩ := k (j / 2) (by omega)
      rw [show 2 * (j / 2) = j by omega] at k1 k2
      rw [ha'] at k1
      rw [hb'] at k2
      cases k1
      cases k2
      show (_ : Str) ≠ _
      first
        | exact (by decide : ("x" : Str) ≠ "turn")
        | exact (by decide : ("turn" : Str) ≠ "x")
    · obtain ⟨_, k2⟩ := k (j / 2) (by omega)
      obtain ⟨k1, _⟩ := k (j / 2 + 1) (by omega)
      rw [show 2 * (j / 2) + 1 = j by omega] at k2
      rw [show 2 * (j / 2 + 1) = j + 1 by omega] at k1
      rw [ha'] at k2
      rw [hb'] at k1
      cases k1
      cases k2
      show (_ : Str) ≠ _
      first
        | exact (by decide : ("x" : Str) ≠ "turn")
        | exact (by decide : ("turn" : Str) ≠ "x")
  · rw [show c.parts = parS c.cs from rfl, parS_len]
    have := h.len
    omega
section
variable {P : Program} {w : World} {K : Fg} {mg : Str → Option Value} {base : Heap}
def spCore (K : Fg) : Sp := fun vs H Q _ => ∃ p c, vs = [.ref p] ∧ ProgAt K H p (CF.steps c) ∧ CF.fit c ∧ ∀ H', Same H H' → Q (.bl true) H'
def spPart (K : Fg) : Sp := fun vs H Q _ => ∃ p c, vs = [.ref p] ∧ ProgAt K H p (CF.steps c) ∧ CF.fit c ∧ ∀ H' t us, Same H H' → H' t = some (.tup us) → StepsAt K H' us (CF.parts c) → Q (.ref t) H'
theorem core_cut {c : CF} {vs : List V} {K : Fg} {H : Hp} (h : StepsAt K H vs c.steps) (f : c.fit) : vs.length = c.parts.length + 2 ∧ StepsAt K H (vs.take (vs.length - 2)) c.parts ∧ (∃ v, vs[vs.length - 1]? = some v ∧ StepAt K H v (.m c.s c.t)) ∧ ∃ v, vs[vs.length - 2]? = some v ∧ StepAt K H v (.t c.e 0 0 c.f) := by
  have l1 := paired_len h
  have l2 := f.core.ln
  have l3 : vs.length = c.parts.length + 2 := by rw [l1, l2]
  have get : ∀ i st, c.steps[i]? = some st → ∃ v, vs[i]? = some v ∧ StepAt K H v st := fun i st e => by
    have hi : i < vs.length := by
      rw [l1]
      exact (List.getElem?_eq_some_iff.mp e).1
    obtain ⟨st', e', r⟩ := paired_get h (List.getElem?_eq_getElem hi)
    rw [e] at e'
    obtain rfl := Option.some.inj e'
    exact ⟨_, List.getElem?_eq_getElem hi, r⟩
  refine ⟨l3, paired_of ?_ fun j v e => ?_, get _ _ ?_, get _ _ ?_⟩
  · rw [List.length_take]
    omega
  · rw [List.getElem?_take] at e
    split at e
    · obtain ⟨st, e1, r⟩ := paired_get h e
      refine ⟨st, ?_, r⟩
      rw [← e1]
      exact (List.getElem?_append_left (by omega)).symm
    · cases e
  · rw [l3, show c.parts.length + 2 - 1 = c.parts.length + 1 by omega]
    show (c.parts ++ _)[_]? = _
    rw [List.getElem?_append_right (by omega)]
    simp
  · rw [l3, show c.parts.length + 2 - 2 = c.parts.length by omega]
    show (c.parts ++ _)[_]? = _
    rw [List.getElem?_append_right (by omega)]
    simp
theorem ok_parts_of (T : TX K mg) : Fx P w K mg base 3 (d_parts_of.ad K) (spPart K) := by
  refine fx_mk T fd_parts_of rfl sc_parts_of bd_parts_of (fun vs H Q E h => ?_) (fun cdv A outer s H vs Q E hr h => ?_)
  · obtain ⟨v, st, rfl, _⟩ := h
    rfl
  · obtain ⟨p, c, rfl, hp, f, q⟩ := h
    refine ⟨_, (pss_one (ps_ret (pe_slice sl_tupA (pe_pr (ok_Program_steps T) (T.c "Program") (T.pr "Program" "steps") hr (by decide) (pv 0) rfl) po_none (po_some (pe_un un_neg pe_int))))), ?_⟩
    obtain ⟨dx, t, us, h1, h2, h3⟩ := id hp
    obtain ⟨k1, k2, k3, k4⟩ := core_cut h3 f
    refine ⟨_, rfl, p, dx, _, rfl, h1, p, _, rfl, hp, fun t' us' e1 e2 => ?_⟩
    obtain ⟨j1, j2, _, _⟩ := core_cut e2 f
    refine ⟨_, rfl, _, rfl, t', us', rfl, SqT.of e1, fun h => ?_, fun _ z hz => ?_⟩
    · have e3 : HT.sIx us'.length us'.length (some (-((2 : Nat) : Int))) = us'.length := h.2
      rw [sIx_neg _ _ _ (by decide) (by omega)] at e3
      omega
    · have e3 : cutV us' none (some (-((2 : Nat) : Int))) = _ := cut_neg us' 2 (by decide) (by omega)
      refine q _ z _ (same_upd hz) upd_same ?_
      show StepsAt K _ (cutV us' none (some (-((2 : Nat) : Int)))) c.parts
      rw [e3]
      exact j2.keep (Same.fix (same_upd hz))
def spArc (K : Fg) : Sp := fun vs H Q _ => ∃ t us c, vs = [.ref t] ∧ H t = some (.tup us) ∧ StepsAt K H us (CF.parts c) ∧ CF.fit c ∧ Q (.bl true) H
theorem ok_are_core_parts (T : TX K mg) : Fx P w K mg base 1 (d_are_core_parts.ad K) (spArc K) := by
  refine fx_mk T fd_are_core_parts rfl sc_are_core_parts bd_are_core_parts (fun vs H Q E h => ?_) (fun cdv A outer s H vs Q E hr h => ?_)
  · obtain ⟨v, _, _, rfl, _⟩ := h
    rfl
  · obtain ⟨t, us, c, rfl, ht, hs, f, q⟩ := h
    refine ⟨_, (pss_one (ps_ret (pe_and (pe_cmpR op_gt (pe_callB call_len_seq (by rfl) (T.r "len") bi_len (pa_cons (pv 0) pa_nil)) pe_int (nomark _)) (pe_and (pe_cmpR op_eq (pe_op op_mod (pe_callB call_len_seq (by rfl) (T.r "len") bi_len (pa_cons (pv 0) pa_nil)) pe_int) pe_int (nomark _)) (pe_one (pe_cmpR op_eq (pe_ix ix_tup (pe_ix ix_tup (pv 0) pe_int (fun _ _ => rfl)) pe_int (fun _ _ => rfl)) pe_str (nomark _))))))), ?_⟩
    have k := f.core
    have l := paired_len hs
    obtain ⟨r, rest, er⟩ := k.hd
    have l2 := k.two
    have l3 := k.even
    have h0 : 0 < us.length := by omega
    obtain ⟨st, e1, hst⟩ := paired_get hs (List.getElem?_eq_getElem h0)
    rw [er] at e1
    obtain rfl : Stp.x r = st := by simpa using e1
    obtain ⟨a, ra, e2, ha, _⟩ := hst
    refine ⟨_, rfl, t, us, rfl, .inr (SqT.of ht), _, _, rfl, rfl, _, rfl, ?_⟩
    rw [decide_eq_true (by omega)]
    refine iteT ⟨_, rfl, t, us, rfl, .inr (SqT.of ht), _, _, rfl, rfl, by show (0 : Int) < 2; decide, rfl, _, rfl, ?_⟩
    have e5 : ((us.length : Nat) : Int) % 2 = 0 := by omega
    refine iteD (show decide (V.int (((us.length : Nat) : Int) % 2) = V.int 0) = true by rw [e5]; rfl) ⟨_, rfl, t, us, _, _, rfl, rfl, SqT.of ht, atI_nat (j := 0) (List.getElem?_eq_getElem h0), ?_⟩
    rw [e2]
    exact ⟨a, _, _, _, rfl, rfl, SqT.of ha, rfl, rfl, q⟩
theorem ok_is_plain (T : TX K mg) : Fx P w K mg base 6 (d_is_plain.ad K) (spCore K) := by
  refine fx_mk T fd_is_plain rfl sc_is_plain bd_is_plain (fun vs H Q E h => ?_) (fun cdv A outer s H vs Q E hr h => ?_)
  · obtain ⟨v, st, rfl, _⟩ := h
    rfl
  · obtain ⟨p, c, rfl, hp, f, q⟩ := h
    refine ⟨_, (pss_cons (ps_expr (pe_f (ok_need_program_programs T) (T.g "need_program_programs") hr (by decide) (by rfl) (pa_cons (pv 0) pa_nil))) (pss_cons (ps_set (i := 1) sc_is_plain.nd rfl (.inl rfl) (pe_fld (pv 0) rfl)) (pss_cons (ps_if (PW.pt (pw_or (pt_cmpR op_lt (pe_callB call_len_seq (by rfl) (T.r "len") bi_len (pa_cons (pv 1) pa_nil)) pe_int (nomark _)) (pw_or (pt_cmpR op_ne (pe_ix ix_tup (pe_ix ix_tup (pv 1) (pe_un un_neg pe_int) (fun _ _ => rfl)) pe_int (fun _ _ => rfl)) pe_str (nomark _)) (pw_or (pt_cmpR op_ne (pe_ix ix_tup (pe_ix ix_tup (pv 1) (pe_un un_neg pe_int) (fun _ _ => rfl)) pe_int (fun _ _ => rfl)) pe_str (nomark _)) (pw_or1 (pt_cmpR op_ne (pe_ix ix_tup (pe_ix ix_tup (pv 1) (pe_un un_neg pe_int) (fun _ _ => rfl)) pe_int (fun _ _ => rfl)) pe_int (nomark _))))))) (pss_one (ps_ret pe_bl)) pss_nil) (pss_cons (ps_set (i := 2) sc_is_plain.nd rfl (.inl rfl) (pe_slice sl_tupA (pv 1) po_none (po_some (pe_un un_neg pe_int)))) (pss_cons (ps_if (pt_not (pt_val (pe_callB (cr_all rfl) (by rfl) (T.r "all") bi_all (pa_cons (pe_lc (own := [("step", 5)]) rfl sc_is_plain.nd (pi_tup (pv 2)) (blkOk_by (own := [("step", 5)]) (N := n_is_plain) (sc := defScope s_is_plain) (by decide +kernel)) (fun _ _ _ _ _ => (pg_name (i := 5) sc_is_plain.nd rfl (.inl rfl))) (fun _ _ _ _ _ => pts_nil) (fun _ _ _ _ _ => (pe_or (pe_f (ok_is_bend T) (T.g "is_bend") hr (by decide) (by rfl) (pa_cons (pv 5) pa_nil)) (pe_one (pe_f (ok_is_quarter T) (T.g "is_quarter") hr (by decide) (by rfl) (pa_cons (pv 5) pa_nil)))))) pa_nil)))) (pss_one (ps_ret pe_bl)) pss_nil) (pss_one (ps_ret (pe_callB (cr_all rfl) (by rfl) (T.r "all") bi_all (pa_cons (pe_lc (g := (gTup K 2 (gCons (gName 3) (gCons (gName 4) gNil)))) (own := [("one", 3), ("other", 4)]) rfl sc_is_plain.nd (RZ.pi_zipA (by rfl) (T.r "zip") (pa_cons (pv 2) (pa_cons (pe_slice sl_tupA (pv 2) (po_some pe_int) po_none) pa_nil))) (blkOk_by (own := [("one", 3), ("other", 4)]) (N := n_is_plain) (sc := defScope s_is_plain) (by decide +kernel)) (fun _ _ _ _ _ => (pg_tup rfl (pgs_cons (pg_name (i := 3) sc_is_plain.nd rfl (.inl rfl)) (pgs_cons (pg_name (i := 4) sc_is_plain.nd rfl (.inl rfl)) pgs_nil)))) (fun _ _ _ _ _ => pts_nil) (fun _ _ _ _ _ => (pe_cmpR op_ne (pe_ix (r := rIxT K) ix_tup (pv 3) pe_int (fun _ _ => rfl)) (pe_ix (r := rIxT K) ix_tup (pv 4) pe_int (fun _ _ => rfl)) (nomark _)))) pa_nil))))))))), ?_⟩
    obtain ⟨dx, t, us, h1, h2, h3⟩ := id hp
    obtain ⟨k1, k2, ⟨v1, g1, a1, rfl, w1⟩, ⟨v2, g2, a2, rfl, w2⟩⟩ := core_cut h3 f
    have k := f.core
    have l2 := k.two
    have n1 : atI us (-((1 : Nat) : Int)) = some _ := atI_neg g1 (by decide) (by omega)
    have n2 : atI us (-((2 : Nat) : Int)) = some _ := atI_neg g2 (by decide) (by omega)
    refine ⟨_, rfl, _, rfl, hp.ins, ?_⟩
    refine ⟨_, rfl, p, _, dx, _, _, rfl, h1, T.c "Program", T.a "Program" "own_steps", rfl, ?_⟩
    refine ⟨_, rfl, t, us, rfl, .inr (SqT.of h2), _, _, rfl, rfl, _, rfl, ?_⟩
    rw [decide_eq_false (by omega)]
    refine iteF ⟨_, rfl, _, rfl, t, us, _, _, rfl, rfl, SqT.of h2, n1, a1, _, _, _, rfl, rfl, SqT.of w1, rfl, rfl, _, rfl, iteF ⟨_, rfl, _, rfl, t, us, _, _, rfl, rfl, SqT.of h2, n2, a2, _, _, _, rfl, rfl, SqT.of w2, rfl, rfl, _, rfl, iteF ⟨_, rfl, _, rfl, t, us, _, _, rfl, rfl, SqT.of h2, n2, a2, _, _, _, rfl, rfl, SqT.of w2, rfl, rfl, _, rfl, iteF ?_⟩⟩⟩
    refine ⟨_, rfl, _, rfl, _, rfl, t, us, rfl, SqT.of h2, fun h => ?_, fun _ z hz => ?_⟩
    · have e3 : HT.sIx us.length us.length (some (-((2 : Nat) : Int))) = us.length := h.2
      rw [sIx_neg _ _ _ (by decide) (by omega)] at e3
      omega
    have e3 : cutV us none (some (-((2 : Nat) : Int))) = us.take (us.length - 2) := cut_neg us 2 (by decide) (by omega)
    have e3' : cutV us none (some (-2)) = us.take (us.length - 2) := e3
    have s1 : Same H (upd H z (.tup (us.take (us.length - 2)))) := same_upd hz
    have hz1 : upd H z (.tup (cutV us none (some (-2)))) = upd H z (.tup (us.take (us.length - 2))) := by rw [e3']
    have pl := paired_len k2
    have ps := k2.keep (Same.fix s1)
    revert pl ps k2 s1 hz1
    generalize us.take (us.length - 2) = ws
    intro k2 s1 hz1 pl ps
    show (fun H1 => _) (upd H z (.tup (cutV us none (some (-2)))))
    rw [hz1]
    refine ⟨_, rfl, z, rfl, ⟨ws, SqT.of upd_same⟩, fun D hD => ?_⟩
    refine lc_all (walk_tup (xs := ws)) (R := fun i _ v => v = .bl true) hD (fun H' s => SqT.of (s _ _ upd_same)) yat_same (fun _ _ _ _ _ r => r) (small2 (by have := k.len; omega)) (fun i x H1 H' Q' hi s hY hq => ?_) (fun H1 acc s3 hacc hal hav => ?_)
    · obtain ⟨rfl, hx⟩ := hY
      obtain ⟨st, e, r⟩ := paired_get ps hx
      have r' := r.keep (Same.fix s)
      have okst := k.all st (List.mem_of_getElem? e)
      refine ⟨rfl, _, rfl, _, st, rfl, r', okst, _, rfl, ?_⟩
      cases st with
      | x r => exact iteT (hq _ _ Same.rfl' rfl)
      | t a b c d =>
        obtain ⟨rfl, rfl, rfl, hd⟩ := okst
        exact iteF ⟨_, rfl, _, d, rfl, r', hd, hq _ _ Same.rfl' rfl⟩
      | m a b => exact okst.elim
    · obtain ⟨bs, rfl, hall⟩ := all_nums (n := 4) hav
      have s4 := Same.tr s1 s3
      refine ⟨_, bs, rfl, SqL.of hacc, _, rfl, ?_⟩
      rw [hall]
      refine iteF ?_
      have hz2 := s3 _ _ (upd_same (H := H) (a := z) (o := .tup ws))
      refine ⟨_, rfl, _, rfl, _, rfl, z, ws, rfl, SqT.of hz2, fun h => absurd (show HT.sIx ws.length 0 (some ((1 : Nat) : Int)) = 0 from h.1) (by rw [HT.sIx_nat]; omega), fun _ y hy => ?_⟩
      have e4 : cutV ws (some 1) none = ws.drop 1 := cut_from ws 1 (by omega)
      rw [e4]
      refine ⟨z, y, ws, ws.drop 1, rfl, .inr ⟨Same.seqT (same_upd hy) (SqT.of hz2), SqT.of upd_same, fun D2 hD2 => ?_⟩⟩
      have s5 : Same H (upd H1 y (.tup (ws.drop 1))) := Same.of_upd s4 (none_back s4 hy)
      refine lc_all (walk_zipT (xs := ws) (ys := ws.drop 1) (n := ws.length - 1) (by rw [List.length_drop]; omega)) (R := fun i _ v => v = .bl true) hD2 (fun H' s => ⟨SqT.of (s _ _ (same_upd hy _ _ hz2)), SqT.of (s _ _ upd_same)⟩) ypair_same (fun _ _ _ _ _ r => r) (small2 (by have := k.len; omega)) (fun i x H2 H' Q' hi s hY hq => ?_) (fun H2 acc2 s6 hacc2 hal2 hav2 => ?_)
      · obtain ⟨T', x1, x2, rfl, hT, rfl, e1, e2⟩ := hY
        obtain ⟨st1, f1, r1⟩ := paired_get k2 e1
        have e2' : ws[i + 1]? = some x2 := by
          have e3 : (ws.drop 1)[i]? = some x2 := e2
          rw [List.getElem?_drop, Nat.add_comm] at e3
          exact e3
        obtain ⟨st2, f2, r2⟩ := paired_get k2 e2'
        have ne := k.alt i st1 st2 f1 f2
        have s7 : Same H (upd H2 T' (.tup [x1, x2])) := Same.of_upd (Same.tr s5 s) (none_back (Same.tr s5 s) hT)
        obtain ⟨b1, xs1, rfl, m1⟩ := (r1.keep (Same.fix s7)).hd
        obtain ⟨b2, xs2, rfl, m2⟩ := (r2.keep (Same.fix s7)).hd
        refine ⟨T', _, rfl, SqT.of upd_same, rfl, _, _, rfl, _, _, rfl, rfl, rfl, _, rfl, b1, _, _, .str (nameS st1), rfl, rfl, SqT.of m1, atI_nat (j := 0) rfl, _, rfl, b2, _, _, .str (nameS st2), rfl, rfl, SqT.of m2, atI_nat (j := 0) rfl, rfl, hq _ _ Same.rfl' ?_⟩
        have z : V.str (nameS st1) ≠ V.str (nameS st2) := fun z => ne (V.str.inj z)
        simp [z]
      · obtain ⟨bs2, rfl, hall2⟩ := all_nums (n := 4) hav2
        refine ⟨_, bs2, rfl, SqL.of hacc2, ?_⟩
        rw [hall2]
        exact q _ (Same.tr s5 s6)
theorem ok_is_core (T : TX K mg) : Fx P w K mg base 7 (d_is_core.ad K) (spCore K) := by
  refine fx_mk T fd_is_core rfl sc_is_core bd_is_core (fun vs H Q E h => ?_) (fun cdv A outer s H vs Q E hr h => ?_)
  · obtain ⟨v, st, rfl, _⟩ := h
    rfl
  · obtain ⟨p, c, rfl, hp, f, q⟩ := h
    refine ⟨_, (pss_cons (ps_expr (pe_f (ok_need_program_cores T) (T.g "need_program_cores") hr (by decide) (by rfl) (pa_cons (pv 0) pa_nil))) (pss_one (ps_ret (pe_and (pe_f (ok_is_plain T) (T.g "is_plain") hr (by decide) (by rfl) (pa_cons (pv 0) pa_nil)) (pe_one (pe_f (ok_are_core_parts T) (T.g "are_core_parts") hr (by decide) (by rfl) (pa_cons (pe_f (ok_parts_of T) (T.g "parts_of") hr (by decide) (by rfl) (pa_cons (pv 0) pa_nil)) pa_nil))))))), ?_⟩
    refine ⟨_, rfl, _, rfl, hp.ins, _, rfl, p, c, rfl, hp, f, fun H1 s1 => ⟨_, rfl, iteT ⟨_, rfl, p, c, rfl, hp.keep (Same.fix s1), f, fun H2 t us s2 ht hs => ⟨t, us, c, rfl, ht, hs, f, q _ (Same.tr s1 s2)⟩⟩⟩⟩
def spNone (K : Fg) : Sp := fun vs H Q _ => ∃ p c, vs = [.ref p] ∧ ProgAt K H p (CF.steps c) ∧ CF.fit c ∧ ∀ H', Same H H' → Q .non H'
theorem ok_need_core (T : TX K mg) : Fx P w K mg base 8 (d_need_core.ad K) (spNone K) := by
  refine fx_mk T fd_need_core rfl sc_need_core bd_need_core (fun vs H Q E h => ?_) (fun cdv A outer s H vs Q E hr h => ?_)
  · obtain ⟨v, st, rfl, _⟩ := h
    rfl
  · obtain ⟨p, c, rfl, hp, f, q⟩ := h
    refine ⟨_, (pss_one (ps_if (PW.pt (pw_or (pt_not (pt_val (pe_callB call_isi (by rfl) (T.r "isinstance") bi_isi (pa_cons (pv 0) (pa_cons (pe_glob (by rfl) (T.g "Program") (refV _)) pa_nil))))) (pw_or1 (pt_not (pt_val (pe_f (ok_is_core T) (T.g "is_core") hr (by decide) (by rfl) (pa_cons (pv 0) pa_nil))))))) (pss_one ps_never) pss_nil)), ?_⟩
    obtain ⟨t, ht, hk⟩ := isi_own T (by decide +kernel) hp.ins
    exact ⟨_, rfl, _, _, t, _, true, rfl, .own _, ht, hk, _, rfl, iteF ⟨_, rfl, p, c, rfl, hp, f, fun H1 s1 => ⟨_, rfl, iteF (q _ s1)⟩⟩⟩
end
end K5
set_option Elab.async false
set_option linter.all false
set_option maxRecDepth 100000
set_option maxHeartbeats 4000000
namespace K5
open PySem PySem.Spec PyProof.Rows L2
section
variable {P : Program} {w : World} {K : Fg} {mg : Str → Option Value} {base : Heap}
def spPnt (K : Fg) : Sp := fun vs H Q _ => ∃ t, ∃ x y : Int, vs = [.ref t] ∧ H t = some (.tup [.int x, .int y]) ∧ Q (.bl true) H
theorem ok_is_point (T : TX K mg) : Fx P w K mg base 2 (d_is_point.ad K) (spPnt K) := by
  refine fx_mk T fd_is_point rfl sc_is_point bd_is_point (fun vs H Q E h => ?_) (fun cdv A outer s H vs Q E hr h => ?_)
  · obtain ⟨t, x, y, rfl, _⟩ := h
    rfl
  · obtain ⟨t, x, y, rfl, ht, q⟩ := h
    refine ⟨_, (pss_one (ps_ret (pe_and (pe_callB call_isi (by rfl) (T.r "isinstance") bi_isi (pa_cons (pv 0) (pa_cons (pe_bltn (by rfl) (T.r "tuple") ty_tuple (v := .ty "tuple") rfl) pa_nil))) (pe_and (pe_cmpR op_eq (pe_callB call_len_seq (by rfl) (T.r "len") bi_len (pa_cons (pv 0) pa_nil)) pe_int (nomark _)) (pe_and (pe_f (ok_is_number_fates T) (T.g "is_number_fates") hr (by decide) (by rfl) (pa_cons (pe_ix ix_tup (pv 0) pe_int (fun _ _ => rfl)) pa_nil)) (pe_one (pe_f (ok_is_number_fates T) (T.g "is_number_fates") hr (by decide) (by rfl) (pa_cons (pe_ix ix_tup (pv 0) pe_int (fun _ _ => rfl)) pa_nil)))))))), ?_⟩
    have h2 := SqT.of (K := K) ht
    refine ⟨_, rfl, _, .ty "tuple", _, _, true, rfl, .ty "tuple", .base (.tup ht), kit_ty (by decide +kernel), true, rfl, iteT ?_⟩
    exact ⟨_, rfl, t, _, rfl, .inr h2, rfl, _, rfl, iteT ⟨_, rfl, t, _, _, _, rfl, rfl, h2, rfl, _, rfl, _, rfl, iteT ⟨_, rfl, t, _, _, _, rfl, rfl, h2, rfl, _, rfl, q⟩⟩⟩
def spLow (K : Fg) : Sp := fun vs H Q _ => ∃ r ns, vs = [.ref r] ∧ RuleAt K H r ns ∧ ns ≠ [] ∧ ns.length ≤ 100 ∧ ∀ H', Same H H' → Q (.int (lowS ns)) H'
theorem ok_lower_sum (T : TX K mg) : Fx P w K mg base 3 (d_lower_sum.ad K) (spLow K) := by
  refine fx_mk T fd_lower_sum rfl sc_lower_sum bd_lower_sum (fun vs H Q E h => ?_) (fun cdv A outer s H vs Q E hr h => ?_)
  · obtain ⟨r, ns, rfl, _⟩ := h
    rfl
  · obtain ⟨r, ns, rfl, hr1, hne, hl, q⟩ := h
    refine ⟨_, (pss_one (ps_ret (pe_callB (cr_sum rfl) (by rfl) (T.r "sum") bi_sum (pa_cons (pe_lc (own := [("number", 1)]) rfl sc_lower_sum.nd (pi_tup (pe_slice sl_tupA (pe_pr (ok_Rule_coefficients T) (T.c "Rule") (T.pr "Rule" "coefficients") hr (by decide) (pv 0) rfl) po_none (po_some (pe_un un_neg pe_int)))) (blkOk_by (own := [("number", 1)]) (N := n_lower_sum) (sc := defScope s_lower_sum) (by decide +kernel)) (fun _ _ _ _ _ => (pg_name (i := 1) sc_lower_sum.nd rfl (.inl rfl))) (fun _ _ _ _ _ => pts_nil) (fun _ _ _ _ _ => (pe_callB call_abs (by rfl) (T.r "abs") bi_abs (pa_cons (pv 1) pa_nil)))) pa_nil)))), ?_⟩
    obtain ⟨dx, t0, h1, h2⟩ := id hr1
    have hpos := List.length_pos_iff.mpr hne
    refine ⟨_, rfl, r, dx, _, rfl, h1, r, ns, rfl, hr1, fun t ht => ?_⟩
    refine ⟨_, rfl, _, rfl, t, _, rfl, SqT.of ht, fun h => ?_, fun _ p hp => ?_⟩
    · have e3 : HT.sIx (ns.map V.int).length (ns.map V.int).length (some (-((1 : Nat) : Int))) = (ns.map V.int).length := h.2
      rw [sIx_neg _ _ _ (by decide) (by rw [List.length_map]; omega), List.length_map] at e3
      omega
    have e3 : cutV (ns.map V.int) none (some (-((1 : Nat) : Int))) = (ns.take (ns.length - 1)).map V.int := by rw [cut_neg _ 1 (by decide) (by rw [List.length_map]; omega), List.length_map, List.map_take]
    have e4 : cutV (ns.map V.int) none (some (-1)) = (ns.take (ns.length - 1)).map V.int := e3
    have hz1 : upd H p (.tup (cutV (ns.map V.int) none (some (-1)))) = upd H p (.tup ((ns.take (ns.length - 1)).map V.int)) := by rw [e4]
    show (fun H1 => _) (upd H p (.tup (cutV (ns.map V.int) none (some (-1)))))
    rw [hz1]
    have s1 : Same H (upd H p (.tup ((ns.take (ns.length - 1)).map V.int))) := same_upd hp
    refine ⟨p, rfl, ⟨_, SqT.of upd_same⟩, fun D hD => ?_⟩
    refine lc_all (walk_tup (xs := (ns.take (ns.length - 1)).map V.int)) (R := fun i _ v => ∃ c, (ns.take (ns.length - 1))[i]? = some c ∧ v = .int (ab c)) hD (fun H' s => SqT.of (s _ _ upd_same)) yat_same (fun _ _ _ _ _ r => r) (by rw [List.length_map, List.length_take]; exact small2 (by omega)) (fun i x H1 H' Q' hi s hY hq => ?_) (fun H1 acc s3 hacc hal hav => ?_)
    · obtain ⟨rfl, hx⟩ := hY
      rw [List.length_map] at hi
      rw [List.getElem?_map, List.getElem?_eq_getElem hi] at hx
      obtain rfl := Option.some.inj hx
      exact ⟨rfl, _, rfl, _, rfl, hq _ _ Same.rfl' ⟨_, List.getElem?_eq_getElem hi, rfl⟩⟩
    · have e1 := acc_ints hal hav
      subst e1
      refine ⟨_, _, rfl, SqL.of hacc, ?_⟩
      rw [lowS_sum]
      exact q _ (Same.tr s1 s3)
/-- six numbers that are small enough -/
structure Six (q : List Int × List Int) : Prop where
  six : ∃ a b c d s t, q.2 = [a, b, c, d, s, t]
  bt : ∀ x ∈ q.2, Bt 1005 x
  ne : q.1 ≠ []
  len : q.1.length ≤ 50
  low : Bt 1100 (lowS q.1)
def spLh (K : Fg) (g : Int → List Int × List Int → Int) : Sp := fun vs H Q _ => ∃ r t6 q wd, vs = [.ref r, .ref t6, .int wd] ∧ RuleAt K H r (Prod.fst q) ∧ H t6 = some (.tup ((Prod.snd q).map V.int)) ∧ Six q ∧ Bt 1005 wd ∧ ∀ H', Same H H' → Q (.int (g wd q)) H'
theorem ok_least_height (T : TX K mg) : Fx P w K mg base 4 (d_least_height.ad K) (spLh K lhS) := by
  refine fx_mk T fd_least_height rfl sc_least_height bd_least_height (fun vs H Q E h => ?_) (fun cdv A outer s H vs Q E hr h => ?_)
  · obtain ⟨r, t6, q, wd, rfl, _⟩ := h
    rfl
  · obtain ⟨r, t6, ⟨r0, s0⟩, wd, rfl, hr1, ht6, ⟨⟨a, b, c, d, s', t', e⟩, bt, hne, hl, hlow⟩, hwd, q⟩ := h
    refine ⟨_, (pss_cons (ps_asg (pv 1) (pg_tup rfl (pgs_cons (pg_name (i := 3) sc_least_height.nd rfl (.inl rfl)) (pgs_cons (pg_name (i := 4) sc_least_height.nd rfl (.inl rfl)) (pgs_cons (pg_name (i := 5) sc_least_height.nd rfl (.inl rfl)) (pgs_cons (pg_name (i := 6) sc_least_height.nd rfl (.inl rfl)) (pgs_cons (pg_name (i := 7) sc_least_height.nd rfl (.inl rfl)) (pgs_cons (pg_name (i := 8) sc_least_height.nd rfl (.inl rfl)) pgs_nil)))))))) (pss_one (ps_ret (pe_op op_add (pe_op op_add (pe_f (ok_lower_sum T) (T.g "lower_sum") hr (by decide) (by rfl) (pa_cons (pv 0) pa_nil)) (pv 2)) (pe_op op_mulW pe_int (pe_op op_add (pe_op op_add (pe_op op_add (pe_op op_add (pe_callB call_abs (by rfl) (T.r "abs") bi_abs (pa_cons (pv 4) pa_nil)) (pe_callB call_abs (by rfl) (T.r "abs") bi_abs (pa_cons (pv 6) pa_nil))) (pe_callB call_abs (by rfl) (T.r "abs") bi_abs (pa_cons (pv 7) pa_nil))) (pe_callB call_abs (by rfl) (T.r "abs") bi_abs (pa_cons (pv 8) pa_nil))) pe_int)))))), ?_⟩
    subst e
    have hb := bt b (by simp)
    have hd := bt d (by simp)
    have hs := bt s' (by simp)
    have ht := bt t' (by simp)
    refine ⟨_, rfl, t6, _, rfl, SqT.of ht6, rfl, _, _, rfl, _, _, rfl, _, _, rfl, _, _, rfl, _, _, rfl, _, _, rfl, rfl, ?_⟩
    refine ⟨_, rfl, r, r0, rfl, hr1, hne, Nat.le_trans hl (by decide), fun H1 s1 => ⟨_, rfl, _, _, rfl, rfl, ?_⟩⟩
    refine ⟨_, rfl, _, rfl, _, rfl, _, rfl, _, _, rfl, rfl, _, rfl, _, rfl, _, _, rfl, rfl, _, rfl, _, rfl, _, _, rfl, rfl, _, _, rfl, rfl, _, _, rfl, rfl, ?_, _, _, rfl, rfl, q _ s1⟩
    exact Bt.cm (n := 2) (m := 1010) (by unfold Bt; decide) (Bt.mono (n := 1009) ((((hb.ab.add hd.ab).add (hs.ab.mono (by decide))).add (ht.ab.mono (by decide))).add (Bt.mono (n := 1) (by unfold Bt; decide) (by decide))) (by decide)) (by decide) (by decide) (by decide)
theorem ok_least_reach (T : TX K mg) : Fx P w K mg base 4 (d_least_reach.ad K) (spLh K lrS) := by
  refine fx_mk T fd_least_reach rfl sc_least_reach bd_least_reach (fun vs H Q E h => ?_) (fun cdv A outer s H vs Q E hr h => ?_)
  · obtain ⟨r, t6, q, wd, rfl, _⟩ := h
    rfl
  · obtain ⟨r, t6, ⟨r0, s0⟩, wd, rfl, hr1, ht6, ⟨⟨a, b, c, d, s', t', e⟩, bt, hne, hl, hlow⟩, hwd, q⟩ := h
    refine ⟨_, (pss_cons (ps_asg (pv 1) (pg_tup rfl (pgs_cons (pg_name (i := 3) sc_least_reach.nd rfl (.inl rfl)) (pgs_cons (pg_name (i := 4) sc_least_reach.nd rfl (.inl rfl)) (pgs_cons (pg_name (i := 5) sc_least_reach.nd rfl (.inl rfl)) (pgs_cons (pg_name (i := 6) sc_least_reach.nd rfl (.inl rfl)) (pgs_cons (pg_name (i := 7) sc_least_reach.nd rfl (.inl rfl)) (pgs_cons (pg_name (i := 8) sc_least_reach.nd rfl (.inl rfl)) pgs_nil)))))))) (pss_cons (ps_par3 (i := 9) (j := 10) (l := 11) rfl sc_least_reach.nd rfl rfl rfl (by decide) (by decide) (by decide) rfl rfl rfl (pa_cons (pe_op op_add (pe_callB call_abs (by rfl) (T.r "abs") bi_abs (pa_cons (pv 4) pa_nil)) (pe_callB call_abs (by rfl) (T.r "abs") bi_abs (pa_cons (pv 6) pa_nil))) (pa_cons (pe_op op_add (pe_callB call_abs (by rfl) (T.r "abs") bi_abs (pa_cons (pe_op op_mulW (pv 5) (pv 7)) pa_nil)) (pe_callB call_abs (by rfl) (T.r "abs") bi_abs (pa_cons (pe_op op_mulW (pv 3) (pv 8)) pa_nil))) (pa_cons (pe_op op_add (pe_callB call_abs (by rfl) (T.r "abs") bi_abs (pa_cons (pe_op op_mulW (pv 6) (pv 7)) pa_nil)) (pe_callB call_abs (by rfl) (T.r "abs") bi_abs (pa_cons (pe_op op_mulW (pv 4) (pv 8)) pa_nil))) pa_nil))) rfl) (pss_one (ps_ret (pe_op op_mulW pe_int (pe_op op_add (pe_op op_add (pe_op op_add (pe_op op_add (pe_op op_add (pe_f (ok_lower_sum T) (T.g "lower_sum") hr (by decide) (by rfl) (pa_cons (pv 0) pa_nil)) (pv 2)) pe_int) (pe_op op_mulW pe_int (pv 9))) (pe_op op_mulW (pe_op op_add (pe_op op_mulW pe_int (pv 9)) pe_int) (pv 10))) (pv 11))))))), ?_⟩
    subst e
    have ha := bt a (by simp)
    have hb := bt b (by simp)
    have hc := bt c (by simp)
    have hd := bt d (by simp)
    have hs := bt s' (by simp)
    have ht := bt t' (by simp)
    have m1 : CMulW c s' := hc.cm hs (by decide) (by decide) (by decide)
    have m2 : CMulW a t' := ha.cm ht (by decide) (by decide) (by decide)
    have m3 : CMulW d s' := hd.cm hs (by decide) (by decide) (by decide)
    have m4 : CMulW b t' := hb.cm ht (by decide) (by decide) (by decide)
    have b2 : Bt 2 2 := by unfold Bt; decide
    have b3 : Bt 2 3 := by unfold Bt; decide
    have bo : Bt 1006 (ab b + ab d) := hb.ab.add hd.ab
    have bs : Bt 2011 (ab (c * s') + ab (a * t')) := (hc.mul hs).ab.add (ha.mul ht).ab
    have br : Bt 2011 (ab (d * s') + ab (b * t')) := (hd.mul hs).ab.add (hb.mul ht).ab
    have m5 : CMulW 2 (ab b + ab d) := b2.cm bo (by decide) (by decide) (by decide)
    have b5 : Bt 1009 (2 * (ab b + ab d) + 3) := (b2.mul bo).add (b3.mono (by decide))
    have m6 : CMulW (2 * (ab b + ab d) + 3) (ab (c * s') + ab (a * t')) := b5.cm bs (by decide) (by decide) (by decide)
    have b6 := b5.mul bs
    have big : Bt 3030 (lowS r0 + wd + 3 + 2 * (ab b + ab d) + (2 * (ab b + ab d) + 3) * (ab (c * s') + ab (a * t')) + (ab (d * s') + ab (b * t'))) := by
      refine Bt.mono (n := 3022) (Bt.add (n := 3021) (Bt.add (n := 3020) (Bt.mono (n := 1103) (Bt.add (n := 1102) (Bt.add (n := 1101) (Bt.add (n := 1100) hlow (hwd.mono (by decide))) (b3.mono (by decide))) ((b2.mul bo).mono (by decide))) (by decide)) b6) (br.mono (by decide))) (by decide)
    refine ⟨_, rfl, t6, _, rfl, SqT.of ht6, rfl, _, _, rfl, _, _, rfl, _, _, rfl, _, _, rfl, _, _, rfl, _, _, rfl, rfl, ?_⟩
    refine ⟨_, rfl, _, rfl, _, rfl, _, rfl, _, _, rfl, rfl, _, rfl, _, rfl, _, _, rfl, rfl, m1, _, rfl, _, rfl, _, rfl, _, _, rfl, rfl, m2, _, rfl, _, _, rfl, rfl, _, rfl, _, rfl, _, _, rfl, rfl, m3, _, rfl, _, rfl, _, rfl, _, _, rfl, rfl, m4, _, rfl, _, _, rfl, rfl, _, _, _, rfl, ?_⟩
    refine ⟨_, rfl, r, r0, rfl, hr1, hne, Nat.le_trans hl (by decide), fun H1 s2 => ⟨_, rfl, _, _, rfl, rfl, _, _, rfl, rfl, _, rfl, _, _, rfl, rfl, m5, _, _, rfl, rfl, _, rfl, _, _, rfl, rfl, m5, _, _, rfl, rfl, _, rfl, _, _, rfl, rfl, m6, _, _, rfl, rfl, _, rfl, _, _, rfl, rfl, _, _, rfl, rfl, ?_, q _ s2⟩⟩
    exact b2.cm big (by decide) (by decide) (by decide)
end
end K5
set_option Elab.async false
set_option linter.all false
set_option maxRecDepth 100000
set_option maxHeartbeats 4000000
namespace K5
open PySem PySem.Spec PyProof.Rows L2
theorem cpl_get {e f s t : Int} : ∀ {cs : List (List Int × Int)} {i : Nat} {q : List Int × Int}, cs[i]? = some q → i + 1 < cs.length → (cpl e f s t cs)[i]? = some (q.1, [0, -1, 1, q.2, 0, 0])
  | [], _, _, h, _ => by simp at h
  | [_], i, _, _, h => by simp at h
  | p :: p2 :: cs, 0, q, h, _ => by
    obtain rfl : p = q := by simpa using h
    rfl
  | p :: p2 :: cs, i + 1, q, h, hl => cpl_get (cs := p2 :: cs) (i := i) (by simpa using h) (by simpa using hl)
theorem cpl_last {e f s t : Int} : ∀ {cs : List (List Int × Int)} {i : Nat} {q : List Int × Int}, cs[i]? = some q → i + 1 = cs.length → (cpl e f s t cs)[i]? = some (q.1, [e * 0 + 0 * 1, e * (-1) + 0 * q.2, f * 1, f * q.2, s, t])
  | [], _, _, h, _ => by simp at h
  | [p], i, q, h, hl => by
    obtain rfl : i = 0 := by simpa using hl
    obtain rfl : p = q := by simpa using h
    rfl
  | p :: p2 :: cs, 0, q, _, hl => by simp at hl
  | p :: p2 :: cs, i + 1, q, h, hl => cpl_last (cs := p2 :: cs) (i := i) (by simpa using h) (by simpa using hl)
theorem rg2 : ∀ N : Nat, N < 41 → (Builtin.Range.small 0 (2 * (N : Int)) 2 = true ∧ Builtin.Range.rangeSize 0 (2 * (N : Int)) 2 = N) := by decide +kernel
def CpAt (K : Fg) (H : Hp) (v : V) (q : List Int × List Int) : Prop := ∃ p r t6, v = .ref p ∧ H p = some (.tup [.ref r, .ref t6]) ∧ RuleAt K H r q.1 ∧ H t6 = some (.tup (q.2.map V.int))
theorem CpAt.keep {K : Fg} {H H' : Hp} {v : V} {q : List Int × List Int} (h : CpAt K H v q) (k : Fixes H H') : CpAt K H' v q := by
  obtain ⟨p, r, t6, e, h1, h2, h3⟩ := h
  exact ⟨p, r, t6, e, k _ _ rfl h1, h2.keep k, k _ _ rfl h3⟩
theorem step_get {K : Fg} {H : Hp} {us : List V} {ss : List Stp} (h : StepsAt K H us ss) {i : Nat} {st : Stp} (e : ss[i]? = some st) : ∃ v, us[i]? = some v ∧ StepAt K H v st := by
  have hi : i < us.length := by
    rw [paired_len h]
    exact (List.getElem?_eq_some_iff.mp e).1
  obtain ⟨st', e', r⟩ := paired_get h (List.getElem?_eq_getElem hi)
  rw [e] at e'
  obtain rfl := Option.some.inj e'
  exact ⟨_, List.getElem?_eq_getElem hi, r⟩
theorem CF.at_x {c : CF} {i : Nat} {q : List Int × Int} (h : c.cs[i]? = some q) : c.steps[2 * i]? = some (.x q.1) ∧ c.steps[2 * i + 1]? = some (.t 0 (-1) 1 q.2) := by
  obtain ⟨a, b⟩ := parS_x h
  have l1 := (List.getElem?_eq_some_iff.mp a).1
  have l2 := (List.getElem?_eq_some_iff.mp b).1
  exact ⟨(List.getElem?_append_left l1).trans a, (List.getElem?_append_left l2).trans b⟩
theorem CF.len_steps (c : CF) : c.steps.length = 2 * c.cs.length + 2 := by
  show (parS c.cs ++ _).length = _
  rw [List.length_append, parS_len]
  rfl
section
variable {P : Program} {w : World} {K : Fg} {mg : Str → Option Value} {base : Heap}
def spEnd (K : Fg) : Sp := fun vs H Q _ => ∃ v1 v2 v3, ∃ a b c d l m z r s t : Int, vs = [v1, v2, v3] ∧ StepAt K H v1 (.t a b c d) ∧ StepAt K H v2 (.t l m z r) ∧ StepAt K H v3 (.m s t) ∧ Sm a ∧ Sm b ∧ Sm c ∧ Sm d ∧ Sm l ∧ Sm m ∧ Sm r ∧
  ∀ H' p, Same H H' → H' p = some (.tup ([l * a + m * c, l * b + m * d, r * c, r * d, s, t].map V.int)) → Q (.ref p) H'
theorem ok_with_end (T : TX K mg) : Fx P w K mg base 1 (d_with_end.ad K) (spEnd K) := by
  refine fx_mk T fd_with_end rfl sc_with_end bd_with_end (fun vs H Q E h => ?_) (fun cdv A outer s H vs Q E hr h => ?_)
  · obtain ⟨v1, v2, v3, a, b, c, d, l, m, z, r, s, t, rfl, _⟩ := h
    rfl
  · obtain ⟨v1, v2, v3, a, b, c, d, l, m, z, r, s', t, rfl, ⟨p1, rfl, h1⟩, ⟨p2, rfl, h2⟩, ⟨p3, rfl, h3⟩, ha, hb, hc, hd, hl, hm, hr', q⟩ := h
    refine ⟨_, (pss_cons (ps_asg (pe_slice sl_tupA (pv 0) (po_some pe_int) po_none) (pg_tup rfl (pgs_cons (pg_name (i := 3) sc_with_end.nd rfl (.inl rfl)) (pgs_cons (pg_name (i := 4) sc_with_end.nd rfl (.inl rfl)) (pgs_cons (pg_name (i := 5) sc_with_end.nd rfl (.inl rfl)) (pgs_cons (pg_name (i := 6) sc_with_end.nd rfl (.inl rfl)) pgs_nil)))))) (pss_cons (ps_asg (pe_slice sl_tupA (pv 1) (po_some pe_int) po_none) (pg_tup rfl (pgs_cons (pg_name (i := 7) sc_with_end.nd rfl (.inl rfl)) (pgs_cons (pg_name (i := 8) sc_with_end.nd rfl (.inl rfl)) (pgs_cons (pg_name (i := 9) sc_with_end.nd rfl (.inl rfl)) (pgs_cons (pg_name (i := 10) sc_with_end.nd rfl (.inl rfl)) pgs_nil)))))) (pss_one (ps_ret (pe_tup (pa_cons (pe_op op_add (pe_op op_mulW (pv 7) (pv 3)) (pe_op op_mulW (pv 8) (pv 5))) (pa_cons (pe_op op_add (pe_op op_mulW (pv 7) (pv 4)) (pe_op op_mulW (pv 8) (pv 6))) (pa_cons (pe_op op_mulW (pv 10) (pv 5)) (pa_cons (pe_op op_mulW (pv 10) (pv 6)) (pa_cons (pe_ix ix_tup (pv 2) pe_int (fun _ _ => rfl)) (pa_cons (pe_ix ix_tup (pv 2) pe_int (fun _ _ => rfl)) pa_nil))))))))))), ?_⟩
    refine ⟨_, rfl, _, rfl, p1, _, rfl, SqT.of h1, fun h => absurd (show (1 : Nat) = 0 from h.1) (by decide), fun _ y hy => ?_⟩
    refine ⟨y, _, rfl, SqT.of upd_same, rfl, _, _, rfl, _, _, rfl, _, _, rfl, _, _, rfl, rfl, ?_⟩
    have s1 := same_upd (o := .tup [.int a, .int b, .int c, .int d]) hy
    refine ⟨_, rfl, _, rfl, p2, _, rfl, SqT.of (s1 _ _ h2), fun h => absurd (show (1 : Nat) = 0 from h.1) (by decide), fun _ u hu => ?_⟩
    refine ⟨u, _, rfl, SqT.of upd_same, rfl, _, _, rfl, _, _, rfl, _, _, rfl, _, _, rfl, rfl, ?_⟩
    have s2 : Same H _ := Same.of_upd (o := .tup [.int l, .int m, .int z, .int r]) s1 (none_back s1 hu)
    refine ⟨_, rfl, _, rfl, _, _, rfl, rfl, Sm.mul hl ha, _, rfl, _, rfl, _, _, rfl, rfl, Sm.mul hm hc, _, _, rfl, rfl, ?_⟩
    refine ⟨_, rfl, _, rfl, _, _, rfl, rfl, Sm.mul hl hb, _, rfl, _, rfl, _, _, rfl, rfl, Sm.mul hm hd, _, _, rfl, rfl, ?_⟩
    refine ⟨_, rfl, _, rfl, _, _, rfl, rfl, Sm.mul hr' hc, _, rfl, _, rfl, _, _, rfl, rfl, Sm.mul hr' hd, ?_⟩
    refine ⟨_, rfl, p3, _, _, _, rfl, rfl, SqT.of (s2 _ _ h3), rfl, _, rfl, p3, _, _, _, rfl, rfl, SqT.of (s2 _ _ h3), rfl, ?_⟩
    exact ⟨by show 6 ≤ sizeLine; decide, fun p hp => q _ _ (Same.of_upd s2 (none_back s2 hp)) upd_same⟩
def spCpl (K : Fg) : Sp := fun vs H Q _ => ∃ p c, vs = [.ref p] ∧ ProgAt K H p (CF.steps c) ∧ CF.fit c ∧ ∀ H' l us, Same H H' → H' l = some (.lst us) → Paired (CpAt K H') us (CF.cpl c) → Q (.ref l) H'
theorem ok_couples_of (T : TX K mg) : Fx P w K mg base 3 (d_couples_of.ad K) (spCpl K) := by
  refine fx_mk T fd_couples_of rfl sc_couples_of bd_couples_of (fun vs H Q E h => ?_) (fun cdv A outer s H vs Q E hr h => ?_)
  · obtain ⟨v, st, rfl, _⟩ := h
    rfl
  · obtain ⟨p, c, rfl, hp, f, q⟩ := h
    refine ⟨_, (pss_cons (ps_par (i := 1) (j := 2) rfl sc_couples_of.nd rfl rfl (by decide) rfl rfl (pa_cons (pe_pr (ok_Program_steps T) (T.c "Program") (T.pr "Program" "steps") hr (by decide) (pv 0) rfl) (pa_cons (pe_lst pa_nil) pa_nil)) rfl) (pss_cons (ps_for PassesOwn.never rfl (pi_range3 (by rfl) (T.r "range") (pa_cons pe_int (pa_cons (pe_op op_sub (pe_callB call_len_seq (by rfl) (T.r "len") bi_len (pa_cons (pv 1) pa_nil)) pe_int) (pa_cons pe_int pa_nil)))) (pg_name (i := 3) sc_couples_of.nd rfl (.inl rfl)) (pss_one (ps_expr (pe_bm PySem.F.plainAttrs_list PySem.F.slot_list_append PySem.F.type_list_append mt_append (pv 2) (pa_cons (pe_tup (pa_cons (pe_ix ix_tup (pe_ix ix_tup (pv 1) (pv 3) (fun _ _ => rfl)) pe_int (fun _ _ => rfl)) (pa_cons (pe_tup (StX.pa_star (pe_slice sl_tupA (pe_ix ix_tup (pv 1) (pe_op op_add (pv 3) pe_int) (fun _ _ => rfl)) (po_some pe_int) po_none) (pa_cons pe_int (pa_cons pe_int pa_nil)))) pa_nil))) pa_nil))))) (pss_one (ps_ret (pe_lst (StX.pa_star (pv 2) (pa_cons (pe_tup (pa_cons (pe_ix ix_tup (pe_ix ix_tup (pv 1) (pe_un un_neg pe_int) (fun _ _ => rfl)) pe_int (fun _ _ => rfl)) (pa_cons (pe_f (ok_with_end T) (T.g "with_end") hr (by decide) (by rfl) (pa_cons (pe_ix ix_tup (pv 1) (pe_un un_neg pe_int) (fun _ _ => rfl)) (pa_cons (pe_ix ix_tup (pv 1) (pe_un un_neg pe_int) (fun _ _ => rfl)) (pa_cons (pe_ix ix_tup (pv 1) (pe_un un_neg pe_int) (fun _ _ => rfl)) pa_nil)))) pa_nil))) pa_nil))))))), ?_⟩
    obtain ⟨dx, t0, us0, h1, h2, h3⟩ := id hp
    have hne := List.length_pos_iff.mpr f.ok.ne
    have hlen := f.len
    obtain ⟨N, hN⟩ : ∃ N, c.cs.length = N + 1 := ⟨c.cs.length - 1, by omega⟩
    refine ⟨_, rfl, p, dx, _, rfl, h1, p, _, rfl, hp, fun t us ht hs => ?_⟩
    refine ⟨Nat.zero_le _, fun l hl => ⟨_, _, rfl, ?_⟩⟩
    have hul : us.length = 2 * N + 4 := by rw [paired_len hs, CF.len_steps, hN]; omega
    have s0 : Same H (upd H l (.lst [])) := same_upd hl
    refine ⟨_, rfl, t, us, rfl, .inr (SqT.of (s0 _ _ ht)), _, _, rfl, rfl, ?_⟩
    have hb : ((us.length : Nat) : Int) - 4 = 2 * (N : Int) := by omega
    have rg := rg2 N (by omega)
    have bt1 : ∀ i : Int, i = 0 ∨ i = 1 ∨ i = -1 → Sm i := fun i h => by rcases h with rfl | rfl | rfl <;> (unfold Sm; decide)
    refine ⟨0, _, 2, N, rfl, ⟨by decide, by decide, by rw [hb]; exact rg.1, by rw [hb]; exact rg.2⟩, for_it (walk_rangeC (lo := 0) (c := 2) (n := N)) (fun i σ H' => ∃ y acc, σ = [some (.ref p), some (.ref t), some (.ref l), y] ∧ Same H H' ∧ H' l = some (.lst acc) ∧ Paired (CpAt K H') acc (c.cpl.take i))
      ⟨none, [], rfl, s0, upd_same, .nil⟩ (fun _ _ _ _ _ => trivial) (fun i x σ H2 H' hi hP hY => ?_) (fun σ H' hP => ?_)⟩
    · obtain ⟨y, acc, rfl, s, hl2, hac⟩ := hP
      obtain ⟨rfl, rfl⟩ := hY
      obtain ⟨cq, hcq⟩ : ∃ cq, c.cs[i]? = some cq := ⟨_, List.getElem?_eq_getElem (by omega)⟩
      obtain ⟨e1, e2⟩ := CF.at_x hcq
      obtain ⟨v1, g1, a1, r1, rfl, w1, hr1⟩ := step_get hs e1
      obtain ⟨v2, g2, a2, rfl, w2⟩ := step_get hs e2
      have i1 : (0 : Int) + (i : Nat) * 2 = ((2 * i : Nat) : Int) := by omega
      have i2 : (0 : Int) + (i : Nat) * 2 + 1 = ((2 * i + 1 : Nat) : Int) := by omega
      have hacl : acc.length = i := by
        rw [paired_len hac, List.length_take, show c.cpl.length = _ from cpl_len _ _ _ _ _]
        omega
      refine ⟨_, rfl, .inl ⟨rfl, _, SqL.of hl2⟩, ?_⟩
      refine ⟨_, rfl, _, rfl, t, us, _, _, rfl, rfl, SqT.of (s _ _ ht), by rw [i1]; exact atI_nat g1, a1, _, _, _, rfl, rfl, SqT.of (s _ _ w1), rfl, ?_⟩
      refine ⟨_, rfl, _, rfl, _, _, rfl, rfl, t, us, _, _, rfl, rfl, SqT.of (s _ _ ht), by rw [i2]; exact atI_nat g2, _, rfl, a2, _, rfl, SqT.of (s _ _ w2), fun h => absurd (show (1 : Nat) = 0 from h.1) (by decide), fun _ y hy => ?_⟩
      refine ⟨y, _, rfl, .inl (SqT.of upd_same), ?_⟩
      have hl0 : H l = none := hl
      have fin : ∀ (H4 : Hp) t6 pp, Same H' H4 → H4 t6 = some (.tup [.int 0, .int (-1), .int 1, .int cq.2, .int 0, .int 0]) → H4 pp = some (.tup [.ref r1, .ref t6]) →
          ∃ y acc', [some (V.ref p), some (.ref t), some (.ref l), some (.int (0 + (i : Nat) * 2))] = [some (.ref p), some (.ref t), some (.ref l), y] ∧ Same H (upd H4 l (.lst (acc ++ [.ref pp]))) ∧ (upd H4 l (.lst (acc ++ [.ref pp]))) l = some (.lst acc') ∧ Paired (CpAt K (upd H4 l (.lst (acc ++ [.ref pp])))) acc' (c.cpl.take (i + 1)) := fun H4 t6 pp s3 e6 e7 => by
        have fx : Fixes H4 (upd H4 l (.lst (acc ++ [.ref pp]))) := fun b o hb e => by
          have ne : b ≠ l := by
            rintro rfl
            rw [s3 _ _ hl2] at e
            cases e
            cases hb
          rw [upd_ne ne]
          exact e
        refine ⟨_, _, rfl, Same.of_upd (Same.tr s s3) hl0, upd_same, ?_⟩
        rw [List.take_succ, show c.cpl[i]? = _ from cpl_get hcq (by omega)]
        refine paired_app (Paired.mapP hac fun v q z => (z.keep (Same.fix s3)).keep fx) (.cons ?_ .nil)
        exact ⟨pp, r1, t6, rfl, fx _ _ rfl e7, ((hr1.keep (Same.fix s)).keep (Same.fix s3)).keep fx, fx _ _ rfl e6⟩
      have s1 : Same H' (upd H' y (.tup [.int 0, .int (-1), .int 1, .int cq.2])) := same_upd hy
      refine ⟨by show 6 ≤ sizeLine; decide, fun t6 ht6 => ?_⟩
      have s2 : Same H' (upd (upd H' y (.tup [.int 0, .int (-1), .int 1, .int cq.2])) t6 (.tup [.int 0, .int (-1), .int 1, .int cq.2, .int 0, .int 0])) := Same.of_upd s1 (none_back s1 ht6)
      refine ⟨by show 2 ≤ sizeLine; decide, fun pp hpp => ?_⟩
      have s3 : Same H' (upd (upd (upd H' y (.tup [.int 0, .int (-1), .int 1, .int cq.2])) t6 (.tup [.int 0, .int (-1), .int 1, .int cq.2, .int 0, .int 0])) pp (.tup [.ref r1, .ref t6])) := Same.of_upd s2 (none_back s2 hpp)
      exact ⟨l, acc, _, rfl, rfl, s3 _ _ hl2, Nat.lt_of_le_of_lt (by omega : acc.length ≤ 40) (by decide), fin _ t6 pp s3 ((upd_ne (ne_new upd_same hpp)).trans upd_same) upd_same⟩
    · obtain ⟨y, acc, rfl, s, hl2, hac⟩ := hP
      obtain ⟨cq, hcq⟩ : ∃ cq, c.cs[N]? = some cq := ⟨_, List.getElem?_eq_getElem (by omega)⟩
      obtain ⟨e1, e2⟩ := CF.at_x hcq
      obtain ⟨v1, g1, a1, r1, rfl, w1, hr1⟩ := step_get hs e1
      obtain ⟨v2, g2, w2⟩ := step_get hs e2
      obtain ⟨k1, k2, ⟨v3, g3, w3⟩, ⟨v4, g4, w4⟩⟩ := core_cut hs f
      have n3 : atI us (-((1 : Nat) : Int)) = some _ := atI_neg g3 (by decide) (by omega)
      have n4 : atI us (-((2 : Nat) : Int)) = some _ := atI_neg g4 (by decide) (by omega)
      have n1 : atI us (-((4 : Nat) : Int)) = some _ := atI_neg (v := .ref a1) (by rw [show us.length - 4 = 2 * N by omega]; exact g1) (by decide) (by omega)
      have n2 : atI us (-((3 : Nat) : Int)) = some _ := atI_neg (v := v2) (by rw [show us.length - 3 = 2 * N + 1 by omega]; exact g2) (by decide) (by omega)
      refine ⟨_, rfl, l, acc, rfl, .inr (SqL.of hl2), ?_⟩
      refine ⟨_, rfl, _, rfl, t, us, _, _, rfl, rfl, SqT.of (s _ _ ht), n1, a1, _, _, _, rfl, rfl, SqT.of (s _ _ w1), rfl, ?_⟩
      refine ⟨_, rfl, _, rfl, t, us, _, _, rfl, rfl, SqT.of (s _ _ ht), n2, _, rfl, _, rfl, t, us, _, _, rfl, rfl, SqT.of (s _ _ ht), n4, _, rfl, _, rfl, t, us, _, _, rfl, rfl, SqT.of (s _ _ ht), n3, ?_⟩
      have se : Sm c.e := bt1 _ (by rcases f.ok.e with h | h <;> simp [h])
      have sf : Sm c.f := bt1 _ (by rcases f.ok.f with h | h <;> simp [h])
      refine ⟨_, _, _, _, _, _, _, _, _, _, _, _, _, rfl, w2.keep (Same.fix s), w4.keep (Same.fix s), w3.keep (Same.fix s), bt1 _ (by simp), bt1 _ (by simp), bt1 _ (by simp), Sm.of (f.d cq (List.mem_of_getElem? hcq)) (by decide) (by decide), se, bt1 _ (by simp), sf, fun H3 t6 s3 ht6 => ?_⟩
      refine ⟨by show 2 ≤ sizeLine; decide, fun pp hpp => ?_⟩
      have s4 : Same H3 (upd H3 pp (.tup [.ref r1, .ref t6])) := same_upd hpp
      refine ⟨?_, fun l2 hl3 => ?_⟩
      · show (acc ++ [V.ref pp]).length ≤ sizeLine
        have hacl := paired_len hac
        rw [List.length_take] at hacl
        rw [List.length_append]
        exact small2 (by have : [V.ref pp].length = 1 := rfl; omega)
      · have s5 : Same H3 (upd (upd H3 pp (.tup [.ref r1, .ref t6])) l2 (.lst (acc ++ [.ref pp]))) := Same.of_upd s4 (none_back s4 hl3)
        refine q _ l2 (acc ++ [.ref pp]) (Same.tr (Same.tr s s3) s5) upd_same ?_
        have el : c.cpl = c.cpl.take N ++ [(cq.1, [c.e * 0 + 0 * 1, c.e * (-1) + 0 * cq.2, c.f * 1, c.f * cq.2, c.s, c.t])] := by
          have z : (c.cpl)[N]? = _ := cpl_last (e := c.e) (f := c.f) (s := c.s) (t := c.t) hcq (by omega)
          have hl : c.cpl.length = N + 1 := by rw [show c.cpl.length = _ from cpl_len _ _ _ _ _, hN]
          conv => lhs; rw [← List.take_length (l := c.cpl), hl, List.take_succ, z]
          rfl
        rw [el]
        refine paired_app (Paired.mapP hac fun v q z => (z.keep (Same.fix s3)).keep (Same.fix s5)) (.cons ?_ .nil)
        refine ⟨pp, r1, t6, rfl, ?_, ((hr1.keep (Same.fix s)).keep (Same.fix s3)).keep (Same.fix s5), s5 _ _ ht6⟩
        rw [upd_ne (ne_new upd_same hl3), upd_same]
end
end K5
set_option Elab.async false
set_option linter.all false
set_option maxRecDepth 100000
set_option maxHeartbeats 4000000
namespace K5
open PySem PySem.Spec PyProof.Rows L2
theorem low_bt : ∀ {r : List Int}, (∀ x ∈ r, Bt 1000 x) → (lowS r).natAbs ≤ r.length * 2 ^ 1000
  | [], _ => by simp [lowS]
  | [_], _ => by simp [lowS]
  | c :: d :: r, h => by
    have ih := low_bt (r := d :: r) fun x hx => h x (List.mem_cons_of_mem _ hx)
    have hc : c.natAbs < 2 ^ 1000 := h c List.mem_cons_self
    have e : lowS (c :: d :: r) = ab c + lowS (d :: r) := rfl
    have e2 : (ab c).natAbs = c.natAbs := by rw [ab_nat]; rfl
    rw [e]
    have := Int.natAbs_add_le (ab c) (lowS (d :: r))
    have e3 : (c :: d :: r).length * 2 ^ 1000 = (d :: r).length * 2 ^ 1000 + 2 ^ 1000 := by rw [List.length_cons, Nat.succ_mul]
    generalize 2 ^ 1000 = M at *
    omega
theorem bt_small {i : Int} (h : i = 0 ∨ i = 1 ∨ i = -1) : Bt 1000 i := by rcases h with rfl | rfl | rfl <;> exact Bt.mono (n := 2) (by unfold Bt; decide) (by decide)
theorem CF.fit.six {c : CF} (f : c.fit) {q : List Int × List Int} (h : q ∈ c.cpl) : Six q := by
  obtain ⟨p, hp, e⟩ := cpl_mem h
  have hd := f.d p hp
  have hr := f.r p hp
  have hl := f.rl p hp
  have he : Bt 2 c.e := by rcases f.ok.e with h | h <;> rw [h] <;> (unfold Bt; decide)
  have hf : Bt 2 c.f := by rcases f.ok.f with h | h <;> rw [h] <;> (unfold Bt; decide)
  have low : Bt 1100 (lowS p.1) := by
    have := low_bt hr
    unfold Bt
    refine Nat.lt_of_le_of_lt this (Nat.lt_of_le_of_lt (Nat.mul_le_mul_right _ hl) ?_)
    decide +kernel
  have ne : p.1 ≠ [] := by
    have := bend_len (f.ok.r p hp)
    intro z
    rw [z] at this
    simp at this
  have b1 : Bt 1005 1 := (bt_small (by simp)).mono (by decide)
  have b0 : Bt 1005 0 := (bt_small (by simp)).mono (by decide)
  have bm : Bt 1005 (-1) := (bt_small (by simp)).mono (by decide)
  rcases e with rfl | rfl
  · refine ⟨⟨_, _, _, _, _, _, rfl⟩, fun x hx => ?_, ne, hl, low⟩
    have hx' : x = 0 ∨ x = -1 ∨ x = 1 ∨ x = p.2 ∨ x = 0 := by simpa using hx
    rcases hx' with rfl | rfl | rfl | rfl | rfl
    · exact b0
    · exact bm
    · exact b1
    · exact hd.mono (by decide)
    · exact b0
  · refine ⟨⟨_, _, _, _, _, _, rfl⟩, fun x hx => ?_, ne, hl, low⟩
    have hx' : x = c.e * 0 + 0 * 1 ∨ x = c.e * (-1) + 0 * p.2 ∨ x = c.f * 1 ∨ x = c.f * p.2 ∨ x = c.s ∨ x = c.t := by
      have z : x ∈ [c.e * 0 + 0 * 1, c.e * (-1) + 0 * p.2, c.f * 1, c.f * p.2, c.s, c.t] := hx
      simpa only [List.mem_cons, List.not_mem_nil, or_false] using z
    rcases hx' with rfl | rfl | rfl | rfl | rfl | rfl
    · rw [Int.mul_zero, Int.zero_mul]; exact b0
    · rw [Int.zero_mul, Int.add_zero]; exact (he.mul (m := 1000) (bt_small (by simp))).mono (by decide)
    · rw [Int.mul_one]; exact hf.mono (by decide)
    · exact (hf.mul hd).mono (by decide)
    · exact f.s.mono (by decide)
    · exact f.t.mono (by decide)
def WedAt (K : Fg) (H : Hp) (w p : Addr) (hg rc : Int) : Prop := ∃ dx, H w = some (.ins (glA "Wedge" K) dx [("own_core", .ref p), ("own_width", .int 1), ("own_height", .int hg), ("own_reach", .int rc)])
section
variable {P : Program} {w : World} {K : Fg} {mg : Str → Option Value} {base : Heap}
def spWeI (K : Fg) : Sp := fun vs H Q _ => ∃ x dx p c, vs = [.ref x, .ref p] ∧ H x = some (.ins (glA "Wedge" K) dx []) ∧ ProgAt K H p (CF.steps c) ∧ CF.fit c ∧
  ∀ H' hg rc, (∀ b u, b ≠ x → H b = some u → H' b = some u) → HG c hg → MaxOf rc (hg :: (CF.links c).map lr) → WedAt K H' x p hg rc → Q .non H'
theorem ok_Wedge_init (T : TX K mg) : Fx P w K mg base 9 (d_Wedge_init.ad K) (spWeI K) := by
  refine fx_mk T fd_Wedge_init rfl sc_Wedge_init bd_Wedge_init (fun vs H Q E h => ?_) (fun cdv A outer s H vs Q E hr h => ?_)
  · obtain ⟨x, dx, p, c, rfl, _⟩ := h
    rfl
  · obtain ⟨x, dx, p, c, rfl, hx, hp, f, q⟩ := h
    refine ⟨_, (pss_cons (ps_expr (pe_f (ok_need_core T) (T.g "need_core") hr (by decide) (by rfl) (pa_cons (pv 1) pa_nil))) (pss_cons (ps_set (i := 2) sc_Wedge_init.nd rfl (.inl rfl) (pe_f (ok_couples_of T) (T.g "couples_of") hr (by decide) (by rfl) (pa_cons (pv 1) pa_nil))) (pss_cons (ps_set (i := 4) sc_Wedge_init.nd rfl (.inr rfl) (pe_callB (cr_max rfl) (by rfl) (T.r "max") bi_max (pa_cons (pe_lc (g := (gTup K 2 (gCons (gName 5) (gCons (gName 6) gNil)))) (own := [("rule", 5), ("numbers", 6)]) rfl sc_Wedge_init.nd (pi_list (pv 2)) (blkOk_by (own := [("rule", 5), ("numbers", 6)]) (N := n_Wedge_init) (sc := defScope s_Wedge_init) (by decide +kernel)) (fun _ _ _ _ _ => (pg_tup rfl (pgs_cons (pg_name (i := 5) sc_Wedge_init.nd rfl (.inl rfl)) (pgs_cons (pg_name (i := 6) sc_Wedge_init.nd rfl (.inl rfl)) pgs_nil)))) (fun _ _ _ _ _ => pts_nil) (fun _ _ _ _ _ => (pe_op op_add (pe_op op_mulW pe_int (pe_callB call_abs (by rfl) (T.r "abs") bi_abs (pa_cons (pe_ix (r := rIxT K) ix_tup (pv 6) pe_int (fun _ _ => rfl)) pa_nil))) pe_int))) pa_nil))) (pss_cons (ps_set (i := 3) sc_Wedge_init.nd rfl (.inl rfl) (pe_callB (cr_max rfl) (by rfl) (T.r "max") bi_max (pa_cons (pe_lc (g := (gTup K 2 (gCons (gName 5) (gCons (gName 6) gNil)))) (own := [("rule", 5), ("numbers", 6)]) rfl sc_Wedge_init.nd (pi_list (pv 2)) (blkOk_by (own := [("rule", 5), ("numbers", 6)]) (N := n_Wedge_init) (sc := defScope s_Wedge_init) (by decide +kernel)) (fun _ _ _ _ _ => (pg_tup rfl (pgs_cons (pg_name (i := 5) sc_Wedge_init.nd rfl (.inl rfl)) (pgs_cons (pg_name (i := 6) sc_Wedge_init.nd rfl (.inl rfl)) pgs_nil)))) (fun _ _ _ _ _ => pts_nil) (fun _ _ _ _ _ => (pe_f (ok_least_height T) (T.g "least_height") hr (by decide) (by rfl) (pa_cons (pv 5) (pa_cons (pv 6) (pa_cons (pv 4) pa_nil)))))) pa_nil))) (pss_cons (ps_fld (pv 0) (pv 1) rfl) (pss_cons (ps_fld (pv 0) (pv 4) rfl) (pss_cons (ps_fld (pv 0) (pv 3) rfl) (pss_one (ps_fld (pv 0) (pe_callB (cr_max rfl) (by rfl) (T.r "max") bi_max (pa_cons (pe_lst (pa_cons (pv 3) (StX.pa_star (pe_lc (g := (gTup K 2 (gCons (gName 5) (gCons (gName 6) gNil)))) (own := [("rule", 5), ("numbers", 6)]) rfl sc_Wedge_init.nd (pi_list (pv 2)) (blkOk_by (own := [("rule", 5), ("numbers", 6)]) (N := n_Wedge_init) (sc := defScope s_Wedge_init) (by decide +kernel)) (fun _ _ _ _ _ => (pg_tup rfl (pgs_cons (pg_name (i := 5) sc_Wedge_init.nd rfl (.inl rfl)) (pgs_cons (pg_name (i := 6) sc_Wedge_init.nd rfl (.inl rfl)) pgs_nil)))) (fun _ _ _ _ _ => pts_nil) (fun _ _ _ _ _ => (pe_f (ok_least_reach T) (T.g "least_reach") hr (by decide) (by rfl) (pa_cons (pv 5) (pa_cons (pv 6) (pa_cons (pv 4) pa_nil)))))) pa_nil))) pa_nil)) rfl))))))))), ?_⟩
    refine ⟨_, rfl, p, c, rfl, hp, f, fun H1 s1 => ?_⟩
    refine ⟨_, rfl, p, c, rfl, hp.keep (Same.fix s1), f, fun H2 l us s2 hl hus => ?_⟩
    have s02 := Same.tr s1 s2
    have hul : us.length = c.cpl.length := paired_len hus
    have hcl : c.cpl.length = c.cs.length := cpl_len _ _ _ _ _
    have hne := List.length_pos_iff.mpr f.ok.ne
    have hsz : us.length ≤ sizeLine := small2 (by have := f.len; omega)
    -- the width
    refine ⟨_, rfl, l, rfl, ⟨_, SqL.of hl⟩, fun D hD => ?_⟩
    refine lc_all (walk_list (xs := us)) (R := fun i _ v => v = .int 1) hD (fun H' s => SqL.of (s _ _ hl)) yat_same (fun _ _ _ _ _ r => r) hsz (fun i v H3 H' Q' hi s hY hq => ?_) (fun H3 acc s3 hacc hal hav => ?_)
    · obtain ⟨rfl, hx1⟩ := hY
      obtain ⟨cq, e, hc⟩ := paired_get hus hx1
      obtain ⟨pp, r, t6, rfl, g1, g2, g3⟩ := hc.keep (Same.fix s)
      obtain ⟨a, b, c1, d, s', t, e6⟩ := (f.six (List.mem_of_getElem? e)).six
      have ha : a = 0 := by
        obtain ⟨p', _, z | z⟩ := cpl_mem (List.mem_of_getElem? e)
        · rw [z] at e6
          exact (List.cons.inj e6).1.symm
        · rw [z] at e6
          have := (List.cons.inj e6).1
          rw [Int.mul_zero, Int.zero_mul] at this
          exact this.symm
      rw [e6, ha] at g3
      refine ⟨pp, _, rfl, SqT.of g1, rfl, _, _, rfl, _, _, rfl, rfl, rfl, ?_⟩
      refine ⟨_, rfl, t6, _, _, _, rfl, rfl, SqT.of g3, rfl, _, rfl, _, _, rfl, rfl, Sm.mul (by unfold Sm; decide) (by unfold Sm; decide), _, _, rfl, rfl, hq _ _ Same.rfl' rfl⟩
    have e1 : acc = (List.replicate us.length (1 : Int)).map V.int := acc_map (by rw [hal, List.length_replicate]) fun j v e => ⟨1, by rw [List.getElem?_replicate, if_pos (by have := (List.getElem?_eq_some_iff.mp e).1; omega)], hav j v e⟩
    subst e1
    refine ⟨_, _, rfl, SqL.of hacc, by rw [List.length_replicate]; omega, fun m hm _ => ?_⟩
    obtain rfl : m = 1 := List.eq_of_mem_replicate hm
    -- the height
    have s03 := Same.tr s02 s3
    have hl3 := s3 _ _ hl
    refine ⟨_, rfl, l, rfl, ⟨_, SqL.of hl3⟩, fun D2 hD2 => ?_⟩
    refine lc_all (walk_list (xs := us)) (R := fun i _ v => ∃ cq, c.cpl[i]? = some cq ∧ v = .int (lhS 1 cq)) hD2 (fun H' s => SqL.of (s _ _ hl3)) yat_same (fun _ _ _ _ _ r => r) hsz (fun i v H4 H' Q' hi s hY hq => ?_) (fun H4 acc2 s4 hacc2 hal2 hav2 => ?_)
    · obtain ⟨rfl, hx1⟩ := hY
      obtain ⟨cq, e, hc⟩ := paired_get hus hx1
      obtain ⟨pp, r, t6, rfl, g1, g2, g3⟩ := hc.keep (Same.fix (Same.tr s3 s))
      exact ⟨pp, _, rfl, SqT.of g1, rfl, _, _, rfl, _, _, rfl, rfl, rfl, _, rfl, _, rfl, _, rfl, r, t6, cq, 1, rfl, g2, g3, f.six (List.mem_of_getElem? e), (bt_small (by simp)).mono (by decide), fun H5 s5 => hq _ _ s5 ⟨cq, e, rfl⟩⟩
    have e2 : acc2 = (c.cpl.map (lhS 1)).map V.int := by
      rw [List.map_map]
      exact acc_map (by rw [hal2, hul]) hav2
    subst e2
    have eh := cpl_h (e := c.e) (f := c.f) (s := c.s) (t := c.t) f.ok.e f.ok.f c.cs
    have er := cpl_r (e := c.e) (f := c.f) (s := c.s) (t := c.t) f.ok.e f.ok.f c.cs
    refine ⟨_, _, rfl, SqL.of hacc2, by rw [List.length_map]; omega, fun hg hgm hgl => ?_⟩
    have HGc : HG c hg := by
      refine ⟨?_, fun y hy => hgl y ?_⟩
      · rw [show c.links.map hgt = c.cpl.map (lhS 1) from eh.symm]; exact hgm
      · rw [show c.links.map hgt = c.cpl.map (lhS 1) from eh.symm] at hy; exact hy
    -- what is laid
    have s04 := Same.tr s03 s4
    have hl4 := s4 _ _ hl3
    have cW := T.c "Wedge"
    refine ⟨_, rfl, _, rfl, x, _, dx, _, rfl, s04 _ _ hx, cW, T.a "Wedge" "own_core", by decide, ?_⟩
    refine ⟨_, rfl, _, rfl, x, _, dx, _, rfl, upd_same, cW, T.a "Wedge" "own_width", by show 1 < 1000; decide, ?_⟩
    refine ⟨_, rfl, _, rfl, x, _, dx, _, rfl, upd_same, cW, T.a "Wedge" "own_height", by show 2 < 1000; decide, ?_⟩
    have sX : ∀ o1 o2 o3 : HO, ∀ b u, b ≠ x → H4 b = some u → (upd (upd (upd H4 x o1) x o2) x o3) b = some u := fun o1 o2 o3 b u nb hb => by
      rw [upd_ne nb, upd_ne nb, upd_ne nb]
      exact hb
    have lx : l ≠ x := fun z => by
      rw [z, s04 _ _ hx] at hl4
      cases hl4
    have hl5 := sX (.ins (glA "Wedge" K) dx (putF "own_core" (.ref p) [])) (.ins (glA "Wedge" K) dx (putF "own_width" (.int 1) (putF "own_core" (.ref p) []))) (.ins (glA "Wedge" K) dx (putF "own_height" (.int hg) (putF "own_width" (.int 1) (putF "own_core" (.ref p) [])))) l _ lx hl4
    refine ⟨_, rfl, _, rfl, l, rfl, ⟨_, SqL.of hl5⟩, fun D3 hD3 => ?_⟩
    have fx5 : Fixes H4 (upd (upd (upd H4 x (.ins (glA "Wedge" K) dx (putF "own_core" (.ref p) []))) x (.ins (glA "Wedge" K) dx (putF "own_width" (.int 1) (putF "own_core" (.ref p) [])))) x (.ins (glA "Wedge" K) dx (putF "own_height" (.int hg) (putF "own_width" (.int 1) (putF "own_core" (.ref p) []))))) := fun b o hb e => by
      have nb : b ≠ x := by
        rintro rfl
        rw [s04 _ _ hx] at e
        cases e
        cases hb
      exact sX _ _ _ b o nb e
    refine lc_all (walk_list (xs := us)) (R := fun i _ v => ∃ cq, c.cpl[i]? = some cq ∧ v = .int (lrS 1 cq)) hD3 (fun H' s => SqL.of (s _ _ hl5)) yat_same (fun _ _ _ _ _ r => r) hsz (fun i v H6 H' Q' hi s hY hq => ?_) (fun H6 acc3 s6 hacc3 hal3 hav3 => ?_)
    · obtain ⟨rfl, hx1⟩ := hY
      obtain ⟨cq, e, hc⟩ := paired_get hus hx1
      obtain ⟨pp, r, t6, rfl, g1, g2, g3⟩ := ((hc.keep (Same.fix (Same.tr s3 s4))).keep fx5).keep (Same.fix s)
      exact ⟨pp, _, rfl, SqT.of g1, rfl, _, _, rfl, _, _, rfl, rfl, rfl, _, rfl, _, rfl, _, rfl, r, t6, cq, 1, rfl, g2, g3, f.six (List.mem_of_getElem? e), (bt_small (by simp)).mono (by decide), fun H5 s5 => hq _ _ s5 ⟨cq, e, rfl⟩⟩
    have e3 : acc3 = (c.cpl.map (lrS 1)).map V.int := by
      rw [List.map_map]
      exact acc_map (by rw [hal3, hul]) hav3
    subst e3
    refine ⟨D3, _, rfl, .inr (SqL.of hacc3), ?_⟩
    refine ⟨?_, fun D4 hD4 => ?_⟩
    · show (V.int hg :: ((c.cpl.map (lrS 1)).map V.int ++ [])).length ≤ sizeLine
      rw [List.append_nil, List.length_cons, List.length_map, List.length_map]
      exact small2 (by have := f.len; omega)
    refine ⟨D4, hg :: c.cpl.map (lrS 1), rfl, ?_, by simp, fun rc hrm hrl => ?_⟩
    · refine SqL.of ?_
      rw [upd_same]
      simp
    refine ⟨_, rfl, x, _, dx, _, rfl, (upd_ne (ne_new (s6 _ _ upd_same) hD4)).trans (s6 _ _ upd_same), cW, T.a "Wedge" "own_reach", by show 3 < 1000; decide, ?_⟩
    refine q _ hg rc (fun b u nb hb => ?_) HGc ⟨?_, fun y hy => hrl y ?_⟩ ⟨dx, upd_same⟩
    · rw [upd_ne nb]
      have h4 := s04 _ _ hb
      have h6 := s6 _ _ (sX (.ins (glA "Wedge" K) dx (putF "own_core" (.ref p) [])) (.ins (glA "Wedge" K) dx (putF "own_width" (.int 1) (putF "own_core" (.ref p) []))) (.ins (glA "Wedge" K) dx (putF "own_height" (.int hg) (putF "own_width" (.int 1) (putF "own_core" (.ref p) [])))) b u nb h4)
      rw [upd_ne (ne_new h6 hD4)]
      exact h6
    · rw [show c.links.map lr = c.cpl.map (lrS 1) from er.symm]; exact hrm
    · rw [show c.links.map lr = c.cpl.map (lrS 1) from er.symm] at hy; exact hy
end
end K5
set_option Elab.async false
set_option linter.all false
set_option maxRecDepth 100000
set_option maxHeartbeats 4000000
namespace K5
open PySem PySem.Spec PyProof.Rows L2
theorem run_bend (r : List Int) (d : Int) (p : Pt) : runs [.x r, .t 0 (-1) 1 d] p = (-p.2, p.1 + pval r p.2 + d * p.2) := by
  show ((0 * (p.1 + pval r p.2) + (-1) * p.2, 1 * (p.1 + pval r p.2) + d * p.2) : Pt) = _
  rw [Int.zero_mul, Int.one_mul, Int.zero_add, Int.neg_mul, Int.one_mul]
theorem runs_app (a b : List Stp) (p : Pt) : runs (a ++ b) p = runs b (runs a p) := List.foldl_append ..
theorem run_end (e f s t : Int) (p : Pt) : runs [.t e 0 0 f, .m s t] p = (e * p.1 + s, f * p.2 + t) := by
  show ((e * p.1 + 0 * p.2 + s, 0 * p.1 + f * p.2 + t) : Pt) = _
  rw [Int.zero_mul, Int.zero_mul, Int.zero_add, Int.add_zero]
/-- a bend and a quarter -/
def bq (q : List Int × Int) (p : Pt) : Pt := (-p.2, p.1 + pval q.1 p.2 + q.2 * p.2)
def bqs (cs : List (List Int × Int)) (p : Pt) : Pt := cs.foldl (fun p q => bq q p) p
theorem run_parts : ∀ (cs : List (List Int × Int)) (p : Pt), runs (parS cs) p = bqs cs p
  | [], _ => rfl
  | q :: cs, p => by
    show runs ([.x q.1, .t 0 (-1) 1 q.2] ++ parS cs) p = bqs cs (bq q p)
    rw [runs_app, run_bend, run_parts cs]
    rfl
theorem pass_links (e f s t : Int) : ∀ {cs : List (List Int × Int)}, cs ≠ [] → ∀ p : Pt, runL (links e f s t cs) p = (e * (bqs cs p).1 + s, f * (bqs cs p).2 + t)
  | [], h, _ => absurd rfl h
  | [q], _, p => rfl
  | q :: q2 :: cs, _, p => by
    show runL (⟨q.1, q.2, 1, 1, 0, 0⟩ :: links e f s t (q2 :: cs)) p = _
    rw [runL_cons, pass_links e f s t (cs := q2 :: cs) (by simp)]
    have z : (Lk.mk q.1 q.2 1 1 0 0).run p = bq q p := by
      show ((1 * (-p.2) + 0, 1 * (p.1 + pval q.1 p.2 + q.2 * p.2) + 0) : Pt) = _
      rw [Int.one_mul, Int.one_mul, Int.add_zero, Int.add_zero]
      rfl
    rw [z]
    rfl
theorem CF.pass_eq {c : CF} (h : c.cs ≠ []) (p : Pt) : c.pass p = (c.e * (bqs c.cs p).1 + c.s, c.f * (bqs c.cs p).2 + c.t) := pass_links _ _ _ _ h p
theorem runs_pass {c : CF} (h : c.cs ≠ []) (p : Pt) : runs c.steps p = c.pass p := by
  show runs (parS c.cs ++ [.t c.e 0 0 c.f, .m c.s c.t]) p = _
  rw [runs_app, run_parts, run_end, CF.pass_eq h]
/-- within B all passes can be computed -/
def Sl (i : Int) : Prop := i.natAbs.log2 < 900000
theorem Sm.l {i : Int} (h : Sm i) : Sl i := Nat.lt_trans h (by decide)
def OkC (c : CF) (B : Int) : Prop := ∀ q : Pt, ab q.1 ≤ B → ab q.2 ≤ B → OkRun c.steps q ∧ Sl (c.pass q).2
def FateAt (H : Hp) (t : Addr) : Fate → Prop
  | .back n => H t = some (.tup [.str "back", .int (n : Nat)])
  | .away n => H t = some (.tup [.str "away", .int (n : Nat)])
section
variable {P : Program} {w : World} {K : Fg} {mg : Str → Option Value} {base : Heap}
def spWid (K : Fg) : Sp := fun vs H Q _ => ∃ r p hg rc, vs = [.ref r] ∧ WedAt K H r p hg rc ∧ Q (.int 1) H
def spRch (K : Fg) : Sp := fun vs H Q _ => ∃ r p hg rc, vs = [.ref r] ∧ WedAt K H r p hg rc ∧ Q (.int rc) H
theorem ok_Wedge_width (T : TX K mg) : Fx P w K mg base 1 (d_Wedge_width.ad K) (spWid K) := by
  refine fx_mk T fd_Wedge_width rfl sc_Wedge_width bd_Wedge_width (fun vs H Q E h => ?_) (fun cdv A outer s H vs Q E hr h => ?_)
  · obtain ⟨r, p, hg, rc, rfl, _⟩ := h
    rfl
  · obtain ⟨r, p, hg, rc, rfl, ⟨dx, h1⟩, q⟩ := h
    refine ⟨_, (pss_one (ps_ret (pe_fld (pv 0) rfl))), ?_⟩
    exact ⟨_, rfl, r, _, dx, _, _, rfl, h1, T.c "Wedge", T.a "Wedge" "own_width", rfl, q⟩
theorem ok_Wedge_reach (T : TX K mg) : Fx P w K mg base 1 (d_Wedge_reach.ad K) (spRch K) := by
  refine fx_mk T fd_Wedge_reach rfl sc_Wedge_reach bd_Wedge_reach (fun vs H Q E h => ?_) (fun cdv A outer s H vs Q E hr h => ?_)
  · obtain ⟨r, p, hg, rc, rfl, _⟩ := h
    rfl
  · obtain ⟨r, p, hg, rc, rfl, ⟨dx, h1⟩, q⟩ := h
    refine ⟨_, (pss_one (ps_ret (pe_fld (pv 0) rfl))), ?_⟩
    exact ⟨_, rfl, r, _, dx, _, _, rfl, h1, T.c "Wedge", T.a "Wedge" "own_reach", rfl, q⟩
def spCon (K : Fg) : Sp := fun vs H Q _ => ∃ r p hg rc t, ∃ x y : Int, vs = [.ref r, .ref t] ∧ WedAt K H r p hg rc ∧ H t = some (.tup [.int x, .int y]) ∧ Sl y ∧ ∀ b : Bool, (b = true ↔ InW hg (x, y)) → Q (.bl b) H
theorem ok_Wedge_contains (T : TX K mg) : Fx P w K mg base 3 (d_Wedge_contains.ad K) (spCon K) := by
  refine fx_mk T fd_Wedge_contains rfl sc_Wedge_contains bd_Wedge_contains (fun vs H Q E h => ?_) (fun cdv A outer s H vs Q E hr h => ?_)
  · obtain ⟨r, p, hg, rc, t, x, y, rfl, _⟩ := h
    rfl
  · obtain ⟨r, p, hg, rc, t, x, y, rfl, ⟨dx, h1⟩, ht, hy, q⟩ := h
    refine ⟨_, (pss_cons (ps_if (PW.pt (pw_or (pt_not (pt_val (pe_f (ok_is_point T) (T.g "is_point") hr (by decide) (by rfl) (pa_cons (pv 1) pa_nil)))) (pw_or1 (pt_cmpR op_lt (pe_callB call_abs (by rfl) (T.r "abs") bi_abs (pa_cons (pe_ix ix_tup (pv 1) pe_int (fun _ _ => rfl)) pa_nil)) (pe_fld (pv 0) rfl) (nomark _))))) (pss_one (ps_ret pe_bl)) pss_nil) (pss_one (ps_ret (pe_cmpR op_le (pe_callB call_abs (by rfl) (T.r "abs") bi_abs (pa_cons (pe_ix ix_tup (pv 1) pe_int (fun _ _ => rfl)) pa_nil)) (pe_op op_mulW (pe_fld (pv 0) rfl) (pe_callB call_abs (by rfl) (T.r "abs") bi_abs (pa_cons (pe_ix ix_tup (pv 1) pe_int (fun _ _ => rfl)) pa_nil))) (nomark _))))), ?_⟩
    have h2 := SqT.of (K := K) ht
    have cW := T.c "Wedge"
    refine ⟨_, rfl, t, x, y, rfl, ht, _, rfl, iteF ?_⟩
    refine ⟨_, rfl, t, _, _, _, rfl, rfl, h2, rfl, _, rfl, _, rfl, r, _, dx, _, _, rfl, h1, cW, T.a "Wedge" "own_height", rfl, _, _, rfl, rfl, _, rfl, ite2 (fun hl => ?_) (fun hl => ?_)⟩
    · have hl' : ab y < hg := of_decide_eq_true hl
      refine q false ⟨fun z => (Bool.false_ne_true z).elim, fun z => ?_⟩
      have := z.1
      simp only at this
      omega
    · have hl' : ¬ ab y < hg := fun z => hl (decide_eq_true z)
      have sy : CMulW 1 (ab y) := by
        unfold CMulW
        unfold Sl at hy
        have e1 : (ab y).natAbs = y.natAbs := by rw [ab_nat]; rfl
        rw [e1]
        have : (1 : Int).natAbs.log2 = 0 := by decide
        omega
      refine ⟨_, rfl, t, _, _, _, rfl, rfl, h2, rfl, _, rfl, _, rfl, r, _, dx, _, _, rfl, h1, cW, T.a "Wedge" "own_width", rfl, _, rfl, t, _, _, _, rfl, rfl, h2, rfl, _, rfl, _, _, rfl, rfl, sy, _, _, rfl, rfl, q _ ⟨fun z => ?_, fun z => ?_⟩⟩
      · have z' : ab x ≤ 1 * ab y := of_decide_eq_true z
        rw [Int.one_mul] at z'
        exact ⟨Int.not_lt.mp hl', z'⟩
      · refine decide_eq_true ?_
        show ab x ≤ 1 * ab y
        rw [Int.one_mul]
        exact z.2
def spFaB (K : Fg) : Sp := fun vs H Q _ => ∃ p w t c hg rc B, ∃ x y : Int, vs = [.ref p, .ref w, .ref t] ∧ ProgAt K H p (CF.steps c) ∧ c.cs ≠ [] ∧ WedAt K H w p hg rc ∧ H t = some (.tup [.int x, .int y]) ∧ EndsB c hg (x, y) B ∧ OkC c B ∧ Sl y ∧
  ∀ H' u fr, Same H H' → IsFate c hg (x, y) fr → FateAt H' u fr → Q (.ref u) H'
theorem ok_fate_by (T : TX K mg) : Fx P w K mg base 4 (d_fate_by.ad K) (spFaB K) := by
  refine fx_mk T fd_fate_by rfl sc_fate_by bd_fate_by (fun vs H Q E h => ?_) (fun cdv A outer s H vs Q E hr h => ?_)
  · obtain ⟨p, wd, t, c, hg, rc, B, x, y, rfl, _⟩ := h
    rfl
  · obtain ⟨p, wd, t, c, hg, rc, B, x, y, rfl, hp, hne, hw, ht, en, okc, hy, q⟩ := h
    have hu64 := hr.units
    refine ⟨_, (pss_cons (ps_par (i := 3) (j := 4) rfl sc_fate_by.nd rfl rfl (by decide) rfl rfl (pa_cons (pv 2) (pa_cons pe_int pa_nil)) rfl) (pss_cons (ps_while PassesOwn.never (pt_cmpR (op_notInO (T.sp "Wedge" "__contains__") (ok_Wedge_contains T).raw (hr.mono (by decide)) pass0) (pv 3) (pv 1) (by with_unfolding_all rfl)) (pss_cons (ps_set (i := 3) sc_fate_by.nd rfl (.inl rfl) (StX.pe_callO (pv 0) ⟨(T.sp "Program" "__call__").1, (T.sp "Program" "__call__").2.1, (T.sp "Program" "__call__").2.2⟩ (ok_Program_call T).raw (hr.mono (by decide)) pass0 (pa_cons (pe_ix ix_tup (pv 3) pe_int (fun _ _ => rfl)) (pa_cons (pe_ix ix_tup (pv 3) pe_int (fun _ _ => rfl)) pa_nil)))) (pss_cons (ps_aug (i := 4) sc_fate_by.nd rfl (.inl rfl) pe_int ip_add) (pss_one (ps_if (pt_cmpR (op_eqD hu64) (pv 3) (pv 2) (nomark _)) (pss_one (ps_ret (pe_tup (pa_cons pe_str (pa_cons (pv 4) pa_nil))))) pss_nil))))) (pss_one (ps_ret (pe_tup (pa_cons pe_str (pa_cons (pv 4) pa_nil))))))), ?_⟩
    obtain ⟨N, hN⟩ := en.stop
    obtain ⟨dw, hw1⟩ := id hw
    refine ⟨_, rfl, _, _, rfl, ?_⟩
    refine ⟨fun m σ H' => ∃ i u, m = N - i ∧ i ≤ N ∧ σ = [some (.ref p), some (.ref wd), some (.ref t), some (.ref u), some (.int (i : Nat))] ∧ Same H H' ∧ H' u = some (.tup [.int (orb c.pass i (x, y)).1, .int (orb c.pass i (x, y)).2]) ∧ Sl (orb c.pass i (x, y)).2 ∧ (∀ j, 1 ≤ j → j ≤ i → orb c.pass j (x, y) ≠ (x, y)) ∧ ∀ j, j < i → ¬ InW hg (orb c.pass j (x, y)),
      ⟨N, 0, t, rfl, Nat.zero_le _, rfl, Same.rfl', ht, hy, fun j h1 h2 => by omega, fun j h => absurd h (Nat.not_lt_zero _)⟩, fun m σ H' hW => ?_⟩
    obtain ⟨i, u, rfl, hi, rfl, s, hu, hsm, hnb, hnw⟩ := hW
    refine ⟨_, rfl, _, rfl, wd, _, _, rfl, s _ _ hw1, wd, p, hg, rc, u, _, _, rfl, ⟨dw, s _ _ hw1⟩, hu, hsm, fun b hb => ⟨b, rfl, _, rfl, ?_⟩⟩
    cases b with
    | true =>
      have inw : InW hg (orb c.pass i (x, y)) := hb.mp rfl
      refine iteF ?_
      exact ⟨_, rfl, by show 2 ≤ sizeLine; decide, fun z hz => q _ z (.away i) (Same.of_upd s (none_back s hz)) ⟨inw, hnw⟩ upd_same⟩
    | false =>
      have nin : ¬ InW hg (orb c.pass i (x, y)) := fun z => Bool.false_ne_true (hb.mpr z)
      have hlt : i < N := by
        refine Nat.lt_of_le_of_ne hi fun e => ?_
        subst e
        rcases hN with hN | ⟨h1, h2⟩
        · exact nin hN
        · exact hnb i h1 (Nat.le_refl _) h2
      have lo := en.low i nin
      obtain ⟨k1, k2⟩ := okc _ lo.1 lo.2
      refine iteT ⟨fun σ' H3 => ∃ m', m' < N - i ∧ ∃ i u, m' = N - i ∧ i ≤ N ∧ σ' = [some (.ref p), some (.ref wd), some (.ref t), some (.ref u), some (.int (i : Nat))] ∧ Same H H3 ∧ H3 u = some (.tup [.int (orb c.pass i (x, y)).1, .int (orb c.pass i (x, y)).2]) ∧ Sl (orb c.pass i (x, y)).2 ∧ (∀ j, 1 ≤ j → j ≤ i → orb c.pass j (x, y) ≠ (x, y)) ∧ ∀ j, j < i → ¬ InW hg (orb c.pass j (x, y)), fun _ _ z => z, ?_⟩
      obtain ⟨dp, _, _, hp1, _⟩ := id hp
      refine ⟨_, rfl, p, rfl, _, rfl, u, _, _, _, rfl, rfl, SqT.of hu, rfl, _, rfl, u, _, _, _, rfl, rfl, SqT.of hu, rfl, .inr ⟨dp, _, s _ _ hp1⟩, p, c.steps, orb c.pass i (x, y), rfl, hp.keep (Same.fix s), k1, fun H4 v s4 hv => ?_⟩
      rw [runs_pass hne] at hv
      have hv' : H4 v = some (.tup [.int (orb c.pass (i + 1) (x, y)).1, .int (orb c.pass (i + 1) (x, y)).2]) := hv
      have s5 : Same H H4 := Same.tr s s4
      refine ⟨_, rfl, _, _, rfl, rfl, ?_⟩
      refine ⟨_, rfl, _, rfl, .tuple [.int _, .int _], .tuple [.int x, .int y], .tup (SqT.of hv') (.cons (.int _) (.cons (.int _) .nil)), .tup (SqT.of (s5 _ _ ht)) (.cons (.int _) (.cons (.int _) .nil)), rfl, rfl, _, rfl, ite2 (fun he => ?_) (fun he => ?_)⟩
      · have e1 : orb c.pass (i + 1) (x, y) = (x, y) := by
          have z : ((orb c.pass (i + 1) (x, y)).1 == x && ((orb c.pass (i + 1) (x, y)).2 == y && true)) = true := he
          have z' : (orb c.pass (i + 1) (x, y)).1 = x ∧ (orb c.pass (i + 1) (x, y)).2 = y := by simpa using z
          exact Prod.ext z'.1 z'.2
        refine ⟨_, rfl, by show 2 ≤ sizeLine; decide, fun z hz => q _ z (.back (i + 1)) (Same.of_upd s5 (none_back s5 hz)) ⟨by omega, e1, fun j h1 h2 => hnb j h1 (by omega), fun j hj => ?_⟩ upd_same⟩
        by_cases hji : j = i
        · subst hji; exact nin
        · exact hnw j (by omega)
      · refine ⟨N - (i + 1), by omega, i + 1, v, rfl, by omega, rfl, s5, hv', k2, fun j h1 h2 => ?_, fun j hj => ?_⟩
        · by_cases hji : j = i + 1
          · subst hji
            intro z
            refine he ?_
            show ((orb c.pass (i + 1) (x, y)).1 == x && ((orb c.pass (i + 1) (x, y)).2 == y && true)) = true
            rw [z]
            simp
          · exact hnb j h1 (by omega)
        · by_cases hji : j = i
          · subst hji; exact nin
          · exact hnw j (by omega)
theorem same_mk {H1 : Hp} {x dx C : Addr} (nx : H1 x = none) (nd : H1 dx = none) : Same H1 (upd (upd H1 dx (.own x)) x (.ins C dx [])) := Same.of_upd (same_upd nd) nx
def spFat (K : Fg) : Sp := fun vs H Q _ => ∃ p c hg B, ∃ x y : Int, vs = [.ref p, .int x, .int y] ∧ ProgAt K H p (CF.steps c) ∧ CF.fit c ∧ HG c hg ∧ EndsB c hg (x, y) B ∧ OkC c B ∧ Sl y ∧
  ∀ H' u fr, Same H H' → IsFate c hg (x, y) fr → FateAt H' u fr → Q (.ref u) H'
theorem ok_fate (T : TX K mg) : Fx P w K mg base 11 (d_fate.ad K) (spFat K) := by
  refine fx_mk T fd_fate rfl sc_fate bd_fate (fun vs H Q E h => ?_) (fun cdv A outer s H vs Q E hr h => ?_)
  · obtain ⟨p, c, hg, B, x, y, rfl, _⟩ := h
    rfl
  · obtain ⟨p, c, hg, B, x, y, rfl, hp, f, hhg, en, okc, hy, q⟩ := h
    refine ⟨_, (pss_cons (ps_set (i := 3) sc_fate.nd rfl (.inl rfl) (pe_new (ok_Wedge_init T) (T.m "Wedge") (T.g "Wedge") hr (by decide) (by rfl) (pa_cons (pv 0) pa_nil))) (pss_cons (ps_if (PW.pt (pw_or (pt_not (pt_val (pe_f (ok_is_number_fates T) (T.g "is_number_fates") hr (by decide) (by rfl) (pa_cons (pv 1) pa_nil)))) (pw_or1 (pt_not (pt_val (pe_f (ok_is_number_fates T) (T.g "is_number_fates") hr (by decide) (by rfl) (pa_cons (pv 2) pa_nil))))))) (pss_one ps_never) pss_nil) (pss_one (ps_ret (pe_f (ok_fate_by T) (T.g "fate_by") hr (by decide) (by rfl) (pa_cons (pv 0) (pa_cons (pv 3) (pa_cons (pe_tup (pa_cons (pv 1) (pa_cons (pv 2) pa_nil))) pa_nil)))))))), ?_⟩
    refine ⟨_, rfl, fun wd dx nx nd ne => ⟨wd, dx, p, c, rfl, upd_same, hp.keep (Same.fix (same_mk nx nd)), f, fun H1 hg2 rc k h1 h2 h3 => ⟨rfl, ?_⟩⟩⟩
    have s1 : Same H H1 := Same.made nx nd fun b o e nb => k b o nb e
    obtain rfl := hhg.uniq h1
    refine ⟨_, rfl, _, rfl, _, rfl, iteF ⟨_, rfl, _, rfl, _, rfl, iteF ?_⟩⟩
    refine ⟨_, rfl, _, rfl, _, rfl, _, rfl, by show 2 ≤ sizeLine; decide, fun z hz => ?_⟩
    have s2 : Same H1 (upd H1 z (.tup [.int x, .int y])) := same_upd hz
    obtain ⟨dw, h4⟩ := h3
    exact ⟨p, wd, z, c, hg, rc, B, x, y, rfl, hp.keep (Same.fix (Same.tr s1 s2)), f.ok.ne, ⟨dw, s2 _ _ h4⟩, upd_same, en, okc, hy, fun H' u fr s3 h5 h6 => q _ u fr (Same.tr (Same.tr s1 s2) s3) h5 h6⟩
end
end K5
set_option Elab.async false
set_option linter.all false
set_option maxRecDepth 100000
set_option maxHeartbeats 4000000
namespace K5
open PySem PySem.Spec PyProof.Rows L2
abbrev Tr := Int × Int × Nat
def TrAt (H : Hp) (v : V) (z : Tr) : Prop := ∃ p, v = .ref p ∧ H p = some (.tup [.int z.1, .int z.2.1, .int (z.2.2 : Nat)])
theorem TrAt.keep {H H' : Hp} {v : V} {z : Tr} (h : TrAt H v z) (k : Fixes H H') : TrAt H' v z := by
  obtain ⟨p, e, h⟩ := h
  exact ⟨p, e, k _ _ rfl h⟩
structure RetL (c : CF) (R : Int) (ts : List Tr) : Prop where
  per : ∀ z ∈ ts, Per c.pass (z.1, z.2.1) z.2.2
  all : ∀ (x y : Int) n, ab x < R → ab y < R → Per c.pass (x, y) n → (x, y, n) ∈ ts
  nd : (ts.map fun z => (z.1, z.2.1)).Nodup
structure RetP (c : CF) (R x0 y0 : Int) (ts : List Tr) : Prop where
  per : ∀ z ∈ ts, Per c.pass (z.1, z.2.1) z.2.2
  all : ∀ (x y : Int) n, ab x < R → ab y < R → (x < x0 ∨ (x = x0 ∧ y < y0)) → Per c.pass (x, y) n → (x, y, n) ∈ ts
  low : ∀ z ∈ ts, z.1 < x0 ∨ (z.1 = x0 ∧ z.2.1 < y0)
  nd : (ts.map fun z => (z.1, z.2.1)).Nodup
theorem RetP.start (c : CF) (R : Int) : RetP c R (1 - R) (1 - R) [] :=
  ⟨fun z h => by simp at h, fun x y n h1 h2 h3 _ => by
    rcases ab_cases x with k | k <;> rcases ab_cases y with l | l <;> omega, fun z h => by simp at h, by simp⟩
theorem RetP.next {c : CF} {R x0 : Int} {ts : List Tr} (h : RetP c R x0 R ts) : RetP c R (x0 + 1) (1 - R) ts :=
  ⟨h.per, fun x y n h1 h2 h3 hp => h.all x y n h1 h2 (by rcases ab_cases y with l | l <;> omega) hp, fun z hz => by have := h.low z hz; omega, h.nd⟩
theorem RetP.fin {c : CF} {R y0 : Int} {ts : List Tr} (h : RetP c R R y0 ts) : RetL c R ts :=
  ⟨h.per, fun x y n h1 h2 hp => h.all x y n h1 h2 (by rcases ab_cases x with l | l <;> omega) hp, h.nd⟩
theorem RetP.add {c : CF} {R x0 y0 : Int} {ts : List Tr} (h : RetP c R x0 y0 ts) {n : Nat} (hp : Per c.pass (x0, y0) n) : RetP c R x0 (y0 + 1) (ts ++ [(x0, y0, n)]) := by
  refine ⟨fun z hz => ?_, fun x y m h1 h2 h3 h4 => ?_, fun z hz => ?_, ?_⟩
  · rcases List.mem_append.mp hz with hz | hz
    · exact h.per z hz
    · obtain rfl := List.mem_singleton.mp hz
      exact hp
  · by_cases e : x = x0 ∧ y = y0
    · obtain ⟨rfl, rfl⟩ := e
      rw [hp.uniq h4]
      exact List.mem_append_right _ (List.mem_singleton.mpr rfl)
    · exact List.mem_append_left _ (h.all x y m h1 h2 (by omega) h4)
  · rcases List.mem_append.mp hz with hz | hz
    · have := h.low z hz
      omega
    · obtain rfl := List.mem_singleton.mp hz
      exact .inr ⟨rfl, by show y0 < y0 + 1; omega⟩
  · rw [List.map_append, List.nodup_append]
    refine ⟨h.nd, by simp, fun a ha b hb => ?_⟩
    obtain ⟨z, hz, rfl⟩ := List.mem_map.mp ha
    obtain rfl : b = (x0, y0) := by simpa using hb
    have := h.low z hz
    intro e
    have e1 : z.1 = x0 := congrArg Prod.fst e
    have e2 : z.2.1 = y0 := congrArg Prod.snd e
    omega
theorem RetP.skip {c : CF} {R x0 y0 : Int} {ts : List Tr} (h : RetP c R x0 y0 ts) (hp : ∀ n, ¬ Per c.pass (x0, y0) n) : RetP c R x0 (y0 + 1) ts := by
  refine ⟨h.per, fun x y m h1 h2 h3 h4 => ?_, fun z hz => ?_, h.nd⟩
  · by_cases e : x = x0 ∧ y = y0
    · obtain ⟨rfl, rfl⟩ := e
      exact absurd h4 (hp m)
    · exact h.all x y m h1 h2 (by omega) h4
  · have := h.low z hz
    omega
section
variable {P : Program} {w : World} {K : Fg} {mg : Str → Option Value} {base : Heap}
def spRet (K : Fg) : Sp := fun vs H Q _ => ∃ p c hg rc B, vs = [.ref p] ∧ ProgAt K H p (CF.steps c) ∧ CF.fit c ∧ HG c hg ∧ MaxOf rc (hg :: (CF.links c).map lr) ∧ 1 ≤ rc ∧ rc ≤ 40 ∧ (∀ x y : Int, ab x < rc → ab y < rc → EndsB c hg (x, y) B) ∧ OkC c B ∧
  ∀ H' l us ts, Same H H' → H' l = some (.lst us) → Paired (TrAt H') us ts → RetL c rc ts → us.length ≤ 10000 → H l = none → Q (.ref l) H'
theorem ok_returning (T : TX K mg) : Fx P w K mg base 11 (d_returning.ad K) (spRet K) := by
  refine fx_mk T fd_returning rfl sc_returning bd_returning (fun vs H Q E h => ?_) (fun cdv A outer s H vs Q E hr h => ?_)
  · obtain ⟨p, c, hg, rc, B, rfl, _⟩ := h
    rfl
  · obtain ⟨p, c, hg, rc, B, rfl, hp, f, hhg, hrc, r1, r40, en, okc, q⟩ := h
    obtain ⟨tm, htm⟩ := T.mostp
    refine ⟨_, (pss_cons (ps_set (i := 1) sc_returning.nd rfl (.inl rfl) (pe_new (ok_Wedge_init T) (T.m "Wedge") (T.g "Wedge") hr (by decide) (by rfl) (pa_cons (pv 0) pa_nil))) (pss_cons (ps_par (i := 2) (j := 3) rfl sc_returning.nd rfl rfl (by decide) rfl rfl (pa_cons (pe_pr (ok_Wedge_reach T) (T.c "Wedge") (T.pr "Wedge" "reach") hr (by decide) (pv 1) rfl) (pa_cons (pe_op op_mulW (pe_pr (ok_Wedge_width T) (T.c "Wedge") (T.pr "Wedge" "width") hr (by decide) (pv 1) rfl) (pe_pr (ok_Wedge_reach T) (T.c "Wedge") (T.pr "Wedge" "reach") hr (by decide) (pv 1) rfl)) pa_nil)) rfl) (pss_cons (ps_if (pt_cmpR op_gt (pe_op op_mulW (pe_op op_sub (pe_op op_mulW pe_int (pv 2)) pe_int) (pe_op op_sub (pe_op op_mulW pe_int (pv 3)) pe_int)) (pe_glob (v := .int 8000) (by rfl) htm ⟨_, rfl⟩) (nomark _)) (pss_one ps_never) pss_nil) (pss_cons (ps_set (i := 4) sc_returning.nd rfl (.inl rfl) (pe_lst pa_nil)) (pss_cons (ps_for PassesOwn.never rfl (pi_range2 (by rfl) (T.r "range") (pa_cons (pe_op op_sub pe_int (pv 3)) (pa_cons (pv 3) pa_nil))) (pg_name (i := 5) sc_returning.nd rfl (.inl rfl)) (pss_one (ps_for PassesOwn.never rfl (pi_range2 (by rfl) (T.r "range") (pa_cons (pe_op op_sub pe_int (pv 2)) (pa_cons (pv 2) pa_nil))) (pg_name (i := 6) sc_returning.nd rfl (.inl rfl)) (pss_cons (ps_asg (pe_f (ok_fate_by T) (T.g "fate_by") hr (by decide) (by rfl) (pa_cons (pv 0) (pa_cons (pv 1) (pa_cons (pe_tup (pa_cons (pv 5) (pa_cons (pv 6) pa_nil))) pa_nil)))) (pg_tup rfl (pgs_cons (pg_name (i := 7) sc_returning.nd rfl (.inl rfl)) (pgs_cons (pg_name (i := 8) sc_returning.nd rfl (.inl rfl)) pgs_nil)))) (pss_one (ps_if (pt_cmpR op_eq (pv 7) pe_str (nomark _)) (pss_one (ps_expr (pe_bm PySem.F.plainAttrs_list PySem.F.slot_list_append PySem.F.type_list_append mt_append (pv 4) (pa_cons (pe_tup (pa_cons (pv 5) (pa_cons (pv 6) (pa_cons (pv 8) pa_nil)))) pa_nil)))) pss_nil)))))) (pss_one (ps_ret (pv 4)))))))), ?_⟩
    refine ⟨_, rfl, fun wd dx nx nd ne => ⟨wd, dx, p, c, rfl, upd_same, hp.keep (Same.fix (same_mk nx nd)), f, fun H1 hg2 rc2 k h1 h2 h3 => ⟨rfl, ?_⟩⟩⟩
    have s1 : Same H H1 := Same.made nx nd fun b o e nb => k b o nb e
    obtain rfl := hhg.uniq h1
    obtain rfl := hrc.uniq h2
    obtain ⟨dw, hw⟩ := id h3
    have sm : ∀ i : Int, 0 ≤ i → i ≤ 100 → Sm i := fun i a b => Sm.of (n := 10) (by unfold Bt; omega) (by decide) (by decide)
    refine ⟨_, rfl, wd, dw, _, rfl, hw, wd, p, hg, rc, rfl, h3, ?_⟩
    refine ⟨_, rfl, wd, dw, _, rfl, hw, wd, p, hg, rc, rfl, h3, _, rfl, wd, dw, _, rfl, hw, wd, p, hg, rc, rfl, h3, _, _, rfl, rfl, Sm.mul (sm 1 (by decide) (by decide)) (sm rc (by omega) (by omega)), _, _, rfl, ?_⟩
    have big : ¬ 8000 < (2 * rc - 1) * (2 * (1 * rc) - 1) := by
      rw [Int.one_mul]
      have : (2 * rc - 1) * (2 * rc - 1) ≤ 79 * (2 * rc - 1) := Int.mul_le_mul_of_nonneg_right (by omega) (by omega)
      omega
    refine ⟨_, rfl, _, _, rfl, rfl, Sm.mul (sm _ (by decide) (by decide)) (sm rc (by omega) (by omega)), _, _, rfl, rfl, _, rfl, _, _, rfl, rfl, Sm.mul (sm _ (by decide) (by decide)) (sm (1 * rc) (by omega) (by omega)), _, _, rfl, rfl, _, _, rfl, rfl, Sm.mul (sm (2 * rc - 1) (by omega) (by omega)) (sm (2 * (1 * rc) - 1) (by omega) (by omega)), _, _, rfl, rfl, _, rfl, iteE (decide_eq_false big) ?_⟩
    refine ⟨Nat.zero_le _, fun l hl => ?_⟩
    have s2 : Same H (upd H1 l (.lst [])) := Same.of_upd s1 (none_back s1 hl)
    have hwl : (upd H1 l (.lst [])) wd = _ := (upd_ne (ne_new hw hl)).trans hw
    refine ⟨_, rfl, _, _, rfl, rfl, _, rfl, _, _, rfl, ⟨?_, ?_, ?_, ?_⟩, for_range (fun i σ H' => ∃ y5 y6 y7 y8 us ts, σ = [some (.ref p), some (.ref wd), some (.int rc), some (.int (1 * rc)), some (.ref l), y5, y6, y7, y8] ∧ Same H H' ∧ H' wd = some (.ins (glA "Wedge" K) dw [("own_core", .ref p), ("own_width", .int 1), ("own_height", .int hg), ("own_reach", .int rc)]) ∧ H' l = some (.lst us) ∧ Paired (TrAt H') us ts ∧ us.length ≤ 100 * i ∧ RetP c rc (1 - rc + i) (1 - rc) ts)
      ⟨none, none, none, none, [], [], rfl, s2, hwl, upd_same, .nil, Nat.zero_le _, ?_⟩ (fun i σ H2 hi hP => ?_) (fun σ H2 hP => ?_)⟩
    · omega
    · omega
    · omega
    · omega
    · rw [Int.natCast_zero, Int.add_zero]
      exact RetP.start c rc
    · obtain ⟨y5, y6, y7, y8, us, ts, rfl, s, hw2, hl2, hps, hul, hret⟩ := hP
      have hi2 : (i : Int) < 2 * rc - 1 := by
        rw [Int.one_mul] at hi
        omega
      refine ⟨_, rfl, _, _, rfl, rfl, _, rfl, _, _, rfl, ⟨?_, ?_, ?_, ?_⟩, for_range (fun j σ H' => ∃ y6 y7 y8 us ts, σ = [some (.ref p), some (.ref wd), some (.int rc), some (.int (1 * rc)), some (.ref l), some (.int (1 - 1 * rc + i)), y6, y7, y8] ∧ Same H H' ∧ H' wd = some (.ins (glA "Wedge" K) dw [("own_core", .ref p), ("own_width", .int 1), ("own_height", .int hg), ("own_reach", .int rc)]) ∧ H' l = some (.lst us) ∧ Paired (TrAt H') us ts ∧ us.length ≤ 100 * i + j ∧ RetP c rc (1 - rc + i) (1 - rc + j) ts)
        ⟨y6, y7, y8, us, ts, rfl, s, hw2, hl2, hps, by omega, ?_⟩ (fun j σ H3 hj hP => ?_) (fun σ H3 hP => ?_)⟩
      · omega
      · omega
      · omega
      · omega
      · rw [Int.natCast_zero, Int.add_zero]
        exact hret
      · obtain ⟨z6, z7, z8, us, ts, rfl, s, hw2, hl2, hps, hul, hret⟩ := hP
        have hj2 : (j : Int) < 2 * rc - 1 := by omega
        have hl0 : H l = none := none_back s1 hl
        refine ⟨_, rfl, _, rfl, _, rfl, _, rfl, by show 2 ≤ sizeLine; decide, fun z hz => ?_⟩
        have ex : 1 - 1 * rc + (i : Int) = 1 - rc + i := by omega
        have s3 : Same H3 (upd H3 z (.tup [.int (1 - 1 * rc + i), .int (1 - rc + j)])) := same_upd hz
        have en2 : EndsB c hg (1 - 1 * rc + i, 1 - rc + j) B := by
          rw [ex]
          exact en _ _ (by rcases ab_cases (1 - rc + (i : Int)) with k | k <;> omega) (by rcases ab_cases (1 - rc + (j : Int)) with k | k <;> omega)
        have smy : Sl (1 - rc + (j : Int)) := Sm.l (Sm.of (n := 10) (by unfold Bt; omega) (by decide) (by decide))
        have lz : l ≠ z := ne_new hl2 hz
        refine ⟨p, wd, z, c, hg, rc, B, _, _, rfl, hp.keep (Same.fix (Same.tr s s3)), f.ok.ne, ⟨dw, s3 _ _ hw2⟩, upd_same, en2, okc, smy, fun H4 u fr s4 hf hfa => ?_⟩
        have s34 : Same H3 H4 := Same.tr s3 s4
        have nx : ∀ ts' us', H4 l = some (.lst us') → Paired (TrAt H4) us' ts' → us'.length ≤ 100 * i + (j + 1) → RetP c rc (1 - rc + i) (1 - rc + j + 1) ts' → True := fun _ _ _ _ _ _ => trivial
        cases fr with
        | back n =>
          have hp1 : Per c.pass (1 - rc + (i : Int), 1 - rc + (j : Int)) n := by
            have := fate_back hf
            rwa [ex] at this
          refine ⟨u, _, rfl, SqT.of hfa, rfl, _, _, rfl, _, _, rfl, rfl, ?_⟩
          refine ⟨_, rfl, rfl, _, rfl, iteT ?_⟩
          refine ⟨_, rfl, .inl ⟨rfl, _, SqL.of (s34 _ _ hl2)⟩, _, rfl, _, rfl, _, rfl, by show 3 ≤ sizeLine; decide, fun e he => ?_⟩
          have s5 : Same H4 (upd H4 e (.tup [.int (1 - 1 * rc + i), .int (1 - rc + j), .int (n : Nat)])) := same_upd he
          refine ⟨l, us, _, rfl, rfl, s5 _ _ (s34 _ _ hl2), Nat.lt_of_le_of_lt (by omega : us.length ≤ 100000) (by decide), ?_⟩
          have fx : Fixes H4 (upd (upd H4 e (.tup [.int (1 - 1 * rc + i), .int (1 - rc + j), .int (n : Nat)])) l (.lst (us ++ [.ref e]))) := fun b o hb e1 => by
            have nb : b ≠ l := by
              rintro rfl
              rw [s34 _ _ hl2] at e1
              cases e1
              cases hb
            rw [upd_ne nb]
            exact s5 _ _ e1
          have le : e ≠ l := fun z => by
            rw [z, s34 _ _ hl2] at he
            cases he
          refine ⟨_, _, _, _, ts ++ [(1 - rc + (i : Int), 1 - rc + (j : Int), n)], rfl, Same.of_upd (Same.tr s (Same.tr s34 s5)) hl0, ?_, upd_same, ?_, ?_, ?_⟩
          · have lw : wd ≠ l := fun z => by
              rw [z, hl2] at hw2
              cases hw2
            rw [upd_ne lw]
            exact s5 _ _ (s34 _ _ hw2)
          · refine paired_app (Paired.mapP hps fun v q z => (z.keep (Same.fix s34)).keep fx) (.cons ⟨e, rfl, ?_⟩ .nil)
            rw [upd_ne le, upd_same, ex]
          · rw [List.length_append]
            show us.length + 1 ≤ _
            omega
          · have := hret.add hp1
            rw [show (1 : Int) - rc + ((j + 1 : Nat) : Int) = 1 - rc + j + 1 by omega]
            exact this
        | away n =>
          have hp1 : ∀ n, ¬ Per c.pass (1 - rc + (i : Int), 1 - rc + (j : Int)) n := fun m hm => by
            rw [ex] at hf
            have := fate_per f.ok hhg.high hm hf
            cases this
          refine ⟨u, _, rfl, SqT.of hfa, rfl, _, _, rfl, _, _, rfl, rfl, ?_⟩
          refine ⟨_, rfl, rfl, _, rfl, iteF ?_⟩
          refine ⟨_, _, _, us, ts, rfl, Same.tr s s34, s34 _ _ hw2, s34 _ _ hl2, Paired.mapP hps fun v q z => z.keep (Same.fix s34), by omega, ?_⟩
          rw [show (1 : Int) - rc + ((j + 1 : Nat) : Int) = 1 - rc + j + 1 by omega]
          exact hret.skip hp1
      · obtain ⟨z6, z7, z8, us, ts, rfl, s, hw2, hl2, hps, hul, hret⟩ := hP
        refine ⟨_, _, _, _, us, ts, rfl, s, hw2, hl2, hps, by omega, ?_⟩
        have e1 : (1 : Int) - rc + ((rc - (1 - rc)).toNat : Nat) = rc := by omega
        rw [e1] at hret
        rw [show (1 : Int) - rc + ((i + 1 : Nat) : Int) = 1 - rc + i + 1 by omega]
        exact hret.next
    · obtain ⟨y5, y6, y7, y8, us, ts, rfl, s, hw2, hl2, hps, hul, hret⟩ := hP
      have e1 : (1 : Int) - rc + ((1 * rc - (1 - 1 * rc)).toNat : Nat) = rc := by omega
      rw [e1] at hret
      exact ⟨_, rfl, q _ l us ts s hl2 hps hret.fin (by omega) (none_back s1 hl)⟩
end
end K5
set_option Elab.async false
set_option linter.all false
set_option maxRecDepth 100000
set_option maxHeartbeats 4000000
namespace K5
open PySem PySem.Spec PyProof.Rows L2
structure WSt where
  ps : List Stp
  e : Int
  n : Int
  s : Int
  f : Int
  t : Int
def WorAt (K : Fg) (H : Hp) (wd pl : Addr) (w : WSt) : Prop := ∃ dx u lo us, H wd = some (.ins (glA "Word" K) dx [("parts", .ref pl), ("upper", .ref u), ("lower", .ref lo)]) ∧ H pl = some (.lst us) ∧ StepsAt K H us w.ps ∧ H u = some (.tup [.int w.e, .int w.n, .int w.s]) ∧ H lo = some (.tup [.int w.f, .int w.t])
/-- all but the word and its list stand as they were -/
def SameX (wd pl : Addr) (H H' : Hp) : Prop := ∀ b u, b ≠ wd → b ≠ pl → H b = some u → H' b = some u
theorem Same.x {wd pl : Addr} {H H' : Hp} (h : Same H H') : SameX wd pl H H' := fun b u _ _ e => h b u e
theorem SameX.tr {wd pl : Addr} {H H1 H2 : Hp} (a : SameX wd pl H H1) (b : SameX wd pl H1 H2) : SameX wd pl H H2 := fun c u h1 h2 e => b c u h1 h2 (a c u h1 h2 e)
theorem SameX.updW {wd pl : Addr} {H : Hp} {o : HO} : SameX wd pl H (upd H wd o) := fun b u h1 _ e => by rw [upd_ne h1]; exact e
theorem SameX.updP {wd pl : Addr} {H : Hp} {o : HO} : SameX wd pl H (upd H pl o) := fun b u _ h2 e => by rw [upd_ne h2]; exact e
theorem SameX.fix {K : Fg} {wd pl : Addr} {H H' : Hp} (h : SameX wd pl H H') {w : WSt} (a : WorAt K H wd pl w) : Fixes H H' := fun b o hb e => by
  obtain ⟨dx, u, lo, us, h1, h2, _⟩ := a
  refine h b o ?_ ?_ e
  · rintro rfl
    rw [h1] at e
    cases e
    cases hb
  · rintro rfl
    rw [h2] at e
    cases e
    cases hb
/-- what follows when only new things were laid -/
theorem WorAt.same {K : Fg} {wd pl : Addr} {H H' : Hp} {w : WSt} (h : WorAt K H wd pl w) (s : Same H H') : WorAt K H' wd pl w := by
  obtain ⟨dx, u, lo, us, h1, h2, h3, h4, h5⟩ := h
  exact ⟨dx, u, lo, us, s _ _ h1, s _ _ h2, h3.keep (Same.fix s), s _ _ h4, s _ _ h5⟩
section
variable {P : Program} {w : World} {K : Fg} {mg : Str → Option Value} {base : Heap}
theorem ok_inverse_modulo (T : TX K mg) : Fx P w K mg base 1 (d_inverse_modulo.ad K) (fun vs H Q _ => ∃ n : Int, vs = [.int n, .int 1] ∧ ∀ H', Same H H' → Q (.int 0) H') := by
  refine fx_mk T fd_inverse_modulo rfl sc_inverse_modulo bd_inverse_modulo (fun vs H Q E h => ?_) (fun cdv A outer s H vs Q E hr h => ?_)
  · obtain ⟨n, rfl, _⟩ := h
    rfl
  · obtain ⟨n, rfl, q⟩ := h
    refine ⟨_, (pss_cons (ps_par (i := 2) (j := 3) rfl sc_inverse_modulo.nd rfl rfl (by decide) rfl rfl (pa_cons (pv 1) (pa_cons (pe_op op_mod (pv 0) (pv 1)) pa_nil)) rfl) (pss_cons (ps_asg (pe_tup (pa_cons pe_int (pa_cons pe_int pa_nil))) (pg_tup rfl (pgs_cons (pg_name (i := 4) sc_inverse_modulo.nd rfl (.inl rfl)) (pgs_cons (pg_name (i := 5) sc_inverse_modulo.nd rfl (.inl rfl)) pgs_nil)))) (pss_cons (ps_while PassesOwn.never (pt_cmpR op_gt (pv 3) pe_int (nomark _)) (pss_cons (ps_set (i := 6) sc_inverse_modulo.nd rfl (.inl rfl) (pe_op op_fdivW (pv 2) (pv 3))) (pss_cons (ps_par (i := 2) (j := 3) rfl sc_inverse_modulo.nd rfl rfl (by decide) rfl rfl (pa_cons (pv 3) (pa_cons (pe_op op_sub (pv 2) (pe_op op_mulW (pv 6) (pv 3))) pa_nil)) rfl) (pss_one (ps_par (i := 4) (j := 5) rfl sc_inverse_modulo.nd rfl rfl (by decide) rfl rfl (pa_cons (pv 5) (pa_cons (pe_op op_sub (pv 4) (pe_op op_mulW (pv 6) (pv 5))) pa_nil)) rfl))))) (pss_one (ps_ret (pe_op op_mod (pv 5) (pv 1))))))), ?_⟩
    refine ⟨_, rfl, _, rfl, _, rfl, _, _, rfl, rfl, by show (0 : Int) < 1; decide, _, _, rfl, ?_⟩
    refine ⟨by show 2 ≤ sizeLine; decide, fun z hz => ⟨z, _, rfl, SqT.of upd_same, rfl, _, _, rfl, _, _, rfl, rfl, ?_⟩⟩
    refine ⟨fun m σ H' => σ = [some (.int n), some (.int 1), some (.int 1), some (.int (n % 1)), some (.int 0), some (.int 1), none] ∧ Same H H', ⟨0, rfl, same_upd hz⟩, fun m σ H' hW => ?_⟩
    obtain ⟨rfl, s1⟩ := hW
    refine ⟨_, rfl, _, _, rfl, rfl, _, rfl, iteE (decide_eq_false (by rw [Int.emod_one]; decide)) ?_⟩
    exact ⟨_, rfl, _, rfl, _, _, rfl, rfl, by show (0 : Int) < 1; decide, q _ s1⟩
def spWoI (K : Fg) : Sp := fun vs H Q _ => ∃ x dx, vs = [.ref x] ∧ H x = some (.ins (glA "Word" K) dx []) ∧ ∀ H' pl, (∀ b u, b ≠ x → H b = some u → H' b = some u) → H pl = none → WorAt K H' x pl ⟨[], 1, 0, 0, 1, 0⟩ → Q .non H'
theorem ok_Word_init (T : TX K mg) : Fx P w K mg base 1 (d_Word_init.ad K) (spWoI K) := by
  refine fx_mk T fd_Word_init rfl sc_Word_init bd_Word_init (fun vs H Q E h => ?_) (fun cdv A outer s H vs Q E hr h => ?_)
  · obtain ⟨x, dx, rfl, _⟩ := h
    rfl
  · obtain ⟨x, dx, rfl, hx, q⟩ := h
    refine ⟨_, (pss_cons (ps_fld (pv 0) (pe_lst pa_nil) rfl) (pss_cons (ps_fld (pv 0) (pe_tup (pa_cons pe_int (pa_cons pe_int (pa_cons pe_int pa_nil)))) rfl) (pss_one (ps_fld (pv 0) (pe_tup (pa_cons pe_int (pa_cons pe_int pa_nil))) rfl)))), ?_⟩
    have cW := T.c "Word"
    refine ⟨Nat.zero_le _, fun pl hpl => ?_⟩
    have xp : x ≠ pl := ne_new hx hpl
    refine ⟨_, rfl, x, _, dx, _, rfl, (upd_ne xp).trans hx, cW, T.a "Word" "parts", by decide, ?_⟩
    refine ⟨by show 3 ≤ sizeLine; decide, fun u hu => ?_⟩
    have xu : x ≠ u := ne_new upd_same hu
    refine ⟨_, rfl, x, _, dx, _, rfl, (upd_ne xu).trans upd_same, cW, T.a "Word" "upper", by show 1 < 1000; decide, ?_⟩
    refine ⟨by show 2 ≤ sizeLine; decide, fun lo hlo => ?_⟩
    have xl : x ≠ lo := ne_new upd_same hlo
    refine ⟨_, rfl, x, _, dx, _, rfl, (upd_ne xl).trans upd_same, cW, T.a "Word" "lower", by show 2 < 1000; decide, ?_⟩
    have pu : pl ≠ u := fun z => by
      rw [← z, upd_ne xp.symm, upd_same] at hu
      cases hu
    have plo : pl ≠ lo := fun z => by
      rw [← z, upd_ne xp.symm, upd_ne pu, upd_ne xp.symm, upd_same] at hlo
      cases hlo
    have ulo : u ≠ lo := fun z => by
      rw [← z, upd_ne xu.symm, upd_same] at hlo
      cases hlo
    refine q _ pl (fun b o nb hb => ?_) hpl ⟨dx, u, lo, [], upd_same, ?_, .nil, ?_, ?_⟩
    · have n1 : b ≠ pl := ne_new hb hpl
      have n2 : b ≠ u := fun z => by
        rw [← z, upd_ne nb, upd_ne n1, hb] at hu
        cases hu
      have n3 : b ≠ lo := fun z => by
        rw [← z, upd_ne nb, upd_ne n2, upd_ne nb, upd_ne n1, hb] at hlo
        cases hlo
      rw [upd_ne nb, upd_ne n3, upd_ne nb, upd_ne n2, upd_ne nb, upd_ne n1]
      exact hb
    · rw [upd_ne xp.symm, upd_ne plo, upd_ne xp.symm, upd_ne pu, upd_ne xp.symm, upd_same]
    · rw [upd_ne xu.symm, upd_ne ulo, upd_ne xu.symm, upd_same]
    · rw [upd_ne xl.symm, upd_same]
/-- the word's upper and lower parts are laid anew -/
theorem put_upper {H : Hp} {wd pl u : Addr} {w : WSt} {e n s : Int} (T : TX K mg) (h : WorAt K H wd pl w) (hu : H u = some (.tup [.int e, .int n, .int s])) {Q : Hp → Prop} (q : ∀ H', SameX wd pl H H' → WorAt K H' wd pl { w with e := e, n := n, s := s } → Q H') :
    ∃ a C dx fs, V.ref wd = .ref a ∧ H a = some (.ins C dx fs) ∧ Cls K C ∧ NoAttr K C "upper" ∧ fs.length < 1000 ∧ Q (upd H a (.ins C dx (putF "upper" (.ref u) fs))) := by
  obtain ⟨dx, u0, lo, us, h1, h2, h3, h4, h5⟩ := id h
  have sx : SameX wd pl H (upd H wd (.ins (glA "Word" K) dx (putF "upper" (.ref u) [("parts", .ref pl), ("upper", .ref u0), ("lower", .ref lo)]))) := SameX.updW
  have fx := SameX.fix sx h
  have np : pl ≠ wd := fun z => by rw [z, h1] at h2; cases h2
  exact ⟨wd, _, dx, _, rfl, h1, T.c "Word", T.a "Word" "upper", by show 3 < 1000; decide, q _ sx ⟨dx, u, lo, us, upd_same, (upd_ne np).trans h2, h3.keep fx, fx _ _ rfl hu, fx _ _ rfl h5⟩⟩
theorem put_lower {H : Hp} {wd pl u : Addr} {w : WSt} {f t : Int} (T : TX K mg) (h : WorAt K H wd pl w) (hu : H u = some (.tup [.int f, .int t])) {Q : Hp → Prop} (q : ∀ H', SameX wd pl H H' → WorAt K H' wd pl { w with f := f, t := t } → Q H') :
    ∃ a C dx fs, V.ref wd = .ref a ∧ H a = some (.ins C dx fs) ∧ Cls K C ∧ NoAttr K C "lower" ∧ fs.length < 1000 ∧ Q (upd H a (.ins C dx (putF "lower" (.ref u) fs))) := by
  obtain ⟨dx, u0, lo, us, h1, h2, h3, h4, h5⟩ := id h
  have sx : SameX wd pl H (upd H wd (.ins (glA "Word" K) dx (putF "lower" (.ref u) [("parts", .ref pl), ("upper", .ref u0), ("lower", .ref lo)]))) := SameX.updW
  have fx := SameX.fix sx h
  have np : pl ≠ wd := fun z => by rw [z, h1] at h2; cases h2
  exact ⟨wd, _, dx, _, rfl, h1, T.c "Word", T.a "Word" "lower", by show 3 < 1000; decide, q _ sx ⟨dx, u0, u, us, upd_same, (upd_ne np).trans h2, h3.keep fx, fx _ _ rfl h4, fx _ _ rfl hu⟩⟩
theorem get_parts {H : Hp} {wd pl : Addr} {w : WSt} (T : TX K mg) (h : WorAt K H wd pl w) {Q : VK} (q : Q (.ref pl) H) : ∃ a C dx fs v, V.ref wd = .ref a ∧ H a = some (.ins C dx fs) ∧ Cls K C ∧ NoAttr K C "parts" ∧ fs.lookup ("parts" : Str) = some v ∧ Q v H := by
  obtain ⟨dx, u0, lo, us, h1, h2, h3, h4, h5⟩ := h
  exact ⟨wd, _, dx, _, _, rfl, h1, T.c "Word", T.a "Word" "parts", rfl, q⟩
theorem get_upper {H : Hp} {wd pl : Addr} {w : WSt} (T : TX K mg) (h : WorAt K H wd pl w) {Q : VK} (q : ∀ u, H u = some (.tup [.int w.e, .int w.n, .int w.s]) → Q (.ref u) H) : ∃ a C dx fs v, V.ref wd = .ref a ∧ H a = some (.ins C dx fs) ∧ Cls K C ∧ NoAttr K C "upper" ∧ fs.lookup ("upper" : Str) = some v ∧ Q v H := by
  obtain ⟨dx, u0, lo, us, h1, h2, h3, h4, h5⟩ := h
  exact ⟨wd, _, dx, _, _, rfl, h1, T.c "Word", T.a "Word" "upper", rfl, q _ h4⟩
theorem get_lower {H : Hp} {wd pl : Addr} {w : WSt} (T : TX K mg) (h : WorAt K H wd pl w) {Q : VK} (q : ∀ u, H u = some (.tup [.int w.f, .int w.t]) → Q (.ref u) H) : ∃ a C dx fs v, V.ref wd = .ref a ∧ H a = some (.ins C dx fs) ∧ Cls K C ∧ NoAttr K C "lower" ∧ fs.lookup ("lower" : Str) = some v ∧ Q v H := by
  obtain ⟨dx, u0, lo, us, h1, h2, h3, h4, h5⟩ := h
  exact ⟨wd, _, dx, _, _, rfl, h1, T.c "Word", T.a "Word" "lower", rfl, q _ h5⟩
def spWoM (K : Fg) : Sp := fun vs H Q _ => ∃ wd pl w, ∃ a b : Int, vs = [.ref wd, .int a, .int b] ∧ WorAt K H wd pl w ∧ ∀ H', SameX wd pl H H' → WorAt K H' wd pl { w with s := w.s + a, t := w.t + b } → Q .non H'
theorem ok_Word_move (T : TX K mg) : Fx P w K mg base 1 (d_Word_move.ad K) (spWoM K) := by
  refine fx_mk T fd_Word_move rfl sc_Word_move bd_Word_move (fun vs H Q E h => ?_) (fun cdv A outer s H vs Q E hr h => ?_)
  · obtain ⟨wd, pl, w, a, b, rfl, _⟩ := h
    rfl
  · obtain ⟨wd, pl, w, a, b, rfl, hw, q⟩ := h
    refine ⟨_, (pss_cons (ps_fld (pv 0) (pe_tup (pa_cons (pe_ix ix_tup (pe_fld (pv 0) rfl) pe_int (fun _ _ => rfl)) (pa_cons (pe_ix ix_tup (pe_fld (pv 0) rfl) pe_int (fun _ _ => rfl)) (pa_cons (pe_op op_add (pe_ix ix_tup (pe_fld (pv 0) rfl) pe_int (fun _ _ => rfl)) (pv 1)) pa_nil)))) rfl) (pss_one (ps_fld (pv 0) (pe_tup (pa_cons (pe_ix ix_tup (pe_fld (pv 0) rfl) pe_int (fun _ _ => rfl)) (pa_cons (pe_op op_add (pe_ix ix_tup (pe_fld (pv 0) rfl) pe_int (fun _ _ => rfl)) (pv 2)) pa_nil))) rfl))), ?_⟩
    obtain ⟨dx, u, lo, us, h1, h2, h3, h4, h5⟩ := id hw
    have cW := T.c "Word"
    have nU := T.a "Word" "upper"
    have nL := T.a "Word" "lower"
    refine ⟨_, rfl, wd, _, dx, _, _, rfl, h1, cW, nU, rfl, u, _, _, _, rfl, rfl, SqT.of h4, rfl, _, rfl, wd, _, dx, _, _, rfl, h1, cW, nU, rfl, u, _, _, _, rfl, rfl, SqT.of h4, rfl, _, rfl, wd, _, dx, _, _, rfl, h1, cW, nU, rfl, u, _, _, _, rfl, rfl, SqT.of h4, rfl, _, rfl, _, _, rfl, rfl, by show 3 ≤ sizeLine; decide, fun z hz => ?_⟩
    have s1 : Same H (upd H z (.tup [.int w.e, .int w.n, .int (w.s + a)])) := same_upd hz
    refine ⟨_, rfl, put_upper T (hw.same s1) upd_same fun H2 x2 w2 => ?_⟩
    obtain ⟨dx, u, lo, us, h1, h2, h3, h4, h5⟩ := id w2
    refine ⟨_, rfl, wd, _, dx, _, _, rfl, h1, cW, nL, rfl, lo, _, _, _, rfl, rfl, SqT.of h5, rfl, _, rfl, wd, _, dx, _, _, rfl, h1, cW, nL, rfl, lo, _, _, _, rfl, rfl, SqT.of h5, rfl, _, rfl, _, _, rfl, rfl, by show 2 ≤ sizeLine; decide, fun y hy => ?_⟩
    have s2 : Same H2 (upd H2 y (.tup [.int w.f, .int (w.t + b)])) := same_upd hy
    exact ⟨_, rfl, put_lower T (w2.same s2) upd_same fun H3 x3 w3 => q _ (SameX.tr (SameX.tr (Same.x s1) x2) (SameX.tr (Same.x s2) x3)) w3⟩
end
end K5
set_option Elab.async false
set_option linter.all false
set_option maxRecDepth 100000
set_option maxHeartbeats 4000000
namespace K5
open PySem PySem.Spec PyProof.Rows L2
def pm (i : Int) : Prop := i = 1 ∨ i = -1
theorem pm.sm {i : Int} (h : pm i) : Sm i := by rcases h with rfl | rfl <;> (unfold Sm; decide)
theorem pm.ne {i : Int} (h : pm i) : i ≠ 0 := by rcases h with rfl | rfl <;> decide
inductive WS : WSt → Stp → WSt → Prop where
  | x {w : WSt} {r : List Int} (hr : Bend r) (hl : r.length ≤ 50) (ok : OkB w.t w.f r) (ok2 : ∀ x ∈ beh w.t w.f r, Sm x) (ht : Sm w.t) (he : pm w.e) (hf : pm w.f) (hp : w.ps = [] ∨ ∃ l a b c d, w.ps = l ++ [.t a b c d]) :
      WS w (.x r) ⟨w.ps ++ [.x (more w.e w.t w.f r)], w.e, w.n + i1 w.t w.f r, w.s + i0 w.t w.f r, w.f, w.t⟩
  | q {w : WSt} {d : Int} (he : pm w.e) (hf : pm w.f) (hn : Sm w.n) (hs : Sm w.s) (ht : Sm w.t) (hd : Sm d) (hD : Sm (w.n + d * w.f)) (hp : ∃ l r, w.ps = l ++ [.x r]) :
      WS w (.t 0 (-1) 1 d) ⟨w.ps ++ [.t 0 (-1) 1 (w.e * (w.n + d * w.f))], w.f, 0, -w.t, w.e, w.s + d * w.t⟩
  | e {w : WSt} {e f : Int} (h1 : pm e) (h2 : pm f) (he : pm w.e) (hf : pm w.f) (hn : Sm w.n) (hs : Sm w.s) (ht : Sm w.t) : WS w (.t e 0 0 f) ⟨w.ps, e * w.e, e * w.n, e * w.s, f * w.f, f * w.t⟩
  | m {w : WSt} {a b : Int} : WS w (.m a b) { w with s := w.s + a, t := w.t + b }
theorem drop_len {α : Type} {l : List α} {n : Nat} (h : 3 ≤ l.length) (e : l.drop 2 = []) : False := by
  have := congrArg List.length e
  rw [List.length_drop] at this
  simp at this
  omega
section
variable {P : Program} {w : World} {K : Fg} {mg : Str → Option Value} {base : Heap}
def spWoB (K : Fg) : Sp := fun vs H Q _ => ∃ wd pl r w w' rr, vs = [.ref wd, .ref r] ∧ WorAt K H wd pl w ∧ RuleAt K H r rr ∧ WS w (.x rr) w' ∧ w.ps.length ≤ 100 ∧ ∀ H', SameX wd pl H H' → WorAt K H' wd pl w' → Q .non H'
theorem ok_Word_bend (T : TX K mg) : Fx P w K mg base 5 (d_Word_bend.ad K) (spWoB K) := by
  refine fx_mk T fd_Word_bend rfl sc_Word_bend bd_Word_bend (fun vs H Q E h => ?_) (fun cdv A outer s H vs Q E hr h => ?_)
  · obtain ⟨wd, pl, r, w1, w2, rr, rfl, _⟩ := h
    rfl
  · obtain ⟨wd, pl, r, w1, w2, rr, rfl, hw, hr1, hws, hpl, q⟩ := h
    cases hws with
    | x hB hl ok ok2 ht he hf hp =>
    refine ⟨_, (pss_cons (ps_asg (pe_fld (pv 0) rfl) (pg_tup rfl (pgs_cons (pg_name (i := 2) sc_Word_bend.nd rfl (.inl rfl)) (pgs_cons (pg_name (i := 3) sc_Word_bend.nd rfl (.inl rfl)) (pgs_cons (pg_name (i := 4) sc_Word_bend.nd rfl (.inl rfl)) pgs_nil))))) (pss_cons (ps_asg (pe_fld (pv 0) rfl) (pg_tup rfl (pgs_cons (pg_name (i := 5) sc_Word_bend.nd rfl (.inl rfl)) (pgs_cons (pg_name (i := 6) sc_Word_bend.nd rfl (.inl rfl)) pgs_nil)))) (pss_cons (ps_set (i := 7) sc_Word_bend.nd rfl (.inl rfl) (pe_me (ok_Rule_behind T) (T.c "Rule") (T.me "Rule" "behind") hr (by decide) (pv 1) (pa_cons (pe_new (ok_Rule_init T) (T.m "Rule") (T.g "Rule") hr (by decide) (by rfl) (pa_cons (pe_lst (pa_cons (pv 6) (pa_cons (pv 5) pa_nil))) pa_nil)) pa_nil))) (pss_cons (ps_fld (pv 0) (pe_tup (pa_cons (pv 2) (pa_cons (pe_op op_add (pv 3) (pe_ixO (T.sp "Rule" "__getitem__") (ok_Rule_getitem T).raw (hr.mono (by decide)) pass0 (pv 7) pe_int)) (pa_cons (pe_op op_add (pv 4) (pe_ixO (T.sp "Rule" "__getitem__") (ok_Rule_getitem T).raw (hr.mono (by decide)) pass0 (pv 7) pe_int)) pa_nil)))) rfl) (pss_cons (ps_set (i := 8) sc_Word_bend.nd rfl (.inl rfl) (pe_op (op_rmulO (T.sp "Rule" "__mul__").1 (T.sp "Rule" "__rmul__") T.sfi T.sin (ok_Rule_rmul T).raw (hr.mono (by decide)) pass0) (pv 2) (pe_new (ok_Rule_init T) (T.m "Rule") (T.g "Rule") hr (by decide) (by rfl) (pa_cons (pe_lst (pa_cons pe_int (pa_cons pe_int (StX.pa_star (pe_slice sl_tupA (pe_fld (pv 7) rfl) (po_some pe_int) po_none) pa_nil)))) pa_nil)))) (pss_cons (ps_if (PW.pt (pw_and (pt_cmpR op_gt (pe_pr (ok_Rule_degree T) (T.c "Rule") (T.pr "Rule" "degree") hr (by decide) (pv 8) rfl) pe_int (nomark _)) (pw_and (pt_cmpR op_gt (pe_callB call_len_seq (by rfl) (T.r "len") bi_len (pa_cons (pe_fld (pv 0) rfl) pa_nil)) pe_int (nomark _)) (pw_and1 (pt_cmpR op_eq (pe_ix ix_tup (pe_ix ix_list (pe_fld (pv 0) rfl) (pe_un un_neg pe_int) (fun _ _ => rfl)) pe_int (fun _ _ => rfl)) pe_str (nomark _)))))) (pss_one ps_never) pss_nil) (pss_one (ps_if (pt_cmpR op_gt (pe_pr (ok_Rule_degree T) (T.c "Rule") (T.pr "Rule" "degree") hr (by decide) (pv 8) rfl) pe_int (nomark _)) (pss_one (ps_expr (pe_bm PySem.F.plainAttrs_list PySem.F.slot_list_append PySem.F.type_list_append mt_append (pe_fld (pv 0) rfl) (pa_cons (pe_tup (pa_cons pe_str (pa_cons (pv 8) pa_nil))) pa_nil)))) pss_nil)))))))), ?_⟩
    have cW := T.c "Word"
    have cR := T.c "Rule"
    have nN := T.a "Rule" "own_numbers"
    have bl := beh_len w1.t w1.f rr
    have bz := beh_nz w1.t w1.f hf.ne (bend_nz hB)
    have l3 := bend_len hB
    have mB := more_bend he.ne hf.ne hB (t := w1.t)
    -- upper, lower
    have nU := T.a "Word" "upper"
    have nL := T.a "Word" "lower"
    have nP := T.a "Word" "parts"
    obtain ⟨dx0, u, lo, us0, g1, g2, g3, hu, hlo⟩ := id hw
    refine ⟨_, rfl, wd, _, dx0, _, _, rfl, g1, cW, nU, rfl, ?_⟩
    refine ⟨u, _, rfl, SqT.of hu, rfl, _, _, rfl, _, _, rfl, _, _, rfl, rfl, ?_⟩
    refine ⟨_, rfl, wd, _, dx0, _, _, rfl, g1, cW, nL, rfl, ?_⟩
    refine ⟨lo, _, rfl, SqT.of hlo, rfl, _, _, rfl, _, _, rfl, rfl, ?_⟩
    -- inner
    obtain ⟨dr, tr, hr2, _⟩ := id hr1
    refine ⟨_, rfl, r, dr, _, rfl, hr2, rfl, _, rfl, _, rfl, by show 2 ≤ sizeLine; decide, fun l hl0 => ?_⟩
    have s1 : Same H (upd H l (.lst [.int w1.t, .int w1.f])) := same_upd hl0
    refine fun x dx nx nd ne => ⟨x, dx, l, [w1.t, w1.f], rfl, upd_same, (same_mk nx nd) _ _ upd_same, fun H2 k hx => ⟨rfl, ?_⟩⟩
    have s2 : Same H H2 := Same.tr s1 (Same.made nx nd fun b o e nb => k b o nb e)
    have ex : trim [w1.t, w1.f] = [w1.t, w1.f] := trim_snoc w1.f hf.ne [w1.t]
    rw [ex] at hx
    refine ⟨r, x, rr, w1.t, w1.f, rfl, hr1.keep (Same.fix s2), hx, hl, ht, hf.sm, ok, fun H3 inn s3 hin => ?_⟩
    have s03 := Same.tr s2 s3
    rw [trim_nz bz] at hin
    obtain ⟨di, ti, hi1, hi2⟩ := id hin
    -- self.upper
    refine ⟨_, rfl, _, rfl, _, rfl, inn, di, _, rfl, hi1, inn, _, 1, rfl, hin, _, _, rfl, rfl, _, rfl, _, rfl, inn, di, _, rfl, hi1, inn, _, 0, rfl, hin, _, _, rfl, rfl, by show 3 ≤ sizeLine; decide, fun z hz => ?_⟩
    have s4 : Same H3 (upd H3 z (.tup [.int w1.e, .int (w1.n + i1 w1.t w1.f rr), .int (w1.s + i0 w1.t w1.f rr)])) := same_upd hz
    have wz := (hw.same s03).same s4
    refine ⟨_, rfl, put_upper T wz upd_same fun H5 x5 w5 => ?_⟩
    have hin5 := (hin.keep (Same.fix s4)).keep (SameX.fix x5 wz)
    have x05 : SameX wd pl H H5 := SameX.tr (Same.x (Same.tr s03 s4)) x5
    obtain ⟨d5, t5, h51, h52⟩ := id hin5
    -- more
    refine ⟨_, rfl, _, rfl, inn, _, d5, _, _, rfl, h51, cR, nN, rfl, _, rfl, t5, _, rfl, SqT.of h52, fun h => absurd (show HT.sIx ((beh w1.t w1.f rr).map V.int).length 0 (some ((2 : Nat) : Int)) = 0 from h.1) (by rw [HT.sIx_nat, List.length_map, bl]; omega), fun _ y hy => ?_⟩
    have e4 : cutV ((beh w1.t w1.f rr).map V.int) (some 2) none = ((beh w1.t w1.f rr).drop 2).map V.int := (cut_from _ 2 (by rw [List.length_map, bl]; omega)).trans List.map_drop.symm
    have s6 : Same H5 (upd H5 y (.tup (cutV ((beh w1.t w1.f rr).map V.int) (some 2) none))) := same_upd hy
    refine ⟨y, _, rfl, .inl (SqT.of upd_same), ?_⟩
    have dl : ((beh w1.t w1.f rr).drop 2).length ≤ 50 := by rw [List.length_drop, bl]; omega
    refine ⟨?_, fun l2 hl2 => ?_⟩
    · show (V.int 0 :: V.int 0 :: (cutV ((beh w1.t w1.f rr).map V.int) (some 2) none ++ [])).length ≤ sizeLine
      rw [e4, List.append_nil, List.length_cons, List.length_cons, List.length_map]
      exact small2 (by omega)
    refine fun x dx nx nd ne => ⟨x, dx, l2, 0 :: 0 :: (beh w1.t w1.f rr).drop 2, rfl, upd_same, (same_mk nx nd) _ _ ?_, fun H7 k hx7 => ⟨rfl, ?_⟩⟩
    · rw [upd_same]
      show some (HO.lst (V.int 0 :: V.int 0 :: (cutV ((beh w1.t w1.f rr).map V.int) (some 2) none ++ []))) = _
      rw [e4, List.append_nil]
      rfl
    have s67 : Same H5 H7 := Same.tr (Same.of_upd (o := .lst (V.int 0 :: V.int 0 :: (cutV ((beh w1.t w1.f rr).map V.int) (some 2) none ++ []))) s6 (none_back s6 hl2)) (Same.made nx nd fun b o e nb => k b o nb e)
    have dz : nz (0 :: 0 :: (beh w1.t w1.f rr).drop 2) := cons2_nz (drop_nz bz (by omega))
    rw [trim_nz dz] at hx7
    obtain ⟨d7, t7, h71, h72⟩ := id hx7
    refine ⟨_, x, d7, _, rfl, rfl, h71, x, _, w1.e, rfl, hx7, ?_, he.sm, ?_, fun H8 mo s8 hmo => ?_⟩
    · rw [List.length_cons, List.length_cons]; omega
    · intro c hc
      rcases List.mem_cons.mp hc with rfl | hc
      · unfold Sm; decide
      · rcases List.mem_cons.mp hc with rfl | hc
        · unfold Sm; decide
        · exact ok2 c (List.mem_of_mem_drop hc)
    have em : (0 :: 0 :: (beh w1.t w1.f rr).drop 2).map (w1.e * ·) = more w1.e w1.t w1.f rr := rfl
    rw [em, trim_nz (bend_nz mB)] at hmo
    have s58 := Same.tr s67 s8
    have w8 := w5.same s58
    obtain ⟨d8, t8, h81, h82⟩ := id hmo
    have ml : (more w1.e w1.t w1.f rr).length = rr.length := by
      rw [← em, List.length_map, List.length_cons, List.length_cons, List.length_drop, bl]
      omega
    have pos : (0 : Int) < ((more w1.e w1.t w1.f rr).length : Int) - 1 := by rw [ml]; omega
    -- the last statement
    have fin : ∀ σ : L2.St, σ[0]? = some (some (.ref wd)) → σ[8]? = some (some (.ref mo)) → ∀ H9, Same H8 H9 → tIfS (tTest (tOp (rI0 fun i j => .bl (decide (j < i))) (tProp (glA "Rule" K) (spDeg K) [] E0 (tVar 8)) (tC (.int 0)))) (tDrop (tBM K "list" rAppend (tFld K (tVar 0) "parts") (tCons (tTup (tCons (tC (.str "x")) (tCons (tVar 8) tNil))) tNil))) tNext { nx := fun _ H' => Q .non H', rt := Q } σ H9 := fun σ h0 h8 H9 s9 => by
      have hmo9 := hmo.keep (Same.fix s9)
      have w9 := w8.same s9
      obtain ⟨d9, t9, h91, h92⟩ := id hmo9
      refine ⟨_, h8, mo, d9, _, rfl, h91, mo, _, rfl, hmo9, _, _, rfl, rfl, _, rfl, iteD (decide_eq_true pos) ?_⟩
      obtain ⟨dq, uq, loq, usq, k1, k2, k3, k4, k5⟩ := id w9
      refine ⟨_, h0, wd, _, dq, _, _, rfl, k1, cW, nP, rfl, .inl ⟨rfl, _, SqL.of k2⟩, _, h8, by show 2 ≤ sizeLine; decide, fun tp htp => ?_⟩
      have s10 : Same H9 (upd H9 tp (.tup [.str "x", .ref mo])) := same_upd htp
      have w10 := w9.same s10
      obtain ⟨dq, uq, loq, usq2, k1, k2', k3', k4, k5⟩ := id w10
      have lq := paired_len k3'
      refine ⟨pl, usq2, _, rfl, rfl, k2', Nat.lt_of_le_of_lt (by rw [lq]; exact hpl) (by decide), ?_⟩
      have x11 : SameX wd pl (upd H9 tp (.tup [.str "x", .ref mo])) (upd (upd H9 tp (.tup [.str "x", .ref mo])) pl (.lst (usq2 ++ [.ref tp]))) := SameX.updP
      have fx := SameX.fix x11 w10
      have np : pl ≠ wd := fun z => by rw [z, k1] at k2'; cases k2'
      refine q _ (SameX.tr x05 (SameX.tr (Same.x (Same.tr (Same.tr s58 s9) s10)) x11)) ⟨dq, uq, loq, _, (upd_ne np.symm).trans k1, upd_same, paired_app (StepsAt.keep k3' fx) (.cons ⟨tp, mo, rfl, fx _ _ rfl upd_same, (hmo9.keep (Same.fix s10)).keep fx⟩ .nil), fx _ _ rfl k4, fx _ _ rfl k5⟩
    obtain ⟨dq, uq, loq, usq, k1, k2, k3, k4, k5⟩ := id w8
    refine ⟨_, rfl, mo, d8, _, rfl, h81, mo, _, rfl, hmo, _, _, rfl, rfl, _, rfl, iteD (decide_eq_true pos) ?_⟩
    refine ⟨_, rfl, wd, _, dq, _, _, rfl, k1, cW, nP, rfl, pl, usq, rfl, .inl (SqL.of k2), _, _, rfl, rfl, _, rfl, ?_⟩
    rcases hp with hp | ⟨lp, a, b, c, d, hp⟩
    · have e0 : usq = [] := by
        have := paired_len k3
        have hp' : ({ w1 with e := w1.e, n := w1.n + (beh w1.t w1.f rr).getD 1 0, s := w1.s + (beh w1.t w1.f rr).getD 0 0 } : WSt).ps = [] := hp
        rw [hp'] at this
        exact List.length_eq_zero_iff.mp this
      subst e0
      exact iteE rfl (fin _ rfl rfl _ Same.rfl')
    · have lq := paired_len k3
      have hp' : ({ w1 with e := w1.e, n := w1.n + (beh w1.t w1.f rr).getD 1 0, s := w1.s + (beh w1.t w1.f rr).getD 0 0 } : WSt).ps = lp ++ [.t a b c d] := hp
      rw [hp'] at k3 lq
      have lq2 : usq.length = lp.length + 1 := by rw [lq]; simp
      obtain ⟨v, g, pv', rfl, hv⟩ := step_get k3 (i := lp.length) (st := .t a b c d) (by simp)
      have n1 : atI usq (-((1 : Nat) : Int)) = some _ := atI_neg (v := .ref pv') (by rw [lq2]; exact g) (by decide) (by omega)
      refine iteD (decide_eq_true (by rw [lq2]; omega)) ⟨_, rfl, wd, _, dq, _, _, rfl, k1, cW, nP, rfl, _, rfl, pl, usq, _, _, rfl, rfl, SqL.of k2, n1, pv', _, _, _, rfl, rfl, SqT.of hv, rfl, rfl, _, rfl, iteF (fin _ rfl rfl _ Same.rfl')⟩
end
end K5
set_option Elab.async false
set_option linter.all false
set_option maxRecDepth 100000
set_option maxHeartbeats 4000000
namespace K5
open PySem PySem.Spec PyProof.Rows L2
section
variable {P : Program} {w : World} {K : Fg} {mg : Str → Option Value} {base : Heap}
theorem grow {H H3 : Hp} {wd pl : Addr} {w : WSt} {us : List V} (hw : WorAt K H wd pl w) (s : Same H H3) (hus : H pl = some (.lst us)) (v : V) (st : Stp) (hst : ∀ H4, Fixes H3 H4 → StepAt K H4 v st) :
    SameX wd pl H (upd H3 pl (.lst (us ++ [v]))) ∧ WorAt K (upd H3 pl (.lst (us ++ [v]))) wd pl { w with ps := w.ps ++ [st] } := by
  have w3 := hw.same s
  have x : SameX wd pl H3 (upd H3 pl (.lst (us ++ [v]))) := SameX.updP
  have fx := SameX.fix x w3
  obtain ⟨dx, u, lo, us2, h1, h2, h3, h4, h5⟩ := w3
  have e : us2 = us := by
    rw [s _ _ hus] at h2
    cases h2
    rfl
  subst e
  have np : wd ≠ pl := fun z => by rw [← z, h1] at h2; cases h2
  exact ⟨SameX.tr (Same.x s) x, dx, u, lo, _, (upd_ne np).trans h1, upd_same, paired_app (StepsAt.keep h3 fx) (.cons (hst _ fx) .nil), fx _ _ rfl h4, fx _ _ rfl h5⟩
theorem at_st {t : TS} {D : Ends} {σ σ' : L2.St} {H : Hp} (e : σ = σ') (h : t D σ' H) : t D σ H := by rw [e]; exact h
theorem at_nm {i : Nat} {x : V} {σ σ' : L2.St} {H : Hp} {N : L2.St → Hp → Prop} (e : σ.set i (some x) = σ') (h : N σ' H) : gName i x σ H N := by unfold gName; rw [e]; exact h
theorem three {H : Hp} {z1 z2 z3 : Addr} {o1 o2 : HO} (o3 : HO) (h1 : H z1 = none) (h2 : upd H z1 o1 z2 = none) (h3 : upd (upd H z1 o1) z2 o2 z3 = none) : Same H (upd (upd (upd H z1 o1) z2 o2) z3 o3) ∧ (upd (upd (upd H z1 o1) z2 o2) z3 o3) z1 = some o1 ∧ (upd (upd (upd H z1 o1) z2 o2) z3 o3) z2 = some o2 := by
  have s1 : Same H (upd H z1 o1) := same_upd h1
  have s2 : Same H (upd (upd H z1 o1) z2 o2) := Same.of_upd s1 (none_back s1 h2)
  have e1 : (upd (upd H z1 o1) z2 o2) z1 = some o1 := (upd_ne (ne_new upd_same h2)).trans upd_same
  exact ⟨Same.of_upd s2 (none_back s2 h3), (upd_ne (ne_new e1 h3)).trans e1, (upd_ne (ne_new upd_same h3)).trans upd_same⟩
theorem put2 {H : Hp} {wd pl z1 z2 dx u lo : Addr} {w : WSt} {e n s f t : Int} (h : WorAt K H wd pl w) (h1 : H wd = some (.ins (glA "Word" K) dx [("parts", .ref pl), ("upper", .ref u), ("lower", .ref lo)])) (hu : H z1 = some (.tup [.int e, .int n, .int s])) (hl : H z2 = some (.tup [.int f, .int t])) :
    SameX wd pl H (upd (upd H wd (.ins (glA "Word" K) dx (putF "upper" (.ref z1) [("parts", .ref pl), ("upper", .ref u), ("lower", .ref lo)]))) wd (.ins (glA "Word" K) dx (putF "lower" (.ref z2) (putF "upper" (.ref z1) [("parts", .ref pl), ("upper", .ref u), ("lower", .ref lo)])))) ∧
      WorAt K (upd (upd H wd (.ins (glA "Word" K) dx (putF "upper" (.ref z1) [("parts", .ref pl), ("upper", .ref u), ("lower", .ref lo)]))) wd (.ins (glA "Word" K) dx (putF "lower" (.ref z2) (putF "upper" (.ref z1) [("parts", .ref pl), ("upper", .ref u), ("lower", .ref lo)])))) wd pl ⟨w.ps, e, n, s, f, t⟩ := by
  have x : SameX wd pl H (upd (upd H wd (.ins (glA "Word" K) dx (putF "upper" (.ref z1) [("parts", .ref pl), ("upper", .ref u), ("lower", .ref lo)]))) wd (.ins (glA "Word" K) dx (putF "lower" (.ref z2) (putF "upper" (.ref z1) [("parts", .ref pl), ("upper", .ref u), ("lower", .ref lo)])))) := SameX.tr SameX.updW SameX.updW
  have fx := SameX.fix x h
  obtain ⟨dx', u', lo', us, k1, k2, k3, k4, k5⟩ := h
  have np : pl ≠ wd := fun z => by rw [z, h1] at k2; cases k2
  exact ⟨x, dx, z1, z2, us, upd_same, (upd_ne np).trans ((upd_ne np).trans k2), k3.keep fx, fx _ _ rfl hu, fx _ _ rfl hl⟩
def spWoT (K : Fg) : Sp := fun vs H Q _ => ∃ wd pl w w', ∃ a b c d : Int, vs = [.ref wd, .int a, .int b, .int c, .int d] ∧ WorAt K H wd pl w ∧ WS w (.t a b c d) w' ∧ w.ps.length ≤ 100 ∧ ∀ H', SameX wd pl H H' → WorAt K H' wd pl w' → Q .non H'
theorem ok_Word_turn (T : TX K mg) : Fx P w K mg base 2 (d_Word_turn.ad K) (spWoT K) := by
  refine fx_mk T fd_Word_turn rfl sc_Word_turn bd_Word_turn (fun vs H Q E h => ?_) (fun cdv A outer s H vs Q E hr h => ?_)
  · obtain ⟨wd, pl, w1, w2, a, b, c, d, rfl, _⟩ := h
    rfl
  · obtain ⟨wd, pl, w1, w2, a, b, c, d, rfl, hw, hws, hpl, q⟩ := h
    refine ⟨_, (pss_cons (ps_asg (pe_fld (pv 0) rfl) (pg_tup rfl (pgs_cons (pg_name (i := 5) sc_Word_turn.nd rfl (.inl rfl)) (pgs_cons (pg_name (i := 6) sc_Word_turn.nd rfl (.inl rfl)) (pgs_cons (pg_name (i := 7) sc_Word_turn.nd rfl (.inl rfl)) pgs_nil))))) (pss_cons (ps_asg (pe_fld (pv 0) rfl) (pg_tup rfl (pgs_cons (pg_name (i := 8) sc_Word_turn.nd rfl (.inl rfl)) (pgs_cons (pg_name (i := 9) sc_Word_turn.nd rfl (.inl rfl)) pgs_nil)))) (pss_cons (ps_asg (pe_tup (pa_cons (pe_op op_mulW (pv 1) (pv 5)) (pa_cons (pe_op op_add (pe_op op_mulW (pv 1) (pv 6)) (pe_op op_mulW (pv 2) (pv 8))) (pa_cons (pe_op op_mulW (pv 3) (pv 5)) (pa_cons (pe_op op_add (pe_op op_mulW (pv 3) (pv 6)) (pe_op op_mulW (pv 4) (pv 8))) (pa_cons (pe_op op_add (pe_op op_mulW (pv 1) (pv 7)) (pe_op op_mulW (pv 2) (pv 9))) (pa_cons (pe_op op_add (pe_op op_mulW (pv 3) (pv 7)) (pe_op op_mulW (pv 4) (pv 9))) pa_nil))))))) (pg_tup rfl (pgs_cons (pg_name (i := 1) sc_Word_turn.nd rfl (.inl rfl)) (pgs_cons (pg_name (i := 2) sc_Word_turn.nd rfl (.inl rfl)) (pgs_cons (pg_name (i := 3) sc_Word_turn.nd rfl (.inl rfl)) (pgs_cons (pg_name (i := 4) sc_Word_turn.nd rfl (.inl rfl)) (pgs_cons (pg_name (i := 7) sc_Word_turn.nd rfl (.inl rfl)) (pgs_cons (pg_name (i := 9) sc_Word_turn.nd rfl (.inl rfl)) pgs_nil)))))))) (pss_cons (ps_if (PW.pt (pw_and (pt_cmpR op_ne (pv 3) pe_int (nomark _)) (pw_and (pt_cmpR op_gt (pe_callB call_len_seq (by rfl) (T.r "len") bi_len (pa_cons (pe_fld (pv 0) rfl) pa_nil)) pe_int (nomark _)) (pw_and1 (pt_cmpR op_eq (pe_ix ix_tup (pe_ix ix_list (pe_fld (pv 0) rfl) (pe_un un_neg pe_int) (fun _ _ => rfl)) pe_int (fun _ _ => rfl)) pe_str (nomark _)))))) (pss_cons ps_never (pss_one ps_never)) pss_nil) (pss_cons (ps_if (pt_cmpR op_eq (pv 3) pe_int (nomark _)) (pss_cons (ps_asg (pe_tup (pa_cons (pe_tup (pa_cons (pv 1) (pa_cons (pv 2) (pa_cons (pv 7) pa_nil)))) (pa_cons (pe_tup (pa_cons (pv 4) (pa_cons (pv 9) pa_nil))) pa_nil))) (pg_tup rfl (pgs_cons (pg_at (pv 0)) (pgs_cons (pg_at (pv 0)) pgs_nil)))) (pss_one ps_retN)) pss_nil) (pss_cons (ps_set (i := 15) sc_Word_turn.nd rfl (.inl rfl) (pe_ifExp (pt_cmpR op_gt (pv 3) pe_int (nomark _)) pe_int (pe_un un_neg pe_int))) (pss_cons (ps_set (i := 16) sc_Word_turn.nd rfl (.inl rfl) (pe_op op_mulW (pe_op op_sub (pe_op op_mulW (pv 1) (pv 4)) (pe_op op_mulW (pv 2) (pv 3))) (pv 15))) (pss_cons (ps_par (i := 17) (j := 18) rfl sc_Word_turn.nd rfl rfl (by decide) rfl rfl (pa_cons (pe_op op_mulW (pv 15) (pv 3)) (pa_cons (pe_op op_mulW (pv 15) (pv 4)) pa_nil)) rfl) (pss_cons (ps_set (i := 19) sc_Word_turn.nd rfl (.inl rfl) (pe_f (ok_inverse_modulo T) (T.g "inverse_modulo") hr (by decide) (by rfl) (pa_cons (pv 18) (pa_cons (pv 17) pa_nil)))) (pss_cons (ps_expr (pe_bm PySem.F.plainAttrs_list PySem.F.slot_list_append PySem.F.type_list_append mt_append (pe_fld (pv 0) rfl) (pa_cons (pe_tup (pa_cons pe_str (pa_cons (pv 19) (pa_cons (pe_op op_fdivW (pe_op op_sub (pe_op op_mulW (pv 19) (pv 18)) pe_int) (pv 17)) (pa_cons (pv 17) (pa_cons (pv 18) pa_nil)))))) pa_nil))) (pss_one (ps_asg (pe_tup (pa_cons (pe_tup (pa_cons (pv 16) (pa_cons (pe_op op_fdivW (pe_op op_sub (pv 1) (pe_op op_mulW (pv 16) (pv 19))) (pv 17)) (pa_cons (pv 7) pa_nil)))) (pa_cons (pe_tup (pa_cons (pv 15) (pa_cons (pv 9) pa_nil))) pa_nil))) (pg_tup rfl (pgs_cons (pg_at (pv 0)) (pgs_cons (pg_at (pv 0)) pgs_nil))))))))))))))), ?_⟩
    have cW := T.c "Word"
    have nU := T.a "Word" "upper"
    have nL := T.a "Word" "lower"
    have nP := T.a "Word" "parts"
    obtain ⟨dx, u, lo, us, h1, h2, h3, h4, h5⟩ := id hw
    have lus := paired_len h3
    refine ⟨_, rfl, wd, _, dx, _, _, rfl, h1, cW, nU, rfl, ?_⟩
    refine ⟨u, _, rfl, SqT.of h4, rfl, _, _, rfl, _, _, rfl, _, _, rfl, rfl, ?_⟩
    refine ⟨_, rfl, wd, _, dx, _, _, rfl, h1, cW, nL, rfl, ?_⟩
    refine ⟨lo, _, rfl, SqT.of h5, rfl, _, _, rfl, _, _, rfl, rfl, ?_⟩
    refine at_st (σ' := [some (.ref wd), some (.int a), some (.int b), some (.int c), some (.int d), some (.int w1.e), some (.int w1.n), some (.int w1.s), some (.int w1.f), some (.int w1.t), none, none, none, none, none, none, none, none, none, none]) rfl ?_
    have sz : Sm 0 := by unfold Sm; decide
    have so : Sm 1 := by unfold Sm; decide
    have sn : Sm (-1) := by unfold Sm; decide
    cases hws with
    | q he hf hn hs ht hd hD hp =>
      obtain ⟨lp, rp, hp⟩ := hp
      have lus2 : us.length = lp.length + 1 := by rw [lus, hp]; simp
      obtain ⟨v, g, a1, ra1, rfl, hv, _⟩ := step_get h3 (i := lp.length) (st := .x rp) (by rw [hp]; simp)
      have n1 : atI us (-((1 : Nat) : Int)) = some _ := atI_neg (v := .ref a1) (by rw [lus2]; exact g) (by decide) (by omega)
      refine ⟨_, rfl, _, rfl, _, _, rfl, rfl, Sm.mul sz he.sm, ?_⟩
      refine ⟨_, rfl, _, rfl, _, _, rfl, rfl, Sm.mul sz hn, _, rfl, _, rfl, _, _, rfl, rfl, Sm.mul sn hf.sm, _, _, rfl, rfl, ?_⟩
      refine ⟨_, rfl, _, rfl, _, _, rfl, rfl, Sm.mul so he.sm, ?_⟩
      refine ⟨_, rfl, _, rfl, _, _, rfl, rfl, Sm.mul so hn, _, rfl, _, rfl, _, _, rfl, rfl, Sm.mul hd hf.sm, _, _, rfl, rfl, ?_⟩
      refine ⟨_, rfl, _, rfl, _, _, rfl, rfl, Sm.mul sz hs, _, rfl, _, rfl, _, _, rfl, rfl, Sm.mul sn ht, _, _, rfl, rfl, ?_⟩
      refine ⟨_, rfl, _, rfl, _, _, rfl, rfl, Sm.mul so hs, _, rfl, _, rfl, _, _, rfl, rfl, Sm.mul hd ht, _, _, rfl, rfl, by show 6 ≤ sizeLine; decide, fun z6 hz6 => ?_⟩
      have s1 : Same H (upd H z6 (.tup [.int (0 * w1.e), .int (0 * w1.n + -1 * w1.f), .int (1 * w1.e), .int (1 * w1.n + d * w1.f), .int (0 * w1.s + -1 * w1.t), .int (1 * w1.s + d * w1.t)])) := same_upd hz6
      have grow {H3 : Hp} (s : Same H H3) (tp : Addr) (st : Stp) (hst : ∀ H4, Fixes H3 H4 → StepAt K H4 (.ref tp) st) := grow hw s h2 (.ref tp) st hst
      rcases id he with he | he
      · skip
        have eu : ∀ (H2 : Hp) z, H2 z = some (.tup [.int (0 * w1.e), .int (0 * w1.n + -1 * w1.f), .int (1 * w1.e), .int (1 * w1.n + d * w1.f), .int (0 * w1.s + -1 * w1.t), .int (1 * w1.s + d * w1.t)]) → H2 z = some (.tup [.int 0, .int (-w1.f), .int (1), .int (w1.n + d * w1.f), .int (-w1.t), .int (w1.s + d * w1.t)]) := fun H2 z h => by
          rw [h, he]
          simp only [Int.zero_mul, Int.one_mul, Int.neg_mul, Int.zero_add, Int.mul_one]
        refine ⟨z6, _, rfl, SqT.of (eu _ _ upd_same), rfl, _, _, rfl, _, _, rfl, _, _, rfl, _, _, rfl, _, _, rfl, _, _, rfl, rfl, ?_⟩
        refine at_st (σ' := [some (.ref wd), some (.int 0), some (.int (-w1.f)), some (.int (1)), some (.int (w1.n + d * w1.f)), some (.int w1.e), some (.int w1.n), some (.int (-w1.t)), some (.int w1.f), some (.int (w1.s + d * w1.t)), none, none, none, none, none, none, none, none, none, none]) rfl ?_
        refine ⟨_, rfl, rfl, _, rfl, iteT ⟨_, rfl, wd, _, dx, _, _, rfl, s1 _ _ h1, cW, nP, rfl, pl, us, rfl, .inl (SqL.of (s1 _ _ h2)), _, _, rfl, rfl, _, rfl, iteD (decide_eq_true (by omega)) ⟨_, rfl, wd, _, dx, _, _, rfl, s1 _ _ h1, cW, nP, rfl, _, rfl, pl, us, _, _, rfl, rfl, SqL.of (s1 _ _ h2), n1, a1, _, _, _, rfl, rfl, SqT.of (s1 _ _ hv), rfl, rfl, _, rfl, iteF ?_⟩⟩⟩
        refine ⟨_, rfl, rfl, _, rfl, iteF ?_⟩
        refine ⟨_, rfl, _, _, rfl, rfl, _, rfl, iteD rfl ?_⟩
        have eT : ((0 : Int) * (w1.n + d * w1.f) - -w1.f * (1)) * (1) = w1.f := by rw [Int.zero_mul]; omega
        have eT2 : Sm ((0 : Int) * (w1.n + d * w1.f) - -w1.f * (1)) := by
          rcases hf with h | h <;> rw [h, Int.zero_mul] <;> (unfold Sm; decide)
        have eL : 1 * (w1.n + d * w1.f) = w1.e * (w1.n + d * w1.f) := by rw [he]
        have sl : Sm (1 * (w1.n + d * w1.f)) := by
          unfold Sm at hD ⊢
          rw [Int.natAbs_mul]
          exact (Nat.one_mul _).symm ▸ hD
        have so : Sm (1) := by unfold Sm; decide
        have sz : Sm 0 := by unfold Sm; decide
        have sf : Sm (-w1.f) := by rcases hf with h | h <;> rw [h] <;> (unfold Sm; decide)
        refine at_nm (σ' := [some (.ref wd), some (.int 0), some (.int (-w1.f)), some (.int (1)), some (.int (w1.n + d * w1.f)), some (.int w1.e), some (.int w1.n), some (.int (-w1.t)), some (.int w1.f), some (.int (w1.s + d * w1.t)), none, none, none, none, none, some (.int (1)), none, none, none, none]) rfl ?_
        refine ⟨_, rfl, _, rfl, _, _, rfl, rfl, Sm.mul sz hD, _, rfl, _, rfl, _, _, rfl, rfl, Sm.mul sf so, _, _, rfl, rfl, _, rfl, _, _, rfl, rfl, Sm.mul eT2 so, ?_⟩
        refine ⟨_, rfl, _, rfl, _, _, rfl, rfl, Sm.mul so so, _, rfl, _, rfl, _, _, rfl, rfl, Sm.mul so hD, _, _, rfl, ?_⟩
        refine ⟨_, rfl, _, rfl, 1 * (w1.n + d * w1.f), rfl, fun H2 s2 => ?_⟩
        have s02 := Same.tr s1 s2
        refine at_nm (σ' := [some (.ref wd), some (.int 0), some (.int (-w1.f)), some (.int (1)), some (.int (w1.n + d * w1.f)), some (.int w1.e), some (.int w1.n), some (.int (-w1.t)), some (.int w1.f), some (.int (w1.s + d * w1.t)), none, none, none, none, none, some (.int (1)), some (.int ((0 * (w1.n + d * w1.f) - -w1.f * (1)) * (1))), some (.int 1), some (.int (1 * (w1.n + d * w1.f))), some (.int 0)]) rfl ?_
        refine ⟨_, rfl, wd, _, dx, _, _, rfl, s02 _ _ h1, cW, nP, rfl, .inl ⟨rfl, _, SqL.of (s02 _ _ h2)⟩, ?_⟩
        refine ⟨_, rfl, _, rfl, _, rfl, _, _, rfl, rfl, Sm.mul sz sl, _, _, rfl, rfl, _, rfl, _, _, rfl, rfl, ⟨by show (0 : Int) < 1; decide, by show (1 : Int).natAbs.log2 < 9000; decide⟩, _, rfl, _, rfl, by show 5 ≤ sizeLine; decide, fun tp htp => ?_⟩
        have ht5 : (upd H2 tp (.tup [.str "turn", .int 0, .int ((0 * (1 * (w1.n + d * w1.f)) - 1) / 1), .int 1, .int (1 * (w1.n + d * w1.f))])) tp = some (.tup [.str "turn", .int 0, .int (-1), .int 1, .int (w1.e * (w1.n + d * w1.f))]) := by
          rw [upd_same, Int.zero_mul, eL]
          rfl
        have s3 : Same H2 (upd H2 tp (.tup [.str "turn", .int 0, .int ((0 * (1 * (w1.n + d * w1.f)) - 1) / 1), .int 1, .int (1 * (w1.n + d * w1.f))])) := same_upd htp
        have s03 := Same.tr s02 s3
        refine ⟨pl, us, _, rfl, rfl, s03 _ _ h2, Nat.lt_of_le_of_lt (by omega : us.length ≤ 100) (by decide), ?_⟩
        obtain ⟨x4, w4⟩ := grow s03 tp (.t 0 (-1) 1 (w1.e * (w1.n + d * w1.f))) (fun H4 fx => ⟨tp, rfl, fx _ _ rfl ht5⟩)
        refine ⟨_, rfl, _, rfl, _, rfl, _, rfl, _, _, rfl, rfl, Sm.mul (by rw [eT]; exact hf.sm) sz, _, _, rfl, rfl, _, rfl, _, _, rfl, rfl, ⟨by show (0 : Int) < 1; decide, by show (1 : Int).natAbs.log2 < 9000; decide⟩, _, rfl, by show 3 ≤ sizeLine; decide, fun z1 hz1 => ?_⟩
        refine ⟨_, rfl, _, rfl, by show 2 ≤ sizeLine; decide, fun z2 hz2 => ⟨by show 2 ≤ sizeLine; decide, fun z3 hz3 => ?_⟩⟩
        obtain ⟨s5, u1, u2⟩ := three (.tup [.ref z1, .ref z2]) hz1 hz2 hz3
        have w5 := w4.same s5
        have u0 : some (HO.tup [V.int ((0 * (w1.n + d * w1.f) - -w1.f * (1)) * (1)), V.int ((0 - (0 * (w1.n + d * w1.f) - -w1.f * (1)) * (1) * 0) / 1), V.int (-w1.t)]) = some (HO.tup [V.int w1.f, .int 0, .int (-w1.t)]) := by
          rw [eT, Int.mul_zero]
          rfl
        replace u1 := u1.trans u0
        obtain ⟨dx5, u5, lo5, us5, k15, k25, k35, k45, k55⟩ := id w5
        obtain ⟨x6, w7⟩ := put2 w5 k15 u1 u2
        refine ⟨z3, _, rfl, SqT.of upd_same, rfl, _, _, rfl, _, rfl, wd, _, dx5, _, rfl, k15, cW, nU, by show 3 < 1000; decide, _, _, rfl, _, rfl, wd, _, dx5, _, rfl, upd_same, cW, nL, by show 3 < 1000; decide, rfl, ?_⟩
        have xx := SameX.tr (SameX.tr x4 (Same.x s5)) x6
        refine q _ xx ?_
        have ee : w1.e = 1 := he
        rw [ee]
        rw [ee] at w7
        exact w7
      · skip
        have eu : ∀ (H2 : Hp) z, H2 z = some (.tup [.int (0 * w1.e), .int (0 * w1.n + -1 * w1.f), .int (1 * w1.e), .int (1 * w1.n + d * w1.f), .int (0 * w1.s + -1 * w1.t), .int (1 * w1.s + d * w1.t)]) → H2 z = some (.tup [.int 0, .int (-w1.f), .int (-1), .int (w1.n + d * w1.f), .int (-w1.t), .int (w1.s + d * w1.t)]) := fun H2 z h => by
          rw [h, he]
          simp only [Int.zero_mul, Int.one_mul, Int.neg_mul, Int.zero_add, Int.mul_one]
        refine ⟨z6, _, rfl, SqT.of (eu _ _ upd_same), rfl, _, _, rfl, _, _, rfl, _, _, rfl, _, _, rfl, _, _, rfl, _, _, rfl, rfl, ?_⟩
        refine at_st (σ' := [some (.ref wd), some (.int 0), some (.int (-w1.f)), some (.int (-1)), some (.int (w1.n + d * w1.f)), some (.int w1.e), some (.int w1.n), some (.int (-w1.t)), some (.int w1.f), some (.int (w1.s + d * w1.t)), none, none, none, none, none, none, none, none, none, none]) rfl ?_
        refine ⟨_, rfl, rfl, _, rfl, iteT ⟨_, rfl, wd, _, dx, _, _, rfl, s1 _ _ h1, cW, nP, rfl, pl, us, rfl, .inl (SqL.of (s1 _ _ h2)), _, _, rfl, rfl, _, rfl, iteD (decide_eq_true (by omega)) ⟨_, rfl, wd, _, dx, _, _, rfl, s1 _ _ h1, cW, nP, rfl, _, rfl, pl, us, _, _, rfl, rfl, SqL.of (s1 _ _ h2), n1, a1, _, _, _, rfl, rfl, SqT.of (s1 _ _ hv), rfl, rfl, _, rfl, iteF ?_⟩⟩⟩
        refine ⟨_, rfl, rfl, _, rfl, iteF ?_⟩
        refine ⟨_, rfl, _, _, rfl, rfl, _, rfl, iteE rfl ⟨_, rfl, ?_⟩⟩
        have eT : ((0 : Int) * (w1.n + d * w1.f) - -w1.f * (-1)) * (-1) = w1.f := by rw [Int.zero_mul]; omega
        have eT2 : Sm ((0 : Int) * (w1.n + d * w1.f) - -w1.f * (-1)) := by
          rcases hf with h | h <;> rw [h, Int.zero_mul] <;> (unfold Sm; decide)
        have eL : (-1) * (w1.n + d * w1.f) = w1.e * (w1.n + d * w1.f) := by rw [he]
        have sl : Sm ((-1) * (w1.n + d * w1.f)) := by
          unfold Sm at hD ⊢
          rw [Int.natAbs_mul]
          exact (Nat.one_mul _).symm ▸ hD
        have so : Sm (-1) := by unfold Sm; decide
        have sz : Sm 0 := by unfold Sm; decide
        have sf : Sm (-w1.f) := by rcases hf with h | h <;> rw [h] <;> (unfold Sm; decide)
        refine at_nm (σ' := [some (.ref wd), some (.int 0), some (.int (-w1.f)), some (.int (-1)), some (.int (w1.n + d * w1.f)), some (.int w1.e), some (.int w1.n), some (.int (-w1.t)), some (.int w1.f), some (.int (w1.s + d * w1.t)), none, none, none, none, none, some (.int (-1)), none, none, none, none]) rfl ?_
        refine ⟨_, rfl, _, rfl, _, _, rfl, rfl, Sm.mul sz hD, _, rfl, _, rfl, _, _, rfl, rfl, Sm.mul sf so, _, _, rfl, rfl, _, rfl, _, _, rfl, rfl, Sm.mul eT2 so, ?_⟩
        refine ⟨_, rfl, _, rfl, _, _, rfl, rfl, Sm.mul so so, _, rfl, _, rfl, _, _, rfl, rfl, Sm.mul so hD, _, _, rfl, ?_⟩
        refine ⟨_, rfl, _, rfl, (-1) * (w1.n + d * w1.f), rfl, fun H2 s2 => ?_⟩
        have s02 := Same.tr s1 s2
        refine at_nm (σ' := [some (.ref wd), some (.int 0), some (.int (-w1.f)), some (.int (-1)), some (.int (w1.n + d * w1.f)), some (.int w1.e), some (.int w1.n), some (.int (-w1.t)), some (.int w1.f), some (.int (w1.s + d * w1.t)), none, none, none, none, none, some (.int (-1)), some (.int ((0 * (w1.n + d * w1.f) - -w1.f * (-1)) * (-1))), some (.int 1), some (.int ((-1) * (w1.n + d * w1.f))), some (.int 0)]) rfl ?_
        refine ⟨_, rfl, wd, _, dx, _, _, rfl, s02 _ _ h1, cW, nP, rfl, .inl ⟨rfl, _, SqL.of (s02 _ _ h2)⟩, ?_⟩
        refine ⟨_, rfl, _, rfl, _, rfl, _, _, rfl, rfl, Sm.mul sz sl, _, _, rfl, rfl, _, rfl, _, _, rfl, rfl, ⟨by show (0 : Int) < 1; decide, by show (1 : Int).natAbs.log2 < 9000; decide⟩, _, rfl, _, rfl, by show 5 ≤ sizeLine; decide, fun tp htp => ?_⟩
        have ht5 : (upd H2 tp (.tup [.str "turn", .int 0, .int ((0 * ((-1) * (w1.n + d * w1.f)) - 1) / 1), .int 1, .int ((-1) * (w1.n + d * w1.f))])) tp = some (.tup [.str "turn", .int 0, .int (-1), .int 1, .int (w1.e * (w1.n + d * w1.f))]) := by
          rw [upd_same, Int.zero_mul, eL]
          rfl
        have s3 : Same H2 (upd H2 tp (.tup [.str "turn", .int 0, .int ((0 * ((-1) * (w1.n + d * w1.f)) - 1) / 1), .int 1, .int ((-1) * (w1.n + d * w1.f))])) := same_upd htp
        have s03 := Same.tr s02 s3
        refine ⟨pl, us, _, rfl, rfl, s03 _ _ h2, Nat.lt_of_le_of_lt (by omega : us.length ≤ 100) (by decide), ?_⟩
        obtain ⟨x4, w4⟩ := grow s03 tp (.t 0 (-1) 1 (w1.e * (w1.n + d * w1.f))) (fun H4 fx => ⟨tp, rfl, fx _ _ rfl ht5⟩)
        refine ⟨_, rfl, _, rfl, _, rfl, _, rfl, _, _, rfl, rfl, Sm.mul (by rw [eT]; exact hf.sm) sz, _, _, rfl, rfl, _, rfl, _, _, rfl, rfl, ⟨by show (0 : Int) < 1; decide, by show (1 : Int).natAbs.log2 < 9000; decide⟩, _, rfl, by show 3 ≤ sizeLine; decide, fun z1 hz1 => ?_⟩
        refine ⟨_, rfl, _, rfl, by show 2 ≤ sizeLine; decide, fun z2 hz2 => ⟨by show 2 ≤ sizeLine; decide, fun z3 hz3 => ?_⟩⟩
        obtain ⟨s5, u1, u2⟩ := three (.tup [.ref z1, .ref z2]) hz1 hz2 hz3
        have w5 := w4.same s5
        have u0 : some (HO.tup [V.int ((0 * (w1.n + d * w1.f) - -w1.f * (-1)) * (-1)), V.int ((0 - (0 * (w1.n + d * w1.f) - -w1.f * (-1)) * (-1) * 0) / 1), V.int (-w1.t)]) = some (HO.tup [V.int w1.f, .int 0, .int (-w1.t)]) := by
          rw [eT, Int.mul_zero]
          rfl
        replace u1 := u1.trans u0
        obtain ⟨dx5, u5, lo5, us5, k15, k25, k35, k45, k55⟩ := id w5
        obtain ⟨x6, w7⟩ := put2 w5 k15 u1 u2
        refine ⟨z3, _, rfl, SqT.of upd_same, rfl, _, _, rfl, _, rfl, wd, _, dx5, _, rfl, k15, cW, nU, by show 3 < 1000; decide, _, _, rfl, _, rfl, wd, _, dx5, _, rfl, upd_same, cW, nL, by show 3 < 1000; decide, rfl, ?_⟩
        have xx := SameX.tr (SameX.tr x4 (Same.x s5)) x6
        refine q _ xx ?_
        have ee : w1.e = (-1) := he
        rw [ee]
        rw [ee] at w7
        exact w7
    | e k1 k2 he hf hn hs ht =>
      have eu : ∀ (H2 : Hp) z, H2 z = some (.tup [.int (a * w1.e), .int (a * w1.n + 0 * w1.f), .int (0 * w1.e), .int (0 * w1.n + d * w1.f), .int (a * w1.s + 0 * w1.t), .int (0 * w1.s + d * w1.t)]) → H2 z = some (.tup [.int (a * w1.e), .int (a * w1.n), .int 0, .int (d * w1.f), .int (a * w1.s), .int (d * w1.t)]) := fun H2 z h => by
        rw [h, Int.zero_mul, Int.zero_mul, Int.zero_mul, Int.zero_mul, Int.zero_mul, Int.add_zero, Int.add_zero, Int.zero_add, Int.zero_add]
      refine ⟨_, rfl, _, rfl, _, _, rfl, rfl, Sm.mul k1.sm he.sm, ?_⟩
      refine ⟨_, rfl, _, rfl, _, _, rfl, rfl, Sm.mul k1.sm hn, _, rfl, _, rfl, _, _, rfl, rfl, Sm.mul sz hf.sm, _, _, rfl, rfl, ?_⟩
      refine ⟨_, rfl, _, rfl, _, _, rfl, rfl, Sm.mul sz he.sm, ?_⟩
      refine ⟨_, rfl, _, rfl, _, _, rfl, rfl, Sm.mul sz hn, _, rfl, _, rfl, _, _, rfl, rfl, Sm.mul k2.sm hf.sm, _, _, rfl, rfl, ?_⟩
      refine ⟨_, rfl, _, rfl, _, _, rfl, rfl, Sm.mul k1.sm hs, _, rfl, _, rfl, _, _, rfl, rfl, Sm.mul sz ht, _, _, rfl, rfl, ?_⟩
      refine ⟨_, rfl, _, rfl, _, _, rfl, rfl, Sm.mul sz hs, _, rfl, _, rfl, _, _, rfl, rfl, Sm.mul k2.sm ht, _, _, rfl, rfl, by show 6 ≤ sizeLine; decide, fun z6 hz6 => ?_⟩
      have s1 : Same H (upd H z6 (.tup [.int (a * w1.e), .int (a * w1.n + 0 * w1.f), .int (0 * w1.e), .int (0 * w1.n + d * w1.f), .int (a * w1.s + 0 * w1.t), .int (0 * w1.s + d * w1.t)])) := same_upd hz6
      refine ⟨z6, _, rfl, SqT.of (eu _ _ upd_same), rfl, _, _, rfl, _, _, rfl, _, _, rfl, _, _, rfl, _, _, rfl, _, _, rfl, rfl, ?_⟩
      refine at_st (σ' := [some (.ref wd), some (.int (a * w1.e)), some (.int (a * w1.n)), some (.int 0), some (.int (d * w1.f)), some (.int w1.e), some (.int w1.n), some (.int (a * w1.s)), some (.int w1.f), some (.int (d * w1.t)), none, none, none, none, none, none, none, none, none, none]) rfl ?_
      refine ⟨_, rfl, rfl, _, rfl, iteF ⟨_, rfl, rfl, _, rfl, iteT ?_⟩⟩
      have w4 := hw.same s1
      refine ⟨_, rfl, _, rfl, _, rfl, by show 3 ≤ sizeLine; decide, fun z1 hz1 => ?_⟩
      refine ⟨_, rfl, _, rfl, by show 2 ≤ sizeLine; decide, fun z2 hz2 => ⟨by show 2 ≤ sizeLine; decide, fun z3 hz3 => ?_⟩⟩
      obtain ⟨s5, u1, u2⟩ := three (.tup [.ref z1, .ref z2]) hz1 hz2 hz3
      have w5 := w4.same s5
      obtain ⟨dx5, u5, lo5, us5, k15, k25, k35, k45, k55⟩ := id w5
      obtain ⟨x6, w7⟩ := put2 w5 k15 u1 u2
      refine ⟨z3, _, rfl, SqT.of upd_same, rfl, _, _, rfl, _, rfl, wd, _, dx5, _, rfl, k15, cW, nU, by show 3 < 1000; decide, _, _, rfl, _, rfl, wd, _, dx5, _, rfl, upd_same, cW, nL, by show 3 < 1000; decide, rfl, ?_⟩
      exact q _ (SameX.tr (Same.x (Same.tr s1 s5)) x6) w7
end
end K5
set_option Elab.async false
set_option linter.all false
set_option maxRecDepth 100000
set_option maxHeartbeats 4000000
namespace K5
open PySem PySem.Spec PyProof.Rows L2
section
variable {P : Program} {w : World} {K : Fg} {mg : Str → Option Value} {base : Heap}
def spWoS (K : Fg) : Sp := fun vs H Q _ => ∃ wd pl v st w w', vs = [.ref wd, v] ∧ WorAt K H wd pl w ∧ StepAt K H v st ∧ WS w st w' ∧ w.ps.length ≤ 100 ∧ ∀ H', SameX wd pl H H' → WorAt K H' wd pl w' → Q .non H'
theorem ok_Word_step (T : TX K mg) : Fx P w K mg base 6 (d_Word_step.ad K) (spWoS K) := by
  refine fx_mk T fd_Word_step rfl sc_Word_step bd_Word_step (fun vs H Q E h => ?_) (fun cdv A outer s H vs Q E hr h => ?_)
  · obtain ⟨wd, pl, v, st, w1, w2, rfl, _⟩ := h
    rfl
  · obtain ⟨wd, pl, v, st, w1, w2, rfl, hw, hst, hws, hpl, q⟩ := h
    refine ⟨_, (pss_one (ps_if (pt_cmpR op_eq (pe_ix ix_tup (pv 1) pe_int (fun _ _ => rfl)) pe_str (nomark _)) (pss_one (ps_expr (pe_me (ok_Word_bend T) (T.c "Word") (T.me "Word" "bend") hr (by decide) (pv 0) (pa_cons (pe_ix ix_tup (pv 1) pe_int (fun _ _ => rfl)) pa_nil)))) (pss_one (ps_if (pt_cmpR op_eq (pe_ix ix_tup (pv 1) pe_int (fun _ _ => rfl)) pe_str (nomark _)) (pss_cons ps_never (pss_cons (ps_expr (pe_me (ok_Word_bend T) (T.c "Word") (T.me "Word" "bend") hr (by decide) (pv 0) (pa_cons (pe_ix ix_tup (pv 1) pe_int (fun _ _ => rfl)) pa_nil))) (pss_one ps_never))) (pss_one (ps_if (pt_cmpR op_eq (pe_ix ix_tup (pv 1) pe_int (fun _ _ => rfl)) pe_str (nomark _)) (pss_one (ps_expr (pe_me (ok_Word_move T) (T.c "Word") (T.me "Word" "move") hr (by decide) (pv 0) (pa_cons (pe_ix ix_tup (pv 1) pe_int (fun _ _ => rfl)) (pa_cons (pe_ix ix_tup (pv 1) pe_int (fun _ _ => rfl)) pa_nil))))) (pss_one (ps_expr (pe_me (ok_Word_turn T) (T.c "Word") (T.me "Word" "turn") hr (by decide) (pv 0) (pa_cons (pe_ix ix_tup (pv 1) pe_int (fun _ _ => rfl)) (pa_cons (pe_ix ix_tup (pv 1) pe_int (fun _ _ => rfl)) (pa_cons (pe_ix ix_tup (pv 1) pe_int (fun _ _ => rfl)) (pa_cons (pe_ix ix_tup (pv 1) pe_int (fun _ _ => rfl)) pa_nil))))))))))))), ?_⟩
    obtain ⟨dx, u, lo, us, h1, h2, h3, h4, h5⟩ := id hw
    cases st with
    | x r =>
      obtain ⟨a, ra, rfl, ha, hr1⟩ := hst
      exact ⟨_, rfl, a, _, _, _, rfl, rfl, SqT.of ha, rfl, rfl, _, rfl, iteT ⟨_, rfl, wd, dx, _, rfl, h1, rfl, _, rfl, a, _, _, _, rfl, rfl, SqT.of ha, rfl, wd, pl, ra, w1, w2, r, rfl, hw, hr1, hws, hpl, q⟩⟩
    | t a b c d =>
      obtain ⟨p, rfl, hp⟩ := hst
      refine ⟨_, rfl, p, _, _, _, rfl, rfl, SqT.of hp, rfl, rfl, _, rfl, iteF ⟨_, rfl, p, _, _, _, rfl, rfl, SqT.of hp, rfl, rfl, _, rfl, iteF ⟨_, rfl, p, _, _, _, rfl, rfl, SqT.of hp, rfl, rfl, _, rfl, iteF ?_⟩⟩⟩
      exact ⟨_, rfl, wd, dx, _, rfl, h1, rfl, _, rfl, p, _, _, _, rfl, rfl, SqT.of hp, rfl, _, rfl, p, _, _, _, rfl, rfl, SqT.of hp, rfl, _, rfl, p, _, _, _, rfl, rfl, SqT.of hp, rfl, _, rfl, p, _, _, _, rfl, rfl, SqT.of hp, rfl, wd, pl, w1, w2, a, b, c, d, rfl, hw, hws, hpl, q⟩
    | m a b =>
      obtain ⟨p, rfl, hp⟩ := hst
      cases hws
      refine ⟨_, rfl, p, _, _, _, rfl, rfl, SqT.of hp, rfl, rfl, _, rfl, iteF ⟨_, rfl, p, _, _, _, rfl, rfl, SqT.of hp, rfl, rfl, _, rfl, iteF ⟨_, rfl, p, _, _, _, rfl, rfl, SqT.of hp, rfl, rfl, _, rfl, iteT ?_⟩⟩⟩
      exact ⟨_, rfl, wd, dx, _, rfl, h1, rfl, _, rfl, p, _, _, _, rfl, rfl, SqT.of hp, rfl, _, rfl, p, _, _, _, rfl, rfl, SqT.of hp, rfl, wd, pl, w1, a, b, rfl, hw, q⟩
/-- all steps done, one by one -/
inductive WRun : WSt → List Stp → WSt → Prop where
  | nil (w : WSt) : WRun w [] w
  | cons {w w1 w2 : WSt} {st : Stp} {ss : List Stp} (h : WS w st w1) (r : WRun w1 ss w2) : WRun w (st :: ss) w2
theorem WS.len {w w' : WSt} {st : Stp} (h : WS w st w') : w'.ps.length ≤ w.ps.length + 1 := by
  cases h <;> simp
theorem WRun.app {w w1 w2 : WSt} {ss ts : List Stp} (a : WRun w ss w1) (b : WRun w1 ts w2) : WRun w (ss ++ ts) w2 := by
  induction a with
  | nil => exact b
  | cons h _ ih => exact .cons h (ih b)
def spPla (K : Fg) : Sp := fun vs H Q _ => ∃ p ss c, vs = [.ref p] ∧ ProgAt K H p ss ∧ ss.length ≤ 60 ∧ WRun ⟨[], 1, 0, 0, 1, 0⟩ ss ⟨CF.parts c, c.e, 0, c.s, c.f, c.t⟩ ∧ CF.fit c ∧ ∀ H' x, Same H H' → ProgAt K H' x (CF.steps c) → Q (.ref x) H'
theorem ok_plain (T : TX K mg) : Fx P w K mg base 7 (d_plain.ad K) (spPla K) := by
  refine fx_mk T fd_plain rfl sc_plain bd_plain (fun vs H Q E h => ?_) (fun cdv A outer s H vs Q E hr h => ?_)
  · obtain ⟨p, ss, c, rfl, _⟩ := h
    rfl
  · obtain ⟨p, ss, c, rfl, hp, hlen, hrun, f, q⟩ := h
    refine ⟨_, (pss_cons (ps_expr (pe_f (ok_need_program_programs T) (T.g "need_program_programs") hr (by decide) (by rfl) (pa_cons (pv 0) pa_nil))) (pss_cons (ps_set (i := 1) sc_plain.nd rfl (.inl rfl) (pe_new0 (ok_Word_init T) (T.m "Word") (T.g "Word") hr (by decide) (by rfl))) (pss_cons (ps_for PassesOwn.never rfl (pi_tup (pe_fld (pv 0) rfl)) (pg_name (i := 2) sc_plain.nd rfl (.inl rfl)) (pss_one (ps_expr (pe_me (ok_Word_step T) (T.c "Word") (T.me "Word" "step") hr (by decide) (pv 1) (pa_cons (pv 2) pa_nil))))) (pss_cons (ps_asg (pe_fld (pv 1) rfl) (pg_tup rfl (pgs_cons (pg_name (i := 3) sc_plain.nd rfl (.inl rfl)) (pgs_cons (pg_name (i := 4) sc_plain.nd rfl (.inl rfl)) (pgs_cons (pg_name (i := 5) sc_plain.nd rfl (.inl rfl)) pgs_nil))))) (pss_cons (ps_asg (pe_fld (pv 1) rfl) (pg_tup rfl (pgs_cons (pg_name (i := 6) sc_plain.nd rfl (.inl rfl)) (pgs_cons (pg_name (i := 7) sc_plain.nd rfl (.inl rfl)) pgs_nil)))) (pss_one (ps_ret (pe_new (ok_Program_init T) (T.m "Program") (T.g "Program") hr (by decide) (by rfl) (pa_cons (pe_lst (StX.pa_star (pe_fld (pv 1) rfl) (pa_cons (pe_tup (pa_cons pe_str (pa_cons (pv 3) (pa_cons (pv 4) (pa_cons pe_int (pa_cons (pv 6) pa_nil)))))) (pa_cons (pe_tup (pa_cons pe_str (pa_cons (pv 5) (pa_cons (pv 7) pa_nil)))) pa_nil)))) pa_nil))))))))), ?_⟩
    obtain ⟨dp, tp, us, hp1, hp2, hp3⟩ := id hp
    have cW := T.c "Word"
    have cP := T.c "Program"
    refine ⟨_, rfl, _, rfl, hp.ins, ?_⟩
    refine fun wd dx nx nd ne => ⟨wd, dx, rfl, upd_same, fun H1 pl k hplN hw => ⟨rfl, ?_⟩⟩
    have s1 : Same H H1 := Same.made nx nd fun b o e nb => k b o nb e
    have nwd : H wd = none := nx
    have npl : H pl = none := none_back (same_mk (C := glA "Word" K) nx nd) hplN
    refine ⟨_, rfl, p, _, dp, _, _, rfl, s1 _ _ hp1, cP, T.a "Program" "own_steps", rfl, tp, rfl, ⟨_, SqT.of (s1 _ _ hp2)⟩, for_tup (xs := us) (fun i σ H' => ∃ y wi, σ = [some (.ref p), some (.ref wd), y, none, none, none, none, none] ∧ Same H H' ∧ WorAt K H' wd pl wi ∧ wi.ps.length ≤ i ∧ WRun wi (ss.drop i) ⟨c.parts, c.e, 0, c.s, c.f, c.t⟩)
      ⟨none, _, rfl, s1, hw, Nat.le_refl _, hrun⟩ (fun i σ H' _ h => ?_) (fun i v σ H' hv hP => ?_) (fun σ H' hP => ?_)⟩
    · obtain ⟨_, _, _, s, _⟩ := h
      exact SqT.of (s _ _ hp2)
    · obtain ⟨y, wi, rfl, s, hwi, hli, hri⟩ := hP
      obtain ⟨st, e, hst⟩ := paired_get hp3 hv
      have hi : i < ss.length := (List.getElem?_eq_some_iff.mp e).1
      have ed : ss.drop i = st :: ss.drop (i + 1) := by
        rw [List.drop_eq_getElem_cons hi]
        rw [List.getElem?_eq_getElem hi] at e
        rw [Option.some.inj e]
      rw [ed] at hri
      cases hri with
      | cons h r =>
        obtain ⟨dw, u, lo, us2, h1, h2, h3, h4, h5⟩ := id hwi
        refine ⟨_, rfl, wd, dw, _, rfl, h1, rfl, _, rfl, wd, pl, v, st, wi, _, rfl, hwi, hst.keep (Same.fix s), h, by omega, fun H3 x3 w3 => ⟨_, _, rfl, fun b o e => ?_, w3, ?_, r⟩⟩
        · exact x3 b o (ne_new e nwd) (ne_new e npl) (s b o e)
        · have := h.len
          omega
    · obtain ⟨y, wi, rfl, s, hwi, hli, hri⟩ := hP
      rw [paired_len hp3, List.drop_length] at hri
      cases hri
      obtain ⟨dw, u, lo, us2, h1, h2, h3, h4, h5⟩ := id hwi
      have nU := T.a "Word" "upper"
      have nL := T.a "Word" "lower"
      have nP := T.a "Word" "parts"
      refine ⟨_, rfl, wd, _, dw, _, _, rfl, h1, cW, nU, rfl, ?_⟩
      refine ⟨u, _, rfl, SqT.of h4, rfl, _, _, rfl, _, _, rfl, _, _, rfl, rfl, ?_⟩
      refine ⟨_, rfl, wd, _, dw, _, _, rfl, h1, cW, nL, rfl, ?_⟩
      refine ⟨lo, _, rfl, SqT.of h5, rfl, _, _, rfl, _, _, rfl, rfl, ?_⟩
      have l3 := paired_len h3
      have l3' : us2.length = c.parts.length := l3
      have lc := f.core.len
      refine ⟨_, rfl, wd, _, dw, _, _, rfl, h1, cW, nP, rfl, pl, us2, rfl, .inr (SqL.of h2), ?_⟩
      refine ⟨_, rfl, _, rfl, _, rfl, by show 5 ≤ sizeLine; decide, fun t5 ht5 => ?_⟩
      have s2 : Same H' (upd H' t5 (.tup [.str "turn", .int c.e, .int 0, .int 0, .int c.f])) := same_upd ht5
      refine ⟨_, rfl, _, rfl, by show 3 ≤ sizeLine; decide, fun t3 ht3 => ?_⟩
      have s3 : Same H' (upd (upd H' t5 (.tup [.str "turn", .int c.e, .int 0, .int 0, .int c.f])) t3 (.tup [.str "move", .int c.s, .int c.t])) := Same.of_upd s2 (none_back s2 ht3)
      refine ⟨?_, fun l hl => ?_⟩
      · show (us2 ++ [V.ref t5, V.ref t3]).length ≤ sizeLine
        rw [List.length_append]
        have : [V.ref t5, V.ref t3].length = 2 := rfl
        exact small2 (by omega)
      have s4 : Same H' (upd (upd (upd H' t5 (.tup [.str "turn", .int c.e, .int 0, .int 0, .int c.f])) t3 (.tup [.str "move", .int c.s, .int c.t])) l (.lst (us2 ++ [.ref t5, .ref t3]))) := Same.of_upd s3 (none_back s3 hl)
      have p4 : StepsAt K (upd (upd (upd H' t5 (.tup [.str "turn", .int c.e, .int 0, .int 0, .int c.f])) t3 (.tup [.str "move", .int c.s, .int c.t])) l (.lst (us2 ++ [.ref t5, .ref t3]))) (us2 ++ [.ref t5, .ref t3]) c.steps := by
        refine paired_app (StepsAt.keep h3 (Same.fix s4)) (.cons ⟨t5, rfl, ?_⟩ (.cons ⟨t3, rfl, ?_⟩ .nil))
        · rw [upd_ne (ne_new ((upd_ne (ne_new upd_same ht3)).trans upd_same) hl), upd_ne (ne_new upd_same ht3), upd_same]
        · rw [upd_ne (ne_new upd_same hl), upd_same]
      have ok : ∀ st ∈ c.steps, OkS st := fun st hst => by
        rcases List.mem_append.mp (show st ∈ c.parts ++ _ from hst) with h | h
        · have := f.core.all st h
          cases st with
          | x r => trivial
          | t a b c' d =>
            obtain ⟨rfl, rfl, rfl, hd⟩ := this
            refine ⟨⟨by unfold Sm; decide, by unfold Sm; decide, by unfold Sm; decide, hd⟩, .inl (by rw [Int.zero_mul]; rfl)⟩
          | m a b => exact this.elim
        · have h' : st = .t c.e 0 0 c.f ∨ st = .m c.s c.t := by simpa using h
          rcases h' with rfl | rfl
          · refine ⟨⟨pm.sm f.ok.e, by unfold Sm; decide, by unfold Sm; decide, pm.sm f.ok.f⟩, ?_⟩
            rcases f.ok.e with a | a <;> rcases f.ok.f with b | b <;> rw [a, b] <;> simp
          · trivial
      refine fun x dx nx nd ne => ⟨x, dx, l, us2 ++ [V.ref t5, V.ref t3], c.steps, rfl, upd_same, .inl ((same_mk nx nd) _ _ upd_same), p4.keep (Same.fix (same_mk nx nd)), ok, ?_, fun H5 k hpr => ⟨rfl, q _ x (Same.tr s (Same.tr s4 (Same.made nx nd fun b o e nb => k b o nb e))) hpr⟩⟩
      rw [List.length_append]
      have : [V.ref t5, V.ref t3].length = 2 := rfl
      omega
end
end K5
set_option Elab.async false
set_option linter.all false
set_option maxRecDepth 100000
set_option maxHeartbeats 4000000
namespace K5
open PySem PySem.Spec PyProof.Rows L2
abbrev kvS (wl cl : Addr) (r k : Int) : List (Key × V) := [(.inr "wide", .ref wl), (.inr "cells", .ref cl), (.inr "rest", .int r), (.inr "turn", .int k)]
/-- the state of all draws: so many draws are still to come -/
def StAt (H : Hp) (d wl cl : Addr) (n : Nat) : Prop := ∃ ws cs r k, H d = some (.dK (kvS wl cl r k)) ∧ H wl = some (.lst ((ws : List Int).map V.int)) ∧ H cl = some (.lst ((cs : List Int).map V.int)) ∧ (∀ c ∈ cs, 0 ≤ c ∧ c < 2147483629) ∧ 0 ≤ k ∧ k + n ≤ 2 ^ 40 ∧ cl ≠ wl
theorem StAt.less {H : Hp} {d wl cl : Addr} {n m : Nat} (h : StAt H d wl cl n) (l : m ≤ n) : StAt H d wl cl m := by
  obtain ⟨ws, cs, r, k, h1, h2, h3, h4, h5, h6, h7⟩ := h
  exact ⟨ws, cs, r, k, h1, h2, h3, h4, h5, by omega, h7⟩
theorem StAt.same {H H' : Hp} {d wl cl : Addr} {n : Nat} (h : StAt H d wl cl n) (s : Same H H') : StAt H' d wl cl n := by
  obtain ⟨ws, cs, r, k, h1, h2, h3, h4, h5, h6, h7⟩ := h
  exact ⟨ws, cs, r, k, s _ _ h1, s _ _ h2, s _ _ h3, h4, h5, h6, h7⟩
theorem StAt.ne {H : Hp} {d wl cl : Addr} {n : Nat} (h : StAt H d wl cl n) {l : Addr} (hl : H l = none) : l ≠ d ∧ l ≠ wl ∧ l ≠ cl := by
  obtain ⟨ws, cs, r, k, h1, h2, h3, h4, h5, h6, h7⟩ := h
  exact ⟨(ne_new h1 hl).symm, (ne_new h2 hl).symm, (ne_new h3 hl).symm⟩
theorem SameX.fixS {d wl cl : Addr} {H H' : Hp} (h : SameX d wl H H') {n : Nat} (a : StAt H d wl cl n) : Fixes H H' := fun b o hb e => by
  obtain ⟨ws, cs, r, k, h1, h2, _⟩ := a
  refine h b o ?_ ?_ e
  · rintro rfl
    rw [h1] at e
    cases e
    cases hb
  · rintro rfl
    rw [h2] at e
    cases e
    cases hb
theorem SameX.rf {d wl : Addr} {H : Hp} : SameX d wl H H := fun _ _ _ _ e => e
section
variable {P : Program} {w : World} {K : Fg} {mg : Str → Option Value} {base : Heap}
def spMix (K : Fg) : Sp := fun vs H Q _ => ∃ d wl cl n, vs = [.ref d] ∧ StAt H d wl cl (n + 1) ∧ ∀ H' (r : Int), SameX d wl H H' → StAt H' d wl cl n → Q (.int r) H'
theorem bt_of {i : Int} {n : Nat} (h0 : 0 ≤ i) (h1 : i.toNat < 2 ^ n) : Bt n i := by
  unfold Bt
  omega
theorem prime_at {i : Nat} {x : V} (h : ([.int 2147483629, .int 2147483587, .int 2147483579, .int 2147483563] : List V)[i]? = some x) : ∃ p : Int, x = .int p ∧ 0 < p ∧ p < 2147483648 := by
  match i, h with
  | 0, h => exact ⟨_, (Option.some.inj h).symm, by decide, by decide⟩
  | 1, h => exact ⟨_, (Option.some.inj h).symm, by decide, by decide⟩
  | 2, h => exact ⟨_, (Option.some.inj h).symm, by decide, by decide⟩
  | 3, h => exact ⟨_, (Option.some.inj h).symm, by decide, by decide⟩
  | i + 4, h => simp at h
theorem ok_l_mixed (T : TX K mg) : Fx P w K mg base 1 (d_l_mixed.ad K) (spMix K) := by
  refine fx_mk T fd_l_mixed rfl sc_l_mixed bd_l_mixed (fun vs H Q E h => ?_) (fun cdv A outer s H vs Q E hr h => ?_)
  · obtain ⟨d, wl, cl, n, rfl, _⟩ := h
    rfl
  · obtain ⟨d, wl, cl, n, rfl, ⟨ws, cs, r, k, h1, h2, h3, h4, h5, h6, h7⟩, q⟩ := h
    have hu1 := hu_of hr
    refine ⟨_, (pss_cons (ps_par (i := 1) (j := 2) rfl sc_l_mixed.nd rfl rfl (by decide) rfl rfl (pa_cons (pe_op op_add (pe_dget hu1 (pv 0) pe_str (fun _ _ => rfl)) pe_int) (pa_cons pe_int pa_nil)) rfl) (pss_cons (ps_dput hu1 (pv 0) pe_str (pv 1) rfl) (pss_cons (ps_for PassesOwn.never rfl (pi_list (pe_lst (pa_cons pe_int (pa_cons pe_int (pa_cons pe_int (pa_cons pe_int pa_nil)))))) (pg_name (i := 3) sc_l_mixed.nd rfl (.inl rfl)) (pss_cons (ps_set (i := 4) sc_l_mixed.nd rfl (.inl rfl) (pe_op op_add (pe_op op_mulW pe_int (pv 1)) (pe_op op_fdivW (pv 3) pe_int))) (pss_cons (ps_for PassesOwn.never rfl (pi_list (pe_dget hu1 (pv 0) pe_str (fun _ _ => rfl))) (pg_name (i := 5) sc_l_mixed.nd rfl (.inl rfl)) (pss_one (ps_set (i := 4) sc_l_mixed.nd rfl (.inl rfl) (pe_op op_mod (pe_callTy call_int1 (by rfl) (T.r "int") ty_int (pa_cons (pe_op op_add (pe_op op_add (pe_op op_mulW (pv 4) pe_int) (pv 5)) (pv 1)) pa_nil)) (pv 3))))) (pss_one (ps_set (i := 2) sc_l_mixed.nd rfl (.inl rfl) (pe_op op_add (pe_op op_mulW (pv 2) pe_int) (pe_op op_mod (pe_callTy call_int1 (by rfl) (T.r "int") ty_int (pa_cons (pe_op op_pow (pv 4) pe_int) pa_nil)) (pv 3)))))))) (pss_one (ps_ret (pv 2)))))), ?_⟩
    refine ⟨_, rfl, d, _, rfl, DGet.k (k := Sum.inr "turn") h1, _, _, rfl, rfl, _, _, rfl, ?_⟩
    refine ⟨_, rfl, _, rfl, d, _, rfl, DPut.k (k := Sum.inr "turn") h1 (by show 4 < sizeLine; decide), ?_⟩
    have hd1 : (upd H d (.dK (putK (kvS wl cl r k) (Sum.inr "turn") (.int (k + 1))))) d = some (.dK (kvS wl cl r (k + 1))) := upd_same
    have dw : wl ≠ d := fun z => by rw [z, h1] at h2; cases h2
    have dc : cl ≠ d := fun z => by rw [z, h1] at h3; cases h3
    have hw1 : (upd H d (.dK (putK (kvS wl cl r k) (Sum.inr "turn") (.int (k + 1))))) wl = some (.lst (ws.map V.int)) := (upd_ne dw).trans h2
    have hc1 : (upd H d (.dK (putK (kvS wl cl r k) (Sum.inr "turn") (.int (k + 1))))) cl = some (.lst (cs.map V.int)) := (upd_ne dc).trans h3
    have x1 : SameX d wl H (upd H d (.dK (putK (kvS wl cl r k) (Sum.inr "turn") (.int (k + 1))))) := SameX.updW
    revert hd1 hw1 hc1 x1
    generalize hH : upd H d (.dK (putK (kvS wl cl r k) (Sum.inr "turn") (.int (k + 1)))) = H1
    intro hd1 hw1 hc1 x1
    refine ⟨by show 4 ≤ sizeLine; decide, fun l0 hl0 => ?_⟩
    have s2 := same_upd (o := .lst [.int 2147483629, .int 2147483587, .int 2147483579, .int 2147483563]) hl0
    have hc2 := s2 _ _ hc1
    refine ⟨l0, rfl, ⟨_, SqL.of upd_same⟩, for_list (xs := [.int 2147483629, .int 2147483587, .int 2147483579, .int 2147483563]) (fun i σ H' => H' = upd H1 l0 (.lst [.int 2147483629, .int 2147483587, .int 2147483579, .int 2147483563]) ∧ ∃ (f : Int) (y3 y4 y5 : Option V), σ = [some (.ref d), some (.int (k + 1)), some (.int f), y3, y4, y5] ∧ Bt (40 * i + 1) f)
      ⟨rfl, 0, none, none, none, rfl, by unfold Bt; decide⟩ (fun i σ H' _ h => by rw [h.1]; exact SqL.of upd_same) (fun i x σ H' hx hP => ?_) (fun σ H' hP => ?_)⟩
    · obtain ⟨rfl, f, y3, y4, y5, rfl, hf⟩ := hP
      obtain ⟨p, rfl, p0, p1⟩ := prime_at hx
      have bk : Bt 41 (k + 1) := bt_of (by omega) (by omega)
      have hi : i < 4 := by
        have := (List.getElem?_eq_some_iff.mp hx).1
        exact this
      refine ⟨_, rfl, _, _, rfl, rfl, Bt.cm (n := 17) (m := 41) (by unfold Bt; decide) bk (by decide) (by decide) (by decide), _, rfl, _, _, rfl, rfl, ⟨by decide, by decide⟩, _, _, rfl, rfl, ?_⟩
      refine ⟨_, rfl, d, _, rfl, DGet.k (k := Sum.inr "cells") (s2 _ _ hd1), cl, rfl, ⟨_, SqL.of hc2⟩, for_list (xs := cs.map V.int) (fun j σ H' => H' = upd H1 l0 (.lst [.int 2147483629, .int 2147483587, .int 2147483579, .int 2147483563]) ∧ ∃ (b : Int) (y5 : Option V), σ = [some (.ref d), some (.int (k + 1)), some (.int f), some (.int p), some (.int b), y5] ∧ 0 ≤ b ∧ b < 2 ^ 60)
        ⟨rfl, _, _, rfl, by omega, by omega⟩ (fun i σ H' _ h => by rw [h.1]; exact SqL.of hc2) (fun j x σ H' hx hP => ?_) (fun σ H' hP => ?_)⟩
      · obtain ⟨rfl, b, z5, rfl, b0, b1⟩ := hP
        rw [List.getElem?_map] at hx
        obtain ⟨c, hc, rfl⟩ := Option.map_eq_some_iff.mp hx
        refine ⟨_, rfl, _, _, rfl, rfl, Bt.cm (n := 60) (m := 17) (bt_of b0 (by omega)) (by unfold Bt; decide) (by decide) (by decide) (by decide), _, rfl, _, _, rfl, rfl, _, rfl, _, _, rfl, rfl, .inl ⟨_, rfl, _, rfl, _, _, rfl, rfl, p0, rfl, _, _, rfl, Int.emod_nonneg _ (by omega), ?_⟩⟩
        have := Int.emod_lt_of_pos (b * 48271 + c + (k + 1)) p0
        omega
      · obtain ⟨rfl, b, z5, rfl, b0, b1⟩ := hP
        refine ⟨_, rfl, _, _, rfl, rfl, hf.cm (m := 31) (by unfold Bt; decide) (by omega) (by decide) (by omega), _, rfl, _, _, rfl, rfl, ⟨by decide, by decide, by omega⟩, .inl ⟨_, rfl, _, rfl, _, _, rfl, rfl, p0, _, _, rfl, rfl, rfl, _, _, _, _, rfl, ?_⟩⟩
        have e1 := Int.emod_nonneg (b ^ (5 : Int).toNat) (by omega : p ≠ 0)
        have e2 := Int.emod_lt_of_pos (b ^ (5 : Int).toNat) p0
        have b2 : Bt 31 (b ^ (5 : Int).toNat % p) := bt_of e1 (by omega)
        exact Bt.mono (Bt.add (n := 40 * i + 1 + 31) (hf.mul (m := 31) (by unfold Bt; decide)) (b2.mono (by omega))) (by omega)
    · obtain ⟨rfl, f, y3, y4, y5, rfl, hf⟩ := hP
      refine ⟨_, rfl, q _ _ (SameX.tr x1 (Same.x s2)) ⟨ws, cs, r, k + 1, s2 _ _ hd1, s2 _ _ hw1, hc2, h4, by omega, by omega, h7⟩⟩
end
end K5
set_option Elab.async false
set_option linter.all false
set_option maxRecDepth 100000
set_option maxHeartbeats 4000000
namespace K5
open PySem PySem.Spec PyProof.Rows L2
theorem dp_ints {K : Fg} {H : Hp} : ∀ ws : List Int, DpAll K H (ws.map V.int) (ws.map PyData.int)
  | [] => .nil
  | _ :: ws => .cons (.int _) (dp_ints ws)
theorem upd_upd {H : Hp} {d : Addr} {o1 o2 : HO} : upd (upd H d o1) d o2 = upd H d o2 := by
  funext b
  by_cases h : b = d
  · subst h
    rw [upd_same, upd_same]
  · rw [upd_ne h, upd_ne h, upd_ne h]
section
variable {P : Program} {w : World} {K : Fg} {mg : Str → Option Value} {base : Heap}
def spTak (K : Fg) : Sp := fun vs H Q _ => ∃ d wl cl n, ∃ size : Int, vs = [.ref d, .int size] ∧ StAt H d wl cl (n + 1) ∧ 0 < size ∧ size < 2 ^ 60 ∧ ∀ H' (f : Int), SameX d wl H H' → StAt H' d wl cl n → 0 ≤ f → f < size → Q (.int f) H'
theorem ok_l_take (T : TX K mg) : Fx P w K mg base 2 (d_l_take.ad K) (spTak K) := by
  refine fx_mk T fd_l_take rfl sc_l_take bd_l_take (fun vs H Q E h => ?_) (fun cdv A outer s H vs Q E hr h => ?_)
  · obtain ⟨d, wl, cl, n, size, rfl, _⟩ := h
    rfl
  · obtain ⟨d, wl, cl, n, size, rfl, hst, h0, hs, q⟩ := h
    have hu1 := hu_of hr
    have hu64 := hr.units
    refine ⟨_, (pss_cons (ps_if (pt_cmpR op_eq (pe_dget hu1 (pv 0) pe_str (fun _ _ => rfl)) pe_int (nomark _)) (pss_one (ps_dput hu1 (pv 0) pe_str (pe_ifExp (pt_cmpR (op_neD hu64) (pe_dget hu1 (pv 0) pe_str (fun _ _ => rfl)) (pe_lst pa_nil) (nomark _)) (pe_bm PySem.F.plainAttrs_list PySem.F.slot_list_pop PySem.F.type_list_pop mt_popAt (pe_dget hu1 (pv 0) pe_str (fun _ _ => rfl)) (pa_cons pe_int pa_nil)) (pe_f (ok_l_mixed T) (T.g "_law_mixed") hr (by decide) (by rfl) (pa_cons (pv 0) pa_nil))) rfl)) pss_nil) (pss_cons (ps_set (i := 2) sc_l_take.nd rfl (.inl rfl) (pe_op op_mod (pe_callTy call_int1 (by rfl) (T.r "int") ty_int (pa_cons (pe_dget hu1 (pv 0) pe_str (fun _ _ => rfl)) pa_nil)) (pv 1))) (pss_cons (ps_dput hu1 (pv 0) pe_str (pe_op op_fdivW (pe_dget hu1 (pv 0) pe_str (fun _ _ => rfl)) (pv 1)) rfl) (pss_one (ps_ret (pv 2)))))), ?_⟩
    obtain ⟨ws, cs, r, k, h1, h2, h3, h4, h5, h6, h7⟩ := id hst
    -- what follows
    have fin : ∀ H1 : Hp, SameX d wl H H1 → StAt H1 d wl cl n → tSeq (tAsg (tOp (rI (fun _ j => 0 < j) fun i j => V.int (i % j)) (tCB (fun xs H Q => (∃ i, xs = [V.int i] ∧ Q (.int i) H) ∨ ∃ k, xs = [.bl k] ∧ Q (.int (if k then 1 else 0)) H) (tCons (tDGet (tVar 0) (tC (.str "rest"))) tNil)) (tVar 1)) (gName 2))
        (tSeq (sDPut (tVar 0) (tC (.str "rest")) (tOp (rI CDivW fun i j => V.int (i / j)) (tDGet (tVar 0) (tC (.str "rest"))) (tVar 1))) (tRet (tVar 2))) { nx := fun _ H' => Q .non H', rt := Q } [some (.ref d), some (.int size), none] H1 := fun H1 x1 st1 => by
      obtain ⟨ws, cs, r, k, h1, h2, h3, h4, h5, h6, h7⟩ := st1
      refine ⟨_, rfl, d, _, rfl, DGet.k (k := Sum.inr "rest") h1, .inl ⟨r, rfl, _, rfl, _, _, rfl, rfl, h0, ?_⟩⟩
      refine ⟨_, rfl, d, _, rfl, DGet.k (k := Sum.inr "rest") h1, _, rfl, _, _, rfl, rfl, ⟨h0, Nat.lt_trans (Bt.log (n := 60) (bt_of (by omega) (by omega)) (by decide)) (by decide)⟩, ?_⟩
      refine ⟨_, rfl, d, _, rfl, DPut.k (k := Sum.inr "rest") h1 (by show 4 < sizeLine; decide), ?_⟩
      have dw : wl ≠ d := fun z => by rw [z, h1] at h2; cases h2
      have dc : cl ≠ d := fun z => by rw [z, h1] at h3; cases h3
      exact ⟨_, rfl, q _ _ (SameX.tr x1 SameX.updW) ⟨ws, cs, r / size, k, upd_same, (upd_ne dw).trans h2, (upd_ne dc).trans h3, h4, h5, h6, h7⟩ (Int.emod_nonneg _ (by omega)) (Int.emod_lt_of_pos _ h0)⟩
    refine ⟨_, rfl, d, _, rfl, DGet.k (k := Sum.inr "rest") h1, rfl, _, rfl, ite2 (fun hz => ?_) (fun hz => fin H SameX.rf (hst.less (by omega)))⟩
    -- a new number
    refine ⟨_, rfl, d, _, rfl, DGet.k (k := Sum.inr "wide") h1, Nat.zero_le _, fun e he => ?_⟩
    have s1 : Same H (upd H e (.lst [])) := same_upd he
    have st1 := hst.same s1
    refine ⟨.list (ws.map PyData.int), .list [], .lst (SqL.of (s1 _ _ h2)) (dp_ints ws), .lst (SqL.of upd_same) .nil, PySem.W.ke_shaped_ints ws, rfl, _, rfl, ?_⟩
    have put : ∀ (H1 : Hp) (v : Int), SameX d wl H H1 → StAt H1 d wl cl n → ∃ v0, ([some (V.ref d), some (.int size), none] : L2.St)[0]? = some (some v0) ∧ ∃ a H4, v0 = .ref a ∧ DPut H1 a (.str "rest") (.int v) H4 ∧ tSeq (tAsg (tOp (rI (fun _ j => 0 < j) fun i j => V.int (i % j)) (tCB (fun xs H Q => (∃ i, xs = [V.int i] ∧ Q (.int i) H) ∨ ∃ k, xs = [.bl k] ∧ Q (.int (if k then 1 else 0)) H) (tCons (tDGet (tVar 0) (tC (.str "rest"))) tNil)) (tVar 1)) (gName 2))
        (tSeq (sDPut (tVar 0) (tC (.str "rest")) (tOp (rI CDivW fun i j => V.int (i / j)) (tDGet (tVar 0) (tC (.str "rest"))) (tVar 1))) (tRet (tVar 2))) { nx := fun _ H' => Q .non H', rt := Q } [some (.ref d), some (.int size), none] H4 := fun H1 v x1 st1 => by
      obtain ⟨ws, cs, r, k, h1, h2, h3, h4, h5, h6, h7⟩ := st1
      have dw : wl ≠ d := fun z => by rw [z, h1] at h2; cases h2
      have dc : cl ≠ d := fun z => by rw [z, h1] at h3; cases h3
      exact ⟨_, rfl, d, _, rfl, DPut.k (k := Sum.inr "rest") h1 (by show 4 < sizeLine; decide), fin _ (SameX.tr x1 SameX.updW) ⟨ws, cs, v, k, upd_same, (upd_ne dw).trans h2, (upd_ne dc).trans h3, h4, h5, h6, h7⟩⟩
    cases ws with
    | nil =>
      refine iteF ⟨_, rfl, d, wl, cl, n, rfl, st1, fun H2 r2 x2 st2 => put H2 r2 (SameX.tr (Same.x s1) x2) st2⟩
    | cons a ws =>
      refine iteT ⟨_, rfl, d, _, rfl, DGet.k (k := Sum.inr "wide") (s1 _ _ h1), .inl ⟨rfl, _, SqL.of (s1 _ _ h2)⟩, wl, _, 0, 0, .int a, rfl, rfl, s1 _ _ h2, by decide, by decide, ?_, rfl, ?_⟩
      · show seqIndex? 0 ((a :: ws).map V.int).length = some 0
        rw [List.length_map, List.length_cons]
        first
          | rfl
          | simp [seqIndex?]
      · have wc : cl ≠ wl := h7
        have dw : d ≠ wl := fun z => by rw [← z, h1] at h2; cases h2
        exact put _ a (SameX.tr (Same.x s1) SameX.updP) ⟨ws, cs, r, k, (upd_ne dw).trans (s1 _ _ h1), upd_same, (upd_ne wc).trans (s1 _ _ h3), h4, h5, by omega, h7⟩
def spPic (K : Fg) : Sp := fun vs H Q _ => ∃ d wl cl n l, ∃ xs : List V, vs = [.ref d, .ref l] ∧ StAt H d wl cl (n + 1) ∧ H l = some (.lst xs) ∧ xs ≠ [] ∧ xs.length ≤ 100 ∧ l ≠ d ∧ l ≠ wl ∧ ∀ H' v, SameX d wl H H' → StAt H' d wl cl n → v ∈ xs → Q v H'
theorem ok_l_pick (T : TX K mg) : Fx P w K mg base 3 (d_l_pick.ad K) (spPic K) := by
  refine fx_mk T fd_l_pick rfl sc_l_pick bd_l_pick (fun vs H Q E h => ?_) (fun cdv A outer s H vs Q E hr h => ?_)
  · obtain ⟨d, wl, cl, n, l, xs, rfl, _⟩ := h
    rfl
  · obtain ⟨d, wl, cl, n, l, xs, rfl, hst, hl, hne, hle, ld, lw, q⟩ := h
    refine ⟨_, (pss_one (ps_ret (pe_ix ix_list (pv 1) (pe_f (ok_l_take T) (T.g "_law_take") hr (by decide) (by rfl) (pa_cons (pv 0) (pa_cons (pe_callB call_len_seq (by rfl) (T.r "len") bi_len (pa_cons (pv 1) pa_nil)) pa_nil))) (fun _ _ => rfl)))), ?_⟩
    have hpos := List.length_pos_iff.mpr hne
    refine ⟨_, rfl, _, rfl, _, rfl, l, xs, rfl, .inl (SqL.of hl), d, wl, cl, n, (xs.length : Nat), rfl, hst, by omega, by omega, fun H1 f x1 st1 f0 f1 => ?_⟩
    obtain ⟨j, rfl⟩ : ∃ j : Nat, f = (j : Nat) := ⟨f.toNat, by omega⟩
    have hj : j < xs.length := by omega
    exact ⟨l, xs, _, xs[j], rfl, rfl, SqL.of (x1 _ _ ld lw hl), atI_nat (List.getElem?_eq_getElem hj), q _ _ x1 st1 (List.getElem_mem hj)⟩
def spNum2 (K : Fg) : Sp := fun vs H Q _ => ∃ d wl cl n, ∃ g : Int, vs = [.ref d, .int g] ∧ StAt H d wl cl (n + 3) ∧ 0 ≤ g ∧ g ≤ 100 ∧ ∀ H' (f : Int), SameX d wl H H' → StAt H' d wl cl n → -g ≤ f → f ≤ g → Q (.int f) H'
theorem ok_l_number (T : TX K mg) : Fx P w K mg base 4 (d_l_number.ad K) (spNum2 K) := by
  refine fx_mk T fd_l_number rfl sc_l_number bd_l_number (fun vs H Q E h => ?_) (fun cdv A outer s H vs Q E hr h => ?_)
  · obtain ⟨d, wl, cl, n, g, rfl, _⟩ := h
    rfl
  · obtain ⟨d, wl, cl, n, g, rfl, hst, g0, g1, q⟩ := h
    refine ⟨_, (pss_cons (ps_set (i := 2) sc_l_number.nd rfl (.inl rfl) (pe_f (ok_l_pick T) (T.g "_law_pick") hr (by decide) (by rfl) (pa_cons (pv 0) (pa_cons (pe_lst (pa_cons pe_int (pa_cons pe_int (pa_cons pe_int (pa_cons pe_int (pa_cons pe_int (pa_cons (pe_f (ok_l_take T) (T.g "_law_take") hr (by decide) (by rfl) (pa_cons (pv 0) (pa_cons (pe_op op_add (pv 1) pe_int) pa_nil))) pa_nil))))))) pa_nil)))) (pss_one (ps_ret (pe_f (ok_l_pick T) (T.g "_law_pick") hr (by decide) (by rfl) (pa_cons (pv 0) (pa_cons (pe_lst (pa_cons (pe_callB (call_min2 rfl) (by rfl) (T.r "min") bi_min (pa_cons (pv 2) (pa_cons (pv 1) pa_nil))) (pa_cons (pe_op op_sub pe_int (pe_callB (call_min2 rfl) (by rfl) (T.r "min") bi_min (pa_cons (pv 2) (pa_cons (pv 1) pa_nil)))) pa_nil))) pa_nil)))))), ?_⟩
    refine ⟨_, rfl, _, rfl, _, rfl, _, _, rfl, rfl, d, wl, cl, n + 2, g + 1, rfl, hst, by omega, by omega, fun H1 f x1 st1 f0 f1 => ?_⟩
    refine ⟨by show 6 ≤ sizeLine; decide, fun l hl => ?_⟩
    have s2 := same_upd (o := .lst [.int 0, .int 1, .int 1, .int 2, .int 3, .int f]) hl
    refine ⟨d, wl, cl, n + 1, l, [.int 0, .int 1, .int 1, .int 2, .int 3, .int f], rfl, st1.same s2, upd_same, by simp, by show 6 ≤ 100; decide, (st1.ne hl).1, (st1.ne hl).2.1, fun H3 v x3 st3 hv => ?_⟩
    obtain ⟨i, rfl, i0⟩ : ∃ i : Int, v = .int i ∧ 0 ≤ i := by
      simp only [List.mem_cons, List.not_mem_nil, or_false] at hv
      rcases hv with rfl | rfl | rfl | rfl | rfl | rfl
      · exact ⟨_, rfl, by decide⟩
      · exact ⟨_, rfl, by decide⟩
      · exact ⟨_, rfl, by decide⟩
      · exact ⟨_, rfl, by decide⟩
      · exact ⟨_, rfl, by decide⟩
      · exact ⟨_, rfl, f0⟩
    refine ⟨_, rfl, _, rfl, _, rfl, _, _, rfl, _, rfl, _, rfl, _, _, rfl, _, _, rfl, rfl, by show 2 ≤ sizeLine; decide, fun l2 hl2 => ?_⟩
    have s4 := same_upd (o := .lst [.int (if g < i then g else i), .int (0 - if g < i then g else i)]) hl2
    refine ⟨d, wl, cl, n, l2, [.int (if g < i then g else i), .int (0 - if g < i then g else i)], rfl, st3.same s4, upd_same, by simp, by simp, (st3.ne hl2).1, (st3.ne hl2).2.1, fun H5 v x5 st5 hv => ?_⟩
    have xx : SameX d wl H H5 := SameX.tr x1 (SameX.tr (Same.x s2) (SameX.tr x3 (SameX.tr (Same.x s4) x5)))
    simp only [List.mem_cons, List.not_mem_nil, or_false] at hv
    rcases hv with rfl | rfl
    · exact q _ _ xx st5 (by split <;> omega) (by split <;> omega)
    · exact q _ _ xx st5 (by split <;> omega) (by split <;> omega)
end
end K5
set_option Elab.async false
set_option linter.all false
set_option maxRecDepth 100000
set_option maxHeartbeats 4000000
namespace K5
open PySem PySem.Spec PyProof.Rows L2
/-- a drawn rule of a bend -/
def Curl (r : List Int) : Prop := ∃ (ns : List Int) (z : Int), r = 0 :: 0 :: (ns ++ [z]) ∧ ns.length ≤ 1 ∧ (∀ n ∈ ns, -2 ≤ n ∧ n ≤ 2) ∧ (z = 1 ∨ z = -1 ∨ z = 2)
/-- a step as it is drawn: a bend has a list -/
def RawAt (wl : Addr) (H : Hp) (v : V) : Stp → Prop
  | .x r => ∃ a l, v = .ref a ∧ H a = some (.tup [.str "x", .ref l]) ∧ H l = some (.lst (r.map V.int)) ∧ l ≠ wl
  | .t a b c d => ∃ p, v = .ref p ∧ H p = some (.tup [.str "turn", .int a, .int b, .int c, .int d])
  | .m s t => ∃ p, v = .ref p ∧ H p = some (.tup [.str "move", .int s, .int t])
theorem RawAt.same {wl : Addr} {H H' : Hp} {v : V} {st : Stp} (h : RawAt wl H v st) (s : Same H H') : RawAt wl H' v st := by
  cases st with
  | x r => obtain ⟨a, l, e, h1, h2, h3⟩ := h; exact ⟨a, l, e, s _ _ h1, s _ _ h2, h3⟩
  | t a b c d => obtain ⟨p, e, h⟩ := h; exact ⟨p, e, s _ _ h⟩
  | m a b => obtain ⟨p, e, h⟩ := h; exact ⟨p, e, s _ _ h⟩
theorem RawAt.sx {d wl cl : Addr} {n : Nat} {H H' : Hp} {v : V} {st : Stp} (h : RawAt wl H v st) (s : SameX d wl H H') (a : StAt H d wl cl n) : RawAt wl H' v st := by
  have fx := SameX.fixS s a
  obtain ⟨ws, cs, r', k, k1, k2, _⟩ := a
  cases st with
  | x r =>
    obtain ⟨a, l, e, h1, h2, h3⟩ := h
    exact ⟨a, l, e, fx _ _ rfl h1, s _ _ (fun z => by rw [z, k1] at h2; cases h2) h3 h2, h3⟩
  | t a b c d => obtain ⟨p, e, h⟩ := h; exact ⟨p, e, fx _ _ rfl h⟩
  | m a b => obtain ⟨p, e, h⟩ := h; exact ⟨p, e, fx _ _ rfl h⟩
/-- a list that is none of the state's own changes -/
theorem StAt.put {H : Hp} {d wl cl : Addr} {n : Nat} (h : StAt H d wl cl n) {D : Addr} (h1 : D ≠ d) (h2 : D ≠ wl) (h3 : D ≠ cl) {o : HO} : StAt (upd H D o) d wl cl n := by
  obtain ⟨ws, cs, r, k, k1, k2, k3, k4⟩ := h
  exact ⟨ws, cs, r, k, (upd_ne h1.symm).trans k1, (upd_ne h2.symm).trans k2, (upd_ne h3.symm).trans k3, k4⟩
section
variable {P : Program} {w : World} {K : Fg} {mg : Str → Option Value} {base : Heap}
def spCur (K : Fg) : Sp := fun vs H Q _ => ∃ d wl cl n, vs = [.ref d, .int 3, .int 2] ∧ StAt H d wl cl (n + 10) ∧ ∀ H' v r, SameX d wl H H' → StAt H' d wl cl n → Curl r → RawAt wl H' v (.x r) → Q v H'
theorem ok_l_curl (T : TX K mg) : Fx P w K mg base 5 (d_l_curl.ad K) (spCur K) := by
  refine fx_mk T fd_l_curl rfl sc_l_curl bd_l_curl (fun vs H Q E h => ?_) (fun cdv A outer s H vs Q E hr h => ?_)
  · obtain ⟨d, wl, cl, n, rfl, _⟩ := h
    rfl
  · obtain ⟨d, wl, cl, n, rfl, hst, q⟩ := h
    refine ⟨_, (pss_cons (ps_set (i := 3) sc_l_curl.nd rfl (.inl rfl) (pe_op op_cat (pe_lst (pa_cons pe_int (pa_cons pe_int pa_nil))) (pe_lc (own := [("_law_place", 4)]) rfl sc_l_curl.nd (pi_range1 (by rfl) (T.r "range") (pa_cons (pe_f (ok_l_take T) (T.g "_law_take") hr (by decide) (by rfl) (pa_cons (pv 0) (pa_cons (pe_op op_sub (pv 1) pe_int) pa_nil))) pa_nil)) (blkOk_by (own := [("_law_place", 4)]) (N := n_l_curl) (sc := defScope s_l_curl) (by decide +kernel)) (fun _ _ _ _ _ => (pg_name (i := 4) sc_l_curl.nd rfl (.inl rfl))) (fun _ _ _ _ _ => pts_nil) (fun _ _ _ _ _ => (pe_f (ok_l_number T) (T.g "_law_number") hr (by decide) (by rfl) (pa_cons (pv 0) (pa_cons (pv 2) pa_nil))))))) (pss_one (ps_ret (pe_tup (pa_cons pe_str (pa_cons (pe_op op_cat (pv 3) (pe_lst (pa_cons (pe_f (ok_l_pick T) (T.g "_law_pick") hr (by decide) (by rfl) (pa_cons (pv 0) (pa_cons (pe_lst (pa_cons pe_int (pa_cons (pe_un un_neg pe_int) (pa_cons (pe_op op_add pe_int (pe_f (ok_l_take T) (T.g "_law_take") hr (by decide) (by rfl) (pa_cons (pv 0) (pa_cons (pv 2) pa_nil)))) pa_nil)))) pa_nil))) pa_nil))) pa_nil)))))), ?_⟩
    refine ⟨by show 2 ≤ sizeLine; decide, fun l0 hl0 => ?_⟩
    have s1 := same_upd (o := .lst [.int 0, .int 0]) hl0
    have st1 := hst.same s1
    refine ⟨_, rfl, _, rfl, _, _, rfl, rfl, d, wl, cl, n + 9, 2, rfl, st1, by decide, by decide, fun H2 f x2 st2 f0 f1 => ?_⟩
    have hl2 : H2 l0 = some (.lst [.int 0, .int 0]) := x2 _ _ (hst.ne hl0).1 (hst.ne hl0).2.1 upd_same
    have x02 : SameX d wl H H2 := SameX.tr (Same.x s1) x2
    refine ⟨f, rfl, by omega, by omega, fun D hD => ?_⟩
    have hDD : H D = none := by
      cases e : H D with
      | none => rfl
      | some u =>
        have := x02 D u (st2.ne hD).1 (st2.ne hD).2.1 e
        rw [this] at hD
        cases hD
    have lD : l0 ≠ D := ne_new hl2 hD
    refine lc_range (fun i H' => SameX d wl H H' ∧ StAt H' d wl cl (n + 9 - 3 * i) ∧ H' l0 = some (.lst [.int 0, .int 0]) ∧ ∃ ns : List Int, H' D = some (.lst (ns.map V.int)) ∧ ns.length = i ∧ ∀ z ∈ ns, -2 ≤ z ∧ z ≤ 2) ?_ (fun i H' hi hP => ?_) (fun H' hP => ?_)
    · exact ⟨SameX.tr x02 (Same.x (same_upd hD)), st2.same (same_upd hD), (upd_ne lD).trans hl2, [], upd_same, rfl, fun z hz => by simp at hz⟩
    · obtain ⟨x3, st3, hl3, ns, hns, hnl, hb⟩ := hP
      have hi1 : i < 1 := by omega
      have st3' : StAt H' d wl cl (n + 6 + 3) := st3.less (by omega)
      refine ⟨rfl, _, rfl, _, rfl, d, wl, cl, n + 6, 2, rfl, st3', by decide, by decide, fun H4 z x4 st4 z0 z1 => ?_⟩
      have hD4 : H4 D = some (.lst (ns.map V.int)) := x4 _ _ (st2.ne hD).1 (st2.ne hD).2.1 hns
      refine ⟨_, hD4, Nat.lt_of_le_of_lt (by rw [List.length_map]; omega : (ns.map V.int).length ≤ 100) (by decide), ?_⟩
      have x5 : SameX d wl H (upd H4 D (.lst (ns.map V.int ++ [.int z]))) := fun b u h1 h2 e => by
        rw [upd_ne (ne_new e hDD)]
        exact x4 b u h1 h2 (x3 b u h1 h2 e)
      refine ⟨x5, (st4.less (by omega)).put (st2.ne hD).1 (st2.ne hD).2.1 (st2.ne hD).2.2, (upd_ne lD).trans (x4 _ _ (hst.ne hl0).1 (hst.ne hl0).2.1 hl3), ns ++ [z], ?_, by simp [hnl], fun y hy => ?_⟩
      · rw [upd_same]
        simp
      · rcases List.mem_append.mp hy with hy | hy
        · exact hb y hy
        · obtain rfl := List.mem_singleton.mp hy
          omega
    · obtain ⟨x3, st3, hl3, ns, hns, hnl, hb⟩ := hP
      have hn1 : ns.length ≤ 1 := by omega
      refine ⟨l0, D, [.int 0, .int 0], ns.map V.int, rfl, rfl, hl3, hns, small2 (by rw [List.length_map]; show 2 + ns.length ≤ 1000; omega), fun l4 hl4 => ?_⟩
      have s4 := same_upd (o := .lst ([V.int 0, .int 0] ++ ns.map V.int)) hl4
      have st4 : StAt _ d wl cl (n + 2) := (st3.less (by omega)).same s4
      have x04 : SameX d wl H _ := SameX.tr x3 (Same.x s4)
      refine ⟨_, rfl, ?_⟩
      refine ⟨_, rfl, _, rfl, _, rfl, _, rfl, d, wl, cl, n + 1, 2, rfl, st4, by decide, by decide, fun H5 g x5 st5 g0 g1 => ⟨_, _, rfl, rfl, ?_⟩⟩
      refine ⟨by show 3 ≤ sizeLine; decide, fun l6 hl6 => ?_⟩
      have s6 := same_upd (o := .lst [.int 1, .int (-1), .int (1 + g)]) hl6
      have st6 := st5.same s6
      refine ⟨d, wl, cl, n, l6, [.int 1, .int (-1), .int (1 + g)], rfl, st6, upd_same, by simp, by simp, (st5.ne hl6).1, (st5.ne hl6).2.1, fun H7 v x7 st7 hv => ?_⟩
      obtain ⟨z, rfl, hz⟩ : ∃ z : Int, v = .int z ∧ (z = 1 ∨ z = -1 ∨ z = 2) := by
        simp only [List.mem_cons, List.not_mem_nil, or_false] at hv
        rcases hv with rfl | rfl | rfl
        · exact ⟨_, rfl, .inl rfl⟩
        · exact ⟨_, rfl, .inr (.inl rfl)⟩
        · exact ⟨_, rfl, by omega⟩
      have x47 := SameX.tr x5 (SameX.tr (Same.x s6) x7)
      have hl7 : H7 l4 = some (.lst ([V.int 0, .int 0] ++ ns.map V.int)) := x47 _ _ (st3.ne hl4).1 (st3.ne hl4).2.1 upd_same
      refine ⟨by show 1 ≤ sizeLine; decide, fun l8 hl8 => ?_⟩
      have s8 := same_upd (o := .lst [.int z]) hl8
      refine ⟨l4, l8, _, _, rfl, rfl, s8 _ _ hl7, upd_same, small2 (by rw [List.length_append, List.length_map]; show 2 + ns.length + 1 ≤ 1000; omega), fun l9 hl9 => ?_⟩
      have s9 := Same.of_upd (o := .lst ([V.int 0, .int 0] ++ ns.map V.int ++ [.int z])) s8 (none_back s8 hl9)
      refine ⟨by show 2 ≤ sizeLine; decide, fun t ht => ?_⟩
      have s10 := Same.of_upd (o := .tup [.str "x", .ref l9]) s9 (none_back s9 ht)
      have st10 := st7.same s10
      refine q _ _ (0 :: 0 :: (ns ++ [z])) (SameX.tr x04 (SameX.tr x47 (Same.x s10))) st10 ⟨ns, z, rfl, hn1, hb, hz⟩ ⟨t, l9, rfl, upd_same, ?_, ?_⟩
      · rw [upd_ne (ne_new upd_same ht), upd_same]
        simp
      · exact (st7.ne (none_back s8 hl9)).2.1
end
end K5
set_option Elab.async false
set_option linter.all false
set_option maxRecDepth 100000
set_option maxHeartbeats 4000000
namespace K5
open PySem PySem.Spec PyProof.Rows L2
structure Small (c : CF) : Prop where
  ne : c.cs ≠ []
  len : c.cs.length ≤ 2
  r : ∀ q ∈ c.cs, Curl q.1
  d : ∀ q ∈ c.cs, q.2 = 0 ∨ q.2 = 1 ∨ q.2 = -1
  e : pm c.e
  f : pm c.f
  st : (c.s = 0 ∧ c.t = 0) ∨ (c.s = 0 ∧ c.t = 1) ∨ (c.s = -1 ∧ c.t = 0)
theorem parS_snoc (cs : List (List Int × Int)) (q : List Int × Int) : parS (cs ++ [q]) = parS cs ++ [.x q.1, .t 0 (-1) 1 q.2] := by
  unfold parS
  rw [List.flatMap_append]
  rfl
section
variable {P : Program} {w : World} {K : Fg} {mg : Str → Option Value} {base : Heap}
def spSmc (K : Fg) : Sp := fun vs H Q _ => ∃ d wl cl n, vs = [.ref d] ∧ StAt H d wl cl (n + 40) ∧ ∀ H' l us c, SameX d wl H H' → StAt H' d wl cl n → H' l = some (.lst us) → l ≠ wl → Paired (RawAt wl H') us (CF.steps c) → Small c → Q (.ref l) H'
theorem ok_l_small_core (T : TX K mg) : Fx P w K mg base 6 (d_l_small_core.ad K) (spSmc K) := by
  refine fx_mk T fd_l_small_core rfl sc_l_small_core bd_l_small_core (fun vs H Q E h => ?_) (fun cdv A outer s H vs Q E hr h => ?_)
  · obtain ⟨d, wl, cl, n, rfl, _⟩ := h
    rfl
  · obtain ⟨d, wl, cl, n, rfl, hst, q⟩ := h
    refine ⟨_, (pss_cons (ps_set (i := 1) sc_l_small_core.nd rfl (.inl rfl) (pe_lst pa_nil)) (pss_cons (ps_for PassesOwn.never rfl (pi_range1 (by rfl) (T.r "range") (pa_cons (pe_f (ok_l_pick T) (T.g "_law_pick") hr (by decide) (by rfl) (pa_cons (pv 0) (pa_cons (pe_lst (pa_cons pe_int (pa_cons pe_int (pa_cons pe_int (pa_cons pe_int pa_nil))))) pa_nil))) pa_nil)) (pg_name (i := 2) sc_l_small_core.nd rfl (.inl rfl)) (pss_one (ps_set (i := 1) sc_l_small_core.nd rfl (.inl rfl) (pe_op op_cat (pv 1) (pe_lst (pa_cons (pe_f (ok_l_curl T) (T.g "_law_curl") hr (by decide) (by rfl) (pa_cons (pv 0) (pa_cons pe_int (pa_cons pe_int pa_nil)))) (pa_cons (pe_tup (pa_cons pe_str (pa_cons pe_int (pa_cons (pe_un un_neg pe_int) (pa_cons pe_int (pa_cons (pe_f (ok_l_pick T) (T.g "_law_pick") hr (by decide) (by rfl) (pa_cons (pv 0) (pa_cons (pe_lst (pa_cons pe_int (pa_cons pe_int (pa_cons pe_int (pa_cons (pe_un un_neg pe_int) pa_nil))))) pa_nil))) pa_nil)))))) pa_nil))))))) (pss_cons (ps_set (i := 3) sc_l_small_core.nd rfl (.inl rfl) (pe_f (ok_l_pick T) (T.g "_law_pick") hr (by decide) (by rfl) (pa_cons (pv 0) (pa_cons (pe_lst (pa_cons (pe_tup (pa_cons pe_str (pa_cons pe_int (pa_cons pe_int pa_nil)))) (pa_cons (pe_tup (pa_cons pe_str (pa_cons pe_int (pa_cons pe_int pa_nil)))) (pa_cons (pe_tup (pa_cons pe_str (pa_cons pe_int (pa_cons pe_int pa_nil)))) (pa_cons (pe_tup (pa_cons pe_str (pa_cons (pe_un un_neg pe_int) (pa_cons pe_int pa_nil)))) pa_nil))))) pa_nil)))) (pss_one (ps_ret (pe_op op_cat (pv 1) (pe_lst (pa_cons (pe_tup (pa_cons pe_str (pa_cons (pe_f (ok_l_pick T) (T.g "_law_pick") hr (by decide) (by rfl) (pa_cons (pv 0) (pa_cons (pe_lst (pa_cons pe_int (pa_cons pe_int (pa_cons (pe_un un_neg pe_int) pa_nil)))) pa_nil))) (pa_cons pe_int (pa_cons pe_int (pa_cons (pe_f (ok_l_pick T) (T.g "_law_pick") hr (by decide) (by rfl) (pa_cons (pv 0) (pa_cons (pe_lst (pa_cons pe_int (pa_cons pe_int (pa_cons (pe_un un_neg pe_int) pa_nil)))) pa_nil))) pa_nil)))))) (pa_cons (pv 3) pa_nil))))))))), ?_⟩
    refine ⟨Nat.zero_le _, fun l0 hl0 => ?_⟩
    have s1 := same_upd (o := .lst []) hl0
    have st1 := hst.same s1
    refine ⟨_, rfl, by show 4 ≤ sizeLine; decide, fun l2 hl2 => ?_⟩
    have s2 := Same.of_upd (o := .lst [.int 1, .int 1, .int 1, .int 2]) s1 (none_back s1 hl2)
    have st2 := hst.same s2
    refine ⟨d, wl, cl, n + 39, l2, [.int 1, .int 1, .int 1, .int 2], rfl, st2, upd_same, by simp, by decide, (st1.ne hl2).1, (st1.ne hl2).2.1, fun H3 v x3 st3 hv => ?_⟩
    obtain ⟨N, rfl, N1, N2⟩ : ∃ N : Nat, v = .int (N : Nat) ∧ 1 ≤ N ∧ N ≤ 2 := by
      simp only [List.mem_cons, List.not_mem_nil, or_false] at hv
      rcases hv with rfl | rfl | rfl | rfl
      · exact ⟨1, rfl, by decide, by decide⟩
      · exact ⟨1, rfl, by decide, by decide⟩
      · exact ⟨1, rfl, by decide, by decide⟩
      · exact ⟨2, rfl, by decide, by decide⟩
    have hl3 : H3 l0 = some (.lst []) := x3 _ _ (hst.ne hl0).1 (hst.ne hl0).2.1 ((upd_ne (ne_new upd_same hl2)).trans upd_same)
    refine ⟨_, rfl, by omega, by omega, for_range (fun i σ H' => ∃ l y2 cs us, σ = [some (.ref d), some (.ref l), y2, none] ∧ SameX d wl H H' ∧ StAt H' d wl cl (n + 39 - 12 * i) ∧ H' l = some (.lst us) ∧ l ≠ d ∧ l ≠ wl ∧ Paired (RawAt wl H') us (parS cs) ∧ cs.length = i ∧ ∀ q ∈ cs, Curl q.1 ∧ (q.2 = 0 ∨ q.2 = 1 ∨ q.2 = -1))
      ⟨l0, none, [], [], rfl, SameX.tr (Same.x s2) x3, st3, hl3, (hst.ne hl0).1, (hst.ne hl0).2.1, .nil, rfl, fun q hq => by simp at hq⟩ (fun i σ H' hi hP => ?_) (fun σ H' hP => ?_)⟩
    · obtain ⟨l, y2, cs, us, rfl, x4, st4, hl4, ld, lw, hps, hcl, hcs⟩ := hP
      have hi2 : i < 2 := by
        rw [Int.toNat_natCast] at hi
        omega
      have lus : us.length = 2 * i := by rw [paired_len hps, parS_len, hcl]
      refine ⟨_, rfl, _, rfl, d, wl, cl, n + 39 - 12 * i - 10, rfl, st4.less (by omega), fun H5 v r x5 st5 hcur hraw => ?_⟩
      refine ⟨_, rfl, _, rfl, _, rfl, by show 4 ≤ sizeLine; decide, fun l6 hl6 => ?_⟩
      have s6 := same_upd (o := .lst [.int 0, .int 0, .int 1, .int (-1)]) hl6
      refine ⟨d, wl, cl, n + 39 - 12 * i - 10 - 1, l6, [.int 0, .int 0, .int 1, .int (-1)], rfl, (st5.same s6).less (by omega), upd_same, by simp, by decide, (st5.ne hl6).1, (st5.ne hl6).2.1, fun H7 v2 x7 st7 hv2 => ?_⟩
      obtain ⟨z, rfl, hz⟩ : ∃ z : Int, v2 = .int z ∧ (z = 0 ∨ z = 1 ∨ z = -1) := by
        simp only [List.mem_cons, List.not_mem_nil, or_false] at hv2
        rcases hv2 with rfl | rfl | rfl | rfl
        · exact ⟨_, rfl, .inl rfl⟩
        · exact ⟨_, rfl, .inl rfl⟩
        · exact ⟨_, rfl, .inr (.inl rfl)⟩
        · exact ⟨_, rfl, .inr (.inr rfl)⟩
      refine ⟨by show 5 ≤ sizeLine; decide, fun t8 ht8 => ?_⟩
      have s8 := same_upd (o := .tup [.str "turn", .int 0, .int (-1), .int 1, .int z]) ht8
      refine ⟨by show 2 ≤ sizeLine; decide, fun l9 hl9 => ?_⟩
      have s9 := Same.of_upd (o := .lst [v, .ref t8]) s8 (none_back s8 hl9)
      have x57 : SameX d wl H5 H7 := SameX.tr (Same.x s6) x7
      have hl10 := s9 _ _ (x57 _ _ ld lw (x5 _ _ ld lw hl4))
      refine ⟨l, l9, us, [v, .ref t8], rfl, rfl, hl10, upd_same, small2 (by rw [lus]; show 2 * i + 2 ≤ 1000; omega), fun l11 hl11 => ?_⟩
      have s11 := Same.of_upd (o := .lst (us ++ [v, .ref t8])) s9 (none_back s9 hl11)
      refine ⟨l11, _, cs ++ [(r, z)], us ++ [v, .ref t8], rfl, SameX.tr x4 (SameX.tr x5 (SameX.tr x57 (Same.x s11))), (st7.same s11).less (by omega), upd_same, (st7.ne (none_back s9 hl11)).1, (st7.ne (none_back s9 hl11)).2.1, ?_, by simp [hcl], fun q hq => ?_⟩
      · rw [parS_snoc]
        refine paired_app (Paired.mapP hps fun v q h => (((h.sx x5 st4).sx (SameX.tr (Same.x s6) x7) st5)).same s11) (.cons ((hraw.sx x57 st5).same s11) (.cons ⟨t8, rfl, ?_⟩ .nil))
        rw [upd_ne (ne_new ((upd_ne (ne_new upd_same hl9)).trans upd_same) hl11), upd_ne (ne_new upd_same hl9), upd_same]
      · rcases List.mem_append.mp hq with hq | hq
        · exact hcs q hq
        · obtain rfl := List.mem_singleton.mp hq
          exact ⟨hcur, hz⟩
    · obtain ⟨l, y2, cs, us, rfl, x4, st4, hl4, ld, lw, hps, hcl, hcs⟩ := hP
      rw [Int.toNat_natCast] at hcl st4
      have lus : us.length = 2 * N := by rw [paired_len hps, parS_len, hcl]
      refine ⟨_, rfl, by show 3 ≤ sizeLine; decide, fun m1 hm1 => ⟨by show 3 ≤ sizeLine; decide, fun m2 hm2 => ⟨by show 3 ≤ sizeLine; decide, fun m3 hm3 => ⟨_, rfl, by show 3 ≤ sizeLine; decide, fun m4 hm4 => ⟨by show 4 ≤ sizeLine; decide, fun l5 hl5 => ?_⟩⟩⟩⟩⟩
      have a1 := same_upd (o := .tup [.str "move", .int 0, .int 0]) hm1
      have a2 := same_upd (o := .tup [.str "move", .int 0, .int 0]) hm2
      have a3 := same_upd (o := .tup [.str "move", .int 0, .int 1]) hm3
      have a4 := same_upd (o := .tup [.str "move", .int (-1), .int 0]) hm4
      have a5 := same_upd (o := .lst [.ref m1, .ref m2, .ref m3, .ref m4]) hl5
      have b4 := Same.tr a4 a5
      have b3 := Same.tr a3 b4
      have b2 := Same.tr a2 b3
      have b1 := Same.tr a1 b2
      have st5 := st4.same b1
      have nel := (st4.same (Same.tr a1 (Same.tr a2 (Same.tr a3 a4)))).ne hl5
      refine ⟨d, wl, cl, n + 39 - 12 * N - 1, l5, [.ref m1, .ref m2, .ref m3, .ref m4], rfl, st5.less (by omega), upd_same, by simp, by show 4 ≤ 100; decide, nel.1, nel.2.1, fun H6 v x6 st6 hv => ?_⟩
      obtain ⟨sv, tv, hmv, hsv⟩ : ∃ sv tv : Int, RawAt wl H6 v (.m sv tv) ∧ ((sv = 0 ∧ tv = 0) ∨ (sv = 0 ∧ tv = 1) ∨ (sv = -1 ∧ tv = 0)) := by
        have fx := SameX.fixS x6 st5
        simp only [List.mem_cons, List.not_mem_nil, or_false] at hv
        rcases hv with rfl | rfl | rfl | rfl
        · exact ⟨0, 0, ⟨m1, rfl, fx _ _ rfl (b2 _ _ upd_same)⟩, .inl ⟨rfl, rfl⟩⟩
        · exact ⟨0, 0, ⟨m2, rfl, fx _ _ rfl (b3 _ _ upd_same)⟩, .inl ⟨rfl, rfl⟩⟩
        · exact ⟨0, 1, ⟨m3, rfl, fx _ _ rfl (b4 _ _ upd_same)⟩, .inr (.inl ⟨rfl, rfl⟩)⟩
        · exact ⟨-1, 0, ⟨m4, rfl, fx _ _ rfl (a5 _ _ upd_same)⟩, .inr (.inr ⟨rfl, rfl⟩)⟩
      have pick3 : ∀ v : V, v ∈ ([.int 1, .int 1, .int (-1)] : List V) → ∃ z : Int, v = .int z ∧ pm z := fun v hv => by
        simp only [List.mem_cons, List.not_mem_nil, or_false] at hv
        rcases hv with rfl | rfl | rfl
        · exact ⟨_, rfl, .inl rfl⟩
        · exact ⟨_, rfl, .inl rfl⟩
        · exact ⟨_, rfl, .inr rfl⟩
      refine ⟨_, rfl, _, rfl, _, rfl, by show 3 ≤ sizeLine; decide, fun l7 hl7 => ?_⟩
      have c7 := same_upd (o := .lst [.int 1, .int 1, .int (-1)]) hl7
      refine ⟨d, wl, cl, n + 39 - 12 * N - 2, l7, [.int 1, .int 1, .int (-1)], rfl, (st6.same c7).less (by omega), upd_same, by simp, by decide, (st6.ne hl7).1, (st6.ne hl7).2.1, fun H8 v1 x8 st8 hv1 => ?_⟩
      obtain ⟨e, rfl, he⟩ := pick3 v1 hv1
      refine ⟨_, rfl, _, rfl, by show 3 ≤ sizeLine; decide, fun l9 hl9 => ?_⟩
      have c9 := same_upd (o := .lst [.int 1, .int 1, .int (-1)]) hl9
      refine ⟨d, wl, cl, n, l9, [.int 1, .int 1, .int (-1)], rfl, (st8.same c9).less (by omega), upd_same, by simp, by decide, (st8.ne hl9).1, (st8.ne hl9).2.1, fun H10 v2 x10 st10 hv2 => ?_⟩
      obtain ⟨f, rfl, hf⟩ := pick3 v2 hv2
      have x68 := SameX.tr (Same.x c7) x8
      have x810 := SameX.tr (Same.x c9) x10
      refine ⟨by show 5 ≤ sizeLine; decide, fun t11 ht11 => ?_⟩
      have s11 := same_upd (o := .tup [.str "turn", .int e, .int 0, .int 0, .int f]) ht11
      refine ⟨_, rfl, by show 2 ≤ sizeLine; decide, fun l12 hl12 => ?_⟩
      have s12 := Same.of_upd (o := .lst [.ref t11, v]) s11 (none_back s11 hl12)
      have x46 : SameX d wl H' H6 := SameX.tr (Same.x b1) x6
      have hl13 := s12 _ _ (x810 _ _ ld lw (x68 _ _ ld lw (x46 _ _ ld lw hl4)))
      refine ⟨l, l12, us, [.ref t11, v], rfl, rfl, hl13, upd_same, small2 (by rw [lus]; show 2 * N + 2 ≤ 1000; omega), fun l14 hl14 => ?_⟩
      have s14 := Same.of_upd (o := .lst (us ++ [.ref t11, v])) s12 (none_back s12 hl14)
      refine q _ l14 (us ++ [.ref t11, v]) ⟨cs, e, f, sv, tv⟩ (SameX.tr x4 (SameX.tr x46 (SameX.tr x68 (SameX.tr x810 (Same.x s14))))) (st10.same s14) upd_same (st10.ne (none_back s12 hl14)).2.1 ?_ ⟨?_, by show cs.length ≤ 2; omega, fun q hq => (hcs q hq).1, fun q hq => (hcs q hq).2, he, hf, hsv⟩
      · refine paired_app (Paired.mapP hps fun v q h => ((((h.same b1).sx x6 st5).sx x68 st6).sx x810 st8).same s14) (.cons ⟨t11, rfl, ?_⟩ (.cons (((hmv.sx x68 st6).sx x810 st8).same s14) .nil))
        rw [upd_ne (ne_new ((upd_ne (ne_new upd_same hl12)).trans upd_same) hl14), upd_ne (ne_new upd_same hl12), upd_same]
      · show cs ≠ []
        intro z
        rw [z] at hcl
        simp at hcl
        omega
end
end K5
set_option Elab.async false
set_option linter.all false
set_option maxRecDepth 100000
set_option maxHeartbeats 4000000
namespace K5
open PySem PySem.Spec PyProof.Rows L2
theorem Curl.bend {r : List Int} (h : Curl r) : Bend r := by
  obtain ⟨ns, z, rfl, _, _, hz⟩ := h
  exact ⟨ns ++ [z], rfl, ns, z, rfl, by rcases hz with rfl | rfl | rfl <;> decide⟩
theorem Curl.ent {r : List Int} (h : Curl r) : ∀ x ∈ r, -2 ≤ x ∧ x ≤ 2 := by
  obtain ⟨ns, z, rfl, _, hn, hz⟩ := h
  intro x hx
  rcases List.mem_cons.mp hx with rfl | hx
  · omega
  rcases List.mem_cons.mp hx with rfl | hx
  · omega
  rcases List.mem_append.mp hx with hx | hx
  · exact hn x hx
  · obtain rfl := List.mem_singleton.mp hx
    omega
theorem Curl.len {r : List Int} (h : Curl r) : r.length ≤ 4 := by
  obtain ⟨ns, z, rfl, hn, _⟩ := h
  simp
  omega
theorem bt2 {i : Int} (h : -2 ≤ i ∧ i ≤ 2) : Bt 1000 i := Bt.mono (n := 2) (by unfold Bt; omega) (by decide)
theorem Small.fit {c : CF} (h : Small c) : c.fit where
  ok := ⟨h.ne, fun q hq => (h.r q hq).bend, h.e, h.f⟩
  len := Nat.le_trans h.len (by decide)
  rl := fun q hq => Nat.le_trans (h.r q hq).len (by decide)
  d := fun q hq => bt2 (by have := h.d q hq; omega)
  r := fun q hq x hx => bt2 ((h.r q hq).ent x hx)
  s := bt2 (by have := h.st; omega)
  t := bt2 (by have := h.st; omega)
def RowAt (H : Hp) (v : V) (q : List Int × List Int) : Prop := ∃ p l t6, v = .ref p ∧ H p = some (.tup [.ref l, .ref t6]) ∧ H l = some (.lst (q.1.map V.int)) ∧ H t6 = some (.tup (q.2.map V.int))
theorem RowAt.same {H H' : Hp} {v : V} {q : List Int × List Int} (h : RowAt H v q) (s : Same H H') : RowAt H' v q := by
  obtain ⟨p, l, t6, e, h1, h2, h3⟩ := h
  exact ⟨p, l, t6, e, s _ _ h1, s _ _ h2, s _ _ h3⟩
def RowIn (H0 H : Hp) (v : V) (q : List Int × List Int) : Prop := ∃ p l t6, v = .ref p ∧ H p = some (.tup [.ref l, .ref t6]) ∧ H0 l = some (.lst (q.1.map V.int)) ∧ H t6 = some (.tup (q.2.map V.int))
theorem RowIn.keep {H0 H H' : Hp} {v : V} {q : List Int × List Int} (h : RowIn H0 H v q) (s : Fixes H H') : RowIn H0 H' v q := by
  obtain ⟨p, l, t6, e, h1, h2, h3⟩ := h
  exact ⟨p, l, t6, e, s _ _ rfl h1, h2, s _ _ rfl h3⟩
theorem raw_get {wl : Addr} {H : Hp} {us : List V} {ss : List Stp} (h : Paired (RawAt wl H) us ss) {i : Nat} {st : Stp} (e : ss[i]? = some st) : ∃ v, us[i]? = some v ∧ RawAt wl H v st := by
  have hi : i < us.length := by
    rw [paired_len h]
    exact (List.getElem?_eq_some_iff.mp e).1
  obtain ⟨st', e', r⟩ := paired_get h (List.getElem?_eq_getElem hi)
  rw [e] at e'
  obtain rfl := Option.some.inj e'
  exact ⟨_, List.getElem?_eq_getElem hi, r⟩
section
variable {P : Program} {w : World} {K : Fg} {mg : Str → Option Value} {base : Heap}
def spLcp (K : Fg) : Sp := fun vs H Q _ => ∃ l us c wl, vs = [.ref l] ∧ H l = some (.lst us) ∧ Paired (RawAt wl H) us (CF.steps c) ∧ Small c ∧ ∀ H' l' us', Same H H' → H' l' = some (.lst us') → Paired (RowAt H') us' (CF.cpl c) → Q (.ref l') H'
theorem ok_l_couples (T : TX K mg) : Fx P w K mg base 1 (d_l_couples.ad K) (spLcp K) := by
  refine fx_mk T fd_l_couples rfl sc_l_couples bd_l_couples (fun vs H Q E h => ?_) (fun cdv A outer s H vs Q E hr h => ?_)
  · obtain ⟨l, us, c, wl, rfl, _⟩ := h
    rfl
  · obtain ⟨l, us, c, wl, rfl, hl, hps, hsm, q⟩ := h
    refine ⟨_, (pss_cons (ps_par3 (i := 1) (j := 2) (l := 3) rfl sc_l_couples.nd rfl rfl rfl (by decide) (by decide) (by decide) rfl rfl rfl (pa_cons (pe_lst pa_nil) (pa_cons (pe_ix ix_list (pv 0) (pe_un un_neg pe_int) (fun _ _ => rfl)) (pa_cons (pe_ix ix_list (pv 0) (pe_un un_neg pe_int) (fun _ _ => rfl)) pa_nil))) rfl) (pss_cons (ps_for PassesOwn.never rfl (pi_range3 (by rfl) (T.r "range") (pa_cons pe_int (pa_cons (pe_op op_sub (pe_callB call_len_seq (by rfl) (T.r "len") bi_len (pa_cons (pv 0) pa_nil)) pe_int) (pa_cons pe_int pa_nil)))) (pg_name (i := 4) sc_l_couples.nd rfl (.inl rfl)) (pss_cons (ps_asg (pe_ix ix_list (pv 0) (pe_op op_add (pv 4) pe_int) (fun _ _ => rfl)) (pg_tup rfl (pgs_cons (pg_name (i := 5) sc_l_couples.nd rfl (.inl rfl)) (pgs_cons (pg_name (i := 6) sc_l_couples.nd rfl (.inl rfl)) (pgs_cons (pg_name (i := 7) sc_l_couples.nd rfl (.inl rfl)) (pgs_cons (pg_name (i := 8) sc_l_couples.nd rfl (.inl rfl)) (pgs_cons (pg_name (i := 9) sc_l_couples.nd rfl (.inl rfl)) pgs_nil))))))) (pss_cons (ps_set (i := 10) sc_l_couples.nd rfl (.inl rfl) (pe_tup (pa_cons (pv 6) (pa_cons (pv 7) (pa_cons (pv 8) (pa_cons (pv 9) (pa_cons pe_int (pa_cons pe_int pa_nil)))))))) (pss_cons (ps_if (pt_cmpR op_eq (pe_op op_add (pv 4) pe_int) (pe_callB call_len_seq (by rfl) (T.r "len") bi_len (pa_cons (pv 0) pa_nil)) (nomark _)) (pss_cons (ps_set (i := 11) sc_l_couples.nd rfl (.inl rfl) (pe_tup (pa_cons (pe_op op_add (pe_op op_mulW (pe_ix ix_tup (pv 2) pe_int (fun _ _ => rfl)) (pv 6)) (pe_op op_mulW (pe_ix ix_tup (pv 2) pe_int (fun _ _ => rfl)) (pv 8))) (pa_cons (pe_op op_add (pe_op op_mulW (pe_ix ix_tup (pv 2) pe_int (fun _ _ => rfl)) (pv 7)) (pe_op op_mulW (pe_ix ix_tup (pv 2) pe_int (fun _ _ => rfl)) (pv 9))) pa_nil)))) (pss_one (ps_set (i := 10) sc_l_couples.nd rfl (.inl rfl) (pe_op op_catT (pv 11) (pe_tup (pa_cons (pe_op op_mulW (pe_ix ix_tup (pv 2) pe_int (fun _ _ => rfl)) (pv 8)) (pa_cons (pe_op op_mulW (pe_ix ix_tup (pv 2) pe_int (fun _ _ => rfl)) (pv 9)) (pa_cons (pe_ix ix_tup (pv 3) pe_int (fun _ _ => rfl)) (pa_cons (pe_ix ix_tup (pv 3) pe_int (fun _ _ => rfl)) pa_nil))))))))) pss_nil) (pss_one (ps_expr (pe_bm PySem.F.plainAttrs_list PySem.F.slot_list_append PySem.F.type_list_append mt_append (pv 1) (pa_cons (pe_tup (pa_cons (pe_ix ix_tup (pe_ix ix_list (pv 0) (pv 4) (fun _ _ => rfl)) pe_int (fun _ _ => rfl)) (pa_cons (pv 10) pa_nil))) pa_nil)))))))) (pss_one (ps_ret (pv 1))))), ?_⟩
    have f := hsm.fit
    have hne := List.length_pos_iff.mpr f.ok.ne
    obtain ⟨N, hN⟩ : ∃ N, c.cs.length = N + 1 := ⟨c.cs.length - 1, by omega⟩
    have hN2 : N ≤ 1 := by have := hsm.len; omega
    have hul : us.length = 2 * N + 4 := by rw [paired_len hps, CF.len_steps, hN]; omega
    have at4 : ∀ i st, c.steps[i]? = some st → ∃ v, us[i]? = some v ∧ RawAt wl H v st := fun i st e => raw_get hps e
    have eT : c.steps[2 * N + 2]? = some (.t c.e 0 0 c.f) := by
      show (c.parts ++ _)[_]? = _
      rw [List.getElem?_append_right (by rw [show c.parts = parS c.cs from rfl, parS_len]; omega), show c.parts = parS c.cs from rfl, parS_len, hN, show 2 * N + 2 - 2 * (N + 1) = 0 by omega]
      rfl
    have eM : c.steps[2 * N + 3]? = some (.m c.s c.t) := by
      show (c.parts ++ _)[_]? = _
      rw [List.getElem?_append_right (by rw [show c.parts = parS c.cs from rfl, parS_len]; omega), show c.parts = parS c.cs from rfl, parS_len, hN, show 2 * N + 3 - 2 * (N + 1) = 1 by omega]
      rfl
    obtain ⟨_, gT, pT, rfl, hT⟩ := at4 _ _ eT
    obtain ⟨_, gM, pM, rfl, hM⟩ := at4 _ _ eM
    have n2 : atI us (-((2 : Nat) : Int)) = some _ := atI_neg (v := .ref pT) (by rw [show us.length - 2 = 2 * N + 2 by omega]; exact gT) (by decide) (by omega)
    have n1 : atI us (-((1 : Nat) : Int)) = some _ := atI_neg (v := .ref pM) (by rw [show us.length - 1 = 2 * N + 3 by omega]; exact gM) (by decide) (by omega)
    refine ⟨Nat.zero_le _, fun l0 hl0 => ?_⟩
    have s0 := same_upd (o := .lst []) hl0
    refine ⟨_, rfl, _, rfl, l, us, _, _, rfl, rfl, SqL.of (s0 _ _ hl), n2, _, rfl, _, rfl, l, us, _, _, rfl, rfl, SqL.of (s0 _ _ hl), n1, _, _, _, rfl, ?_⟩
    refine ⟨_, rfl, l, us, rfl, .inl (SqL.of (s0 _ _ hl)), _, _, rfl, rfl, ?_⟩
    have hb : ((us.length : Nat) : Int) - 2 = 2 * ((N + 1 : Nat) : Int) := by omega
    have rg := rg2 (N + 1) (by omega)
    have sz : Sm 0 := by unfold Sm; decide
    have so : Sm 1 := by unfold Sm; decide
    have sn : Sm (-1) := by unfold Sm; decide
    refine ⟨0, _, 2, N + 1, rfl, ⟨by decide, by decide, by rw [hb]; exact rg.1, by rw [hb]; exact rg.2⟩, for_it (walk_rangeC (lo := 0) (c := 2) (n := N + 1)) (fun i σ H' => ∃ y4 y5 y6 y7 y8 y9 y10 y11 acc, σ = [some (.ref l), some (.ref l0), some (.ref pT), some (.ref pM), y4, y5, y6, y7, y8, y9, y10, y11] ∧ Same H H' ∧ H' l0 = some (.lst acc) ∧ Paired (RowIn H H') acc (c.cpl.take i))
      ⟨none, none, none, none, none, none, none, none, [], rfl, s0, upd_same, .nil⟩ (fun _ _ _ _ _ => trivial) (fun i x σ H2 H' hi hP hY => ?_) (fun σ H' hP => ?_)⟩
    · obtain ⟨y4, y5, y6, y7, y8, y9, y10, y11, acc, rfl, s, hl2, hac⟩ := hP
      obtain ⟨rfl, rfl⟩ := hY
      obtain ⟨cq, hcq⟩ : ∃ cq, c.cs[i]? = some cq := ⟨_, List.getElem?_eq_getElem (by omega)⟩
      obtain ⟨e1, e2⟩ := CF.at_x hcq
      obtain ⟨_, g1, a1, r1, rfl, w1, hr1, _⟩ := at4 _ _ e1
      obtain ⟨_, g2, a2, rfl, w2⟩ := at4 _ _ e2
      have sd : Sm cq.2 := Sm.of (f.d cq (List.mem_of_getElem? hcq)) (by decide) (by decide)
      have i1 : (0 : Int) + (i : Nat) * 2 = ((2 * i : Nat) : Int) := by omega
      have i2 : (0 : Int) + (i : Nat) * 2 + 1 = ((2 * i + 1 : Nat) : Int) := by omega
      have hacl : acc.length = i := by
        rw [paired_len hac, List.length_take, show c.cpl.length = _ from cpl_len _ _ _ _ _]
        omega
      refine ⟨_, rfl, _, rfl, _, _, rfl, rfl, l, us, _, _, rfl, rfl, SqL.of (s _ _ hl), by rw [i2]; exact atI_nat g2, ?_⟩
      refine ⟨a2, _, rfl, SqT.of (s _ _ w2), rfl, _, _, rfl, _, _, rfl, _, _, rfl, _, _, rfl, _, _, rfl, rfl, ?_⟩
      refine ⟨_, rfl, _, rfl, _, rfl, _, rfl, by show 6 ≤ sizeLine; decide, fun t6 ht6 => ?_⟩
      have s1 := same_upd (o := .tup [.int 0, .int (-1), .int 1, .int cq.2, .int 0, .int 0]) ht6
      have hl0n : H l0 = none := hl0
      have fin : ∀ (H4 : Hp) pp t6 (six : List Int), Same H' H4 → c.cpl[i]? = some (cq.1, six) → H4 t6 = some (.tup (six.map V.int)) → H4 pp = some (.tup [.ref r1, .ref t6]) →
          Same H (upd H4 l0 (.lst (acc ++ [.ref pp]))) ∧ (upd H4 l0 (.lst (acc ++ [.ref pp]))) l0 = some (.lst (acc ++ [.ref pp])) ∧ Paired (RowIn H (upd H4 l0 (.lst (acc ++ [.ref pp])))) (acc ++ [.ref pp]) (c.cpl.take (i + 1)) := fun H4 pp t6 six s3 ec e6 e7 => by
        refine ⟨Same.of_upd (Same.tr s s3) hl0n, upd_same, ?_⟩
        have fx : Fixes H4 (upd H4 l0 (.lst (acc ++ [.ref pp]))) := fun b o hb e => by
          have ne : b ≠ l0 := by
            rintro rfl
            rw [s3 _ _ hl2] at e
            cases e
            cases hb
          rw [upd_ne ne]
          exact e
        rw [List.take_succ, ec]
        exact paired_app (Paired.mapP hac fun v q z => (z.keep (Same.fix s3)).keep fx) (.cons ⟨pp, r1, t6, rfl, fx _ _ rfl e7, hr1, fx _ _ rfl e6⟩ .nil)
      have len100 : acc.length < sizeLine := Nat.lt_of_le_of_lt (by omega : acc.length ≤ 100) (by decide)
      have last : ∀ H3 : Hp, Same H' H3 → (upd H' t6 (.tup [.int 0, .int (-1), .int 1, .int cq.2, .int 0, .int 0]) = H3 → True) → True := fun _ _ _ => trivial
      refine ⟨_, rfl, _, _, rfl, rfl, _, rfl, l, us, rfl, .inl (SqL.of (s1 _ _ (s _ _ hl))), rfl, _, rfl, ite2 (fun hz => ?_) (fun hz => ?_)⟩
      · -- the last bend
        have hiN : i = N := by
          have z : (0 : Int) + (i : Nat) * 2 + 4 = ((us.length : Nat) : Int) := by simpa using hz
          omega
        have se : Sm c.e := hsm.e.sm
        have sf : Sm c.f := hsm.f.sm
        have hT1 := SqT.of (K := K) (s1 _ _ (s _ _ hT))
        refine ⟨_, rfl, pT, _, _, _, rfl, rfl, hT1, rfl, _, rfl, _, _, rfl, rfl, Sm.mul se sz, _, rfl, pT, _, _, _, rfl, rfl, hT1, rfl, _, rfl, _, _, rfl, rfl, Sm.mul sz so, _, _, rfl, rfl, ?_⟩
        refine ⟨_, rfl, pT, _, _, _, rfl, rfl, hT1, rfl, _, rfl, _, _, rfl, rfl, Sm.mul se sn, _, rfl, pT, _, _, _, rfl, rfl, hT1, rfl, _, rfl, _, _, rfl, rfl, Sm.mul sz sd, _, _, rfl, rfl, by show 2 ≤ sizeLine; decide, fun tu htu => ?_⟩
        have s2 := Same.of_upd (o := .tup [.int (c.e * 0 + 0 * 1), .int (c.e * (-1) + 0 * cq.2)]) s1 (none_back s1 htu)
        have hT2 := SqT.of (K := K) (s2 _ _ (s _ _ hT))
        have hM2 := SqT.of (K := K) (s2 _ _ (s _ _ hM))
        refine ⟨_, rfl, _, rfl, pT, _, _, _, rfl, rfl, hT2, rfl, _, rfl, _, _, rfl, rfl, Sm.mul sf so, _, rfl, pT, _, _, _, rfl, rfl, hT2, rfl, _, rfl, _, _, rfl, rfl, Sm.mul sf sd, _, rfl, pM, _, _, _, rfl, rfl, hM2, rfl, _, rfl, pM, _, _, _, rfl, rfl, hM2, rfl, by show 4 ≤ sizeLine; decide, fun tv htv => ?_⟩
        have s3 := Same.of_upd (o := .tup [.int (c.f * 1), .int (c.f * cq.2), .int c.s, .int c.t]) s2 (none_back s2 htv)
        refine ⟨tu, tv, _, _, rfl, rfl, SqT.of ((upd_ne (ne_new upd_same htv)).trans upd_same), SqT.of upd_same, by simp, by show 6 ≤ sizeLine; decide, (fun z => absurd z (by simp)), fun _ ts hts => ?_⟩
        have s4 := Same.of_upd (o := .tup ([.int (c.e * 0 + 0 * 1), .int (c.e * (-1) + 0 * cq.2)] ++ [.int (c.f * 1), .int (c.f * cq.2), .int c.s, .int c.t])) s3 (none_back s3 hts)
        refine ⟨_, rfl, .inl ⟨rfl, _, SqL.of (s4 _ _ hl2)⟩, ?_⟩
        refine ⟨_, rfl, _, rfl, l, us, _, _, rfl, rfl, SqL.of (s4 _ _ (s _ _ hl)), by rw [i1]; exact atI_nat g1, a1, _, _, _, rfl, rfl, SqT.of (s4 _ _ (s _ _ w1)), rfl, _, rfl, by show 2 ≤ sizeLine; decide, fun pp hpp => ?_⟩
        have s5 := Same.of_upd (o := .tup [.ref r1, .ref ts]) s4 (none_back s4 hpp)
        have fn := fin _ pp ts [c.e * 0 + 0 * 1, c.e * (-1) + 0 * cq.2, c.f * 1, c.f * cq.2, c.s, c.t] s5 (cpl_last hcq (by omega)) ((upd_ne (ne_new upd_same hpp)).trans upd_same) upd_same
        exact ⟨l0, acc, _, rfl, rfl, s5 _ _ hl2, len100, _, _, _, _, _, _, _, _, _, rfl, fn.1, fn.2.1, fn.2.2⟩
      · have hiN : i + 1 < c.cs.length := by
          have z : ¬ (0 : Int) + (i : Nat) * 2 + 4 = ((us.length : Nat) : Int) := by simpa using hz
          omega
        refine ⟨_, rfl, .inl ⟨rfl, _, SqL.of (s1 _ _ hl2)⟩, ?_⟩
        refine ⟨_, rfl, _, rfl, l, us, _, _, rfl, rfl, SqL.of (s1 _ _ (s _ _ hl)), by rw [i1]; exact atI_nat g1, a1, _, _, _, rfl, rfl, SqT.of (s1 _ _ (s _ _ w1)), rfl, _, rfl, by show 2 ≤ sizeLine; decide, fun pp hpp => ?_⟩
        have s5 := Same.of_upd (o := .tup [.ref r1, .ref t6]) s1 (none_back s1 hpp)
        have fn := fin _ pp t6 [0, -1, 1, cq.2, 0, 0] s5 (cpl_get hcq hiN) ((upd_ne (ne_new upd_same hpp)).trans upd_same) upd_same
        exact ⟨l0, acc, _, rfl, rfl, s5 _ _ hl2, len100, _, _, _, _, _, _, _, _, _, rfl, fn.1, fn.2.1, fn.2.2⟩
    · obtain ⟨y4, y5, y6, y7, y8, y9, y10, y11, acc, rfl, s, hl2, hac⟩ := hP
      refine ⟨_, rfl, q _ _ _ s hl2 ?_⟩
      rw [← hN, show c.cs.length = c.cpl.length from (cpl_len _ _ _ _ _).symm, List.take_length] at hac
      exact Paired.mapP hac fun v q ⟨p, l, t6, e, h1, h2, h3⟩ => ⟨p, l, t6, e, h1, s _ _ h2, h3⟩
end
end K5
set_option Elab.async false
set_option linter.all false
set_option maxRecDepth 100000
set_option maxHeartbeats 4000000
namespace K5
open PySem PySem.Spec PyProof.Rows L2
theorem pi_listK {X : Cx} {K : Fg} {tg l : Expr} {tl : TE} (hK : X.K = K) (hl : PE X l tl) : PI X tg l (iList K tl) := by
  subst hK
  exact pi_list hl
theorem cr_sumK {X : Cx} {K : Fg} (hK : X.K = K) (hc : X.calm = true) : CallR X (.builtin "sum") (rSum K) := by
  subst hK
  exact cr_sum hc
theorem sl_listK {X : Cx} {K : Fg} (hK : X.K = K) : SlR X (rSlL K) := by
  subst hK
  exact sl_list
def scOf : List Stmt → Scope
  | .Assign _ (.ListComp _ _ sc _) _ :: _ => sc
  | _ => defScope s_l_sizes
def RsAt (H : Hp) (v : V) (q : List Int × List Int) : Prop := ∃ p t6, v = .ref p ∧ H p = some (.tup [.int (lowS q.1), .ref t6]) ∧ H t6 = some (.tup (q.2.map V.int))
theorem RsAt.keep {H H' : Hp} {v : V} {q : List Int × List Int} (h : RsAt H v q) (s : Fixes H H') : RsAt H' v q := by
  obtain ⟨p, t6, e, h1, h2⟩ := h
  exact ⟨p, t6, e, s _ _ rfl h1, s _ _ rfl h2⟩
section
variable {P : Program} {w : World} {K : Fg} {mg : Str → Option Value} {base : Heap}
def spSiz (K : Fg) : Sp := fun vs H Q _ => ∃ l us c wl, vs = [.ref l] ∧ H l = some (.lst us) ∧ Paired (RawAt wl H) us (CF.steps c) ∧ Small c ∧ ∀ H' t hg rc, Same H H' → MaxOf hg ((CF.links c).map hgt) → MaxOf rc ((CF.links c).map hgt ++ (CF.links c).map lr) → H' t = some (.tup [.int 1, .int hg, .int rc]) → Q (.ref t) H'
theorem ok_l_sizes (T : TX K mg) : Fx P w K mg base 2 (d_l_sizes.ad K) (spSiz K) := by
  refine fx_mk T fd_l_sizes rfl sc_l_sizes bd_l_sizes (fun vs H Q E h => ?_) (fun cdv A outer s H vs Q E hr h => ?_)
  · obtain ⟨l, us, c, wl, rfl, _⟩ := h
    rfl
  · obtain ⟨l, us, c, wl, rfl, hl, hps, hsm, q⟩ := h
    refine ⟨_, (pss_cons (ps_setLc (i := 1) (g := (gTup K 2 (gCons (gName 15) (gCons (gName 16) gNil)))) (own := [("_law_row", 15), ("_law_six", 16)]) rfl sc_l_sizes.nd rfl rfl (sw_true rfl rfl rfl (by decide +kernel)) (pi_list (pe_f (ok_l_couples T) (T.g "_law_couples") hr (by decide) (by rfl) (pa_cons (pv 0) pa_nil))) (blkOk_by (own := [("_law_row", 15), ("_law_six", 16)]) (N := n_l_sizes) (sc := defScope s_l_sizes) (by decide +kernel)) (fun _ _ _ _ _ => (pg_tup rfl (pgs_cons (pg_name (i := 15) sc_l_sizes.nd rfl (.inl rfl)) (pgs_cons (pg_name (i := 16) sc_l_sizes.nd rfl (.inl rfl)) pgs_nil)))) (fun _ _ _ _ _ => pts_nil) (fun _ _ _ _ _ => (pe_tup (pa_cons (pe_callB (r := rSum K) (cr_sumK rfl rfl) (by rfl) (T.r "sum") bi_sum (pa_cons (pe_lc (own := [("_law_worth", 17)]) rfl sc_l_sizes.nd (pi_listK (K := K) rfl (pe_slice (r := rSlL K) (sl_listK rfl) (pv 15) po_none (po_some (pe_un un_neg pe_int)))) (blkOk_by (own := [("_law_worth", 17)]) (N := n_l_sizes) (sc := scOf (defBody s_l_sizes)) (by decide +kernel)) (fun _ _ _ _ _ => pg_name (i := 17) sc_l_sizes.nd rfl (.inl rfl)) (fun _ _ _ _ _ => pts_nil) (fun _ _ _ _ _ => (pe_callB call_abs (by rfl) (T.r "abs") bi_abs (pa_cons (pv 17) pa_nil)))) pa_nil)) (pa_cons (pv 16) pa_nil))))) (pss_cons (ps_set (i := 3) sc_l_sizes.nd rfl (.inl rfl) (pe_callB (cr_max rfl) (by rfl) (T.r "max") bi_max (pa_cons (pe_lc (g := (gTup K 2 (gCons (gName 2) (gCons (gName 16) gNil)))) (own := [("_law_low", 2), ("_law_six", 16)]) rfl sc_l_sizes.nd (pi_list (pv 1)) (blkOk_by (own := [("_law_low", 2), ("_law_six", 16)]) (N := n_l_sizes) (sc := defScope s_l_sizes) (by decide +kernel)) (fun _ _ _ _ _ => (pg_tup rfl (pgs_cons (pg_name (i := 2) sc_l_sizes.nd rfl (.inl rfl)) (pgs_cons (pg_name (i := 16) sc_l_sizes.nd rfl (.inl rfl)) pgs_nil)))) (fun _ _ _ _ _ => pts_nil) (fun _ _ _ _ _ => (pe_op op_add (pe_op op_mulW pe_int (pe_callB call_abs (by rfl) (T.r "abs") bi_abs (pa_cons (pe_ix (r := rIxT K) ix_tup (pv 16) pe_int (fun _ _ => rfl)) pa_nil))) pe_int))) pa_nil))) (pss_cons (ps_par (i := 4) (j := 5) rfl sc_l_sizes.nd rfl rfl (by decide) rfl rfl (pa_cons (pe_lst pa_nil) (pa_cons (pe_lst pa_nil) pa_nil)) rfl) (pss_cons (ps_for PassesOwn.never rfl (pi_list (pv 1)) (pg_tup rfl (pgs_cons (pg_name (i := 2) sc_l_sizes.nd rfl (.inl rfl)) (pgs_cons (pg_tup rfl (pgs_cons (pg_name (i := 6) sc_l_sizes.nd rfl (.inl rfl)) (pgs_cons (pg_name (i := 7) sc_l_sizes.nd rfl (.inl rfl)) (pgs_cons (pg_name (i := 8) sc_l_sizes.nd rfl (.inl rfl)) (pgs_cons (pg_name (i := 9) sc_l_sizes.nd rfl (.inl rfl)) (pgs_cons (pg_name (i := 10) sc_l_sizes.nd rfl (.inl rfl)) (pgs_cons (pg_name (i := 11) sc_l_sizes.nd rfl (.inl rfl)) pgs_nil))))))) pgs_nil))) (pss_cons (ps_expr (pe_bm PySem.F.plainAttrs_list PySem.F.slot_list_append PySem.F.type_list_append mt_append (pv 4) (pa_cons (pe_op op_add (pe_op op_add (pv 2) (pv 3)) (pe_op op_mulW pe_int (pe_op op_add (pe_op op_add (pe_op op_add (pe_op op_add (pe_callB call_abs (by rfl) (T.r "abs") bi_abs (pa_cons (pv 7) pa_nil)) (pe_callB call_abs (by rfl) (T.r "abs") bi_abs (pa_cons (pv 9) pa_nil))) (pe_callB call_abs (by rfl) (T.r "abs") bi_abs (pa_cons (pv 10) pa_nil))) (pe_callB call_abs (by rfl) (T.r "abs") bi_abs (pa_cons (pv 11) pa_nil))) pe_int))) pa_nil))) (pss_cons (ps_par (i := 12) (j := 13) rfl sc_l_sizes.nd rfl rfl (by decide) rfl rfl (pa_cons (pe_op op_add (pe_callB call_abs (by rfl) (T.r "abs") bi_abs (pa_cons (pv 7) pa_nil)) (pe_callB call_abs (by rfl) (T.r "abs") bi_abs (pa_cons (pv 9) pa_nil))) (pa_cons (pe_op op_add (pe_callB call_abs (by rfl) (T.r "abs") bi_abs (pa_cons (pe_op op_mulW (pv 9) (pv 10)) pa_nil)) (pe_callB call_abs (by rfl) (T.r "abs") bi_abs (pa_cons (pe_op op_mulW (pv 7) (pv 11)) pa_nil))) pa_nil)) rfl) (pss_cons (ps_set (i := 14) sc_l_sizes.nd rfl (.inl rfl) (pe_op op_add (pe_callB call_abs (by rfl) (T.r "abs") bi_abs (pa_cons (pe_op op_mulW (pv 8) (pv 10)) pa_nil)) (pe_callB call_abs (by rfl) (T.r "abs") bi_abs (pa_cons (pe_op op_mulW (pv 6) (pv 11)) pa_nil)))) (pss_one (ps_expr (pe_bm PySem.F.plainAttrs_list PySem.F.slot_list_append PySem.F.type_list_append mt_append (pv 5) (pa_cons (pe_op op_mulW pe_int (pe_op op_add (pe_op op_add (pe_op op_add (pe_op op_add (pe_op op_add (pv 2) (pv 3)) pe_int) (pe_op op_mulW pe_int (pv 12))) (pe_op op_mulW (pe_op op_add (pe_op op_mulW pe_int (pv 12)) pe_int) (pv 14))) (pv 13))) pa_nil)))))))) (pss_one (ps_ret (pe_tup (pa_cons (pv 3) (pa_cons (pe_callB (cr_max rfl) (by rfl) (T.r "max") bi_max (pa_cons (pv 4) pa_nil)) (pa_cons (pe_callB (cr_max rfl) (by rfl) (T.r "max") bi_max (pa_cons (pe_op op_cat (pv 4) (pv 5)) pa_nil)) pa_nil)))))))))), ?_⟩
    have f := hsm.fit
    have hne := List.length_pos_iff.mpr f.ok.ne
    refine ⟨_, rfl, l, us, c, wl, rfl, hl, hps, hsm, fun H1 l1 us1 s1 hl1 hus1 => ⟨l1, rfl, ⟨_, SqL.of hl1⟩, fun D hD => ?_⟩⟩
    have hul : us1.length = c.cpl.length := paired_len hus1
    have hcl : c.cpl.length = c.cs.length := cpl_len _ _ _ _ _
    have hsz : us1.length ≤ sizeLine := small2 (by have := f.len; omega)
    refine lc_all (walk_list (xs := us1)) (R := fun i H v => ∃ cq, c.cpl[i]? = some cq ∧ RsAt H v cq) hD (fun H' s => SqL.of (s _ _ hl1)) yat_same (fun i H H' v fx h => ?_) hsz (fun i v H3 H' Q' hi s hY hq => ?_) (fun H3 acc s3 hacc hal hav => ?_)
    · obtain ⟨cq, e, h⟩ := h
      exact ⟨cq, e, h.keep fx⟩
    · obtain ⟨rfl, hx1⟩ := hY
      obtain ⟨cq, e, hc⟩ := paired_get hus1 hx1
      obtain ⟨p, lr0, t6, rfl, g1, g2, g3⟩ := hc.same s
      have six := f.six (List.mem_of_getElem? e)
      have hpos := List.length_pos_iff.mpr six.ne
      refine ⟨p, _, rfl, SqT.of g1, rfl, _, _, rfl, _, _, rfl, rfl, rfl, ?_⟩
      refine ⟨_, rfl, _, rfl, _, rfl, lr0, _, rfl, SqL.of g2, fun y hy => ?_⟩
      have e3 : cutV (cq.1.map V.int) none (some (-((1 : Nat) : Int))) = (cq.1.take (cq.1.length - 1)).map V.int := by rw [cut_neg _ 1 (by decide) (by rw [List.length_map]; omega), List.length_map, List.map_take]
      have e4 : cutV (cq.1.map V.int) none (some (-1)) = (cq.1.take (cq.1.length - 1)).map V.int := e3
      have sy := same_upd (o := .lst (cutV (cq.1.map V.int) none (some (-1)))) hy
      have ey : (upd H' y (.lst (cutV (cq.1.map V.int) none (some (-1))))) y = some (.lst ((cq.1.take (cq.1.length - 1)).map V.int)) := by rw [upd_same, e4]
      refine ⟨y, rfl, ⟨_, SqL.of ey⟩, fun D2 hD2 => ?_⟩
      refine lc_all (walk_list (xs := (cq.1.take (cq.1.length - 1)).map V.int)) (R := fun i _ v => ∃ z, (cq.1.take (cq.1.length - 1))[i]? = some z ∧ v = .int (ab z)) hD2 (fun H' s => SqL.of (s _ _ ey)) yat_same (fun _ _ _ _ _ r => r) (by rw [List.length_map, List.length_take]; exact small2 (by have := six.len; omega)) (fun i x H5 H' Q' hi s hY hq => ?_) (fun H5 acc2 s5 hacc2 hal2 hav2 => ?_)
      · obtain ⟨rfl, hx⟩ := hY
        rw [List.length_map] at hi
        rw [List.getElem?_map, List.getElem?_eq_getElem hi] at hx
        obtain rfl := Option.some.inj hx
        exact ⟨rfl, _, rfl, _, rfl, hq _ _ Same.rfl' ⟨_, List.getElem?_eq_getElem hi, rfl⟩⟩
      · have e1 := acc_ints hal2 hav2
        subst e1
        refine ⟨_, _, rfl, SqL.of hacc2, _, rfl, by show 2 ≤ sizeLine; decide, fun t ht => ?_⟩
        have s6 := Same.of_upd (o := .tup [.int ((cq.1.take (cq.1.length - 1)).map ab).sum, .ref t6]) (Same.tr sy s5) (none_back (Same.tr sy s5) ht)
        refine hq _ _ s6 ⟨cq, e, t, t6, rfl, ?_, s6 _ _ g3⟩
        rw [upd_same, lowS_sum]
    -- the rows are made
    have hrs : Paired (RsAt H3) acc c.cpl := paired_of (by rw [hal, hul]) hav
    have hal' : acc.length = c.cs.length := by rw [hal, hul, hcl]
    have s03 := Same.tr s1 s3
    refine ⟨_, rfl, D, rfl, ⟨_, SqL.of hacc⟩, fun D2 hD2 => ?_⟩
    refine lc_all (walk_list (xs := acc)) (R := fun i _ v => v = .int 1) hD2 (fun H' s => SqL.of (s _ _ hacc)) yat_same (fun _ _ _ _ _ r => r) (small2 (by have := f.len; omega)) (fun i v H4 H' Q' hi s hY hq => ?_) (fun H4 acc2 s4 hacc2 hal2 hav2 => ?_)
    · obtain ⟨rfl, hx1⟩ := hY
      obtain ⟨cq, e, hc⟩ := paired_get hrs hx1
      obtain ⟨pp, t6, rfl, g1, g3⟩ := hc.keep (Same.fix s)
      obtain ⟨a, b, c1, d, s', t, e6⟩ := (f.six (List.mem_of_getElem? e)).six
      have ha : a = 0 := by
        obtain ⟨p', _, z | z⟩ := cpl_mem (List.mem_of_getElem? e)
        · rw [z] at e6
          exact (List.cons.inj e6).1.symm
        · rw [z] at e6
          have := (List.cons.inj e6).1
          rw [Int.mul_zero, Int.zero_mul] at this
          exact this.symm
      rw [e6, ha] at g3
      refine ⟨pp, _, rfl, SqT.of g1, rfl, _, _, rfl, _, _, rfl, rfl, rfl, ?_⟩
      refine ⟨_, rfl, t6, _, _, _, rfl, rfl, SqT.of g3, rfl, _, rfl, _, _, rfl, rfl, Sm.mul (by unfold Sm; decide) (by unfold Sm; decide), _, _, rfl, rfl, hq _ _ Same.rfl' rfl⟩
    have e1 : acc2 = (List.replicate acc.length (1 : Int)).map V.int := acc_map (by rw [hal2, List.length_replicate]) fun j v e => ⟨1, by rw [List.getElem?_replicate, if_pos (by have := (List.getElem?_eq_some_iff.mp e).1; omega)], hav2 j v e⟩
    subst e1
    refine ⟨_, _, rfl, SqL.of hacc2, by rw [List.length_replicate]; omega, fun m hm _ => ?_⟩
    obtain rfl : m = 1 := List.eq_of_mem_replicate hm
    have s04 := Same.tr s03 s4
    have hacc4 := s4 _ _ hacc
    refine ⟨Nat.zero_le _, fun lh hlh => ⟨Nat.zero_le _, fun lq hlq => ⟨_, _, rfl, ?_⟩⟩⟩
    have s5 := same_upd (o := .lst []) hlh
    have s6 := Same.of_upd (o := .lst []) s5 (none_back s5 hlq)
    have hhq : lh ≠ lq := ne_new upd_same hlq
    have hn : lh ≠ lq := hhq
    have nlh : H4 lh = none := hlh
    have nlq : H4 lq = none := none_back s5 hlq
    refine ⟨_, rfl, D, rfl, ⟨_, SqL.of (s6 _ _ hacc4)⟩, for_list (xs := acc) (fun i σ H' => ∃ y2 y6 y7 y8 y9 y10 y11 y12 y13 y14, σ = [some (.ref l), some (.ref D), y2, some (.int 1), some (.ref lh), some (.ref lq), y6, y7, y8, y9, y10, y11, y12, y13, y14, none, none, none] ∧ Same H4 H' ∧ H' lh = some (.lst (((c.cpl.map (lhS 1)).take i).map V.int)) ∧ H' lq = some (.lst (((c.cpl.map (lrS 1)).take i).map V.int)))
      ⟨none, none, none, none, none, none, none, none, none, none, rfl, s6, (upd_ne hn).trans upd_same, upd_same⟩ (fun i σ H' _ h => ?_) (fun i x σ H' hx hP => ?_) (fun σ H' hP => ?_)⟩
    · obtain ⟨_, _, _, _, _, _, _, _, _, _, _, s, _⟩ := h
      exact SqL.of (s _ _ hacc4)
    · obtain ⟨y2, y6, y7, y8, y9, y10, y11, y12, y13, y14, rfl, s, hh, hq⟩ := hP
      obtain ⟨⟨r0, s0⟩, e, hc⟩ := paired_get hrs hx
      obtain ⟨pp, t6, rfl, g1, g3⟩ := (hc.keep (Same.fix s4)).keep (Same.fix s)
      obtain ⟨⟨a, b, c1, d, s', t', e6⟩, bt, hne6, hl6, hlow⟩ := f.six (List.mem_of_getElem? e)
      have e6' : s0 = [a, b, c1, d, s', t'] := e6
      subst e6'
      have ha := bt a (by simp)
      have hb := bt b (by simp)
      have hcc := bt c1 (by simp)
      have hd := bt d (by simp)
      have hs := bt s' (by simp)
      have ht := bt t' (by simp)
      have hwd : Bt 1005 1 := (bt_small (by simp)).mono (by decide)
      have b2 : Bt 2 2 := by unfold Bt; decide
      have b3 : Bt 2 3 := by unfold Bt; decide
      have bo : Bt 1006 (ab b + ab d) := hb.ab.add hd.ab
      have bs : Bt 2011 (ab (c1 * s') + ab (a * t')) := (hcc.mul hs).ab.add (ha.mul ht).ab
      have br : Bt 2011 (ab (d * s') + ab (b * t')) := (hd.mul hs).ab.add (hb.mul ht).ab
      have b5 : Bt 1009 (2 * (ab b + ab d) + 3) := (b2.mul bo).add (b3.mono (by decide))
      have b6 := b5.mul bs
      have big : Bt 3030 (lowS r0 + 1 + 3 + 2 * (ab b + ab d) + (2 * (ab b + ab d) + 3) * (ab (c1 * s') + ab (a * t')) + (ab (d * s') + ab (b * t'))) :=
        Bt.mono (n := 3022) (Bt.add (n := 3021) (Bt.add (n := 3020) (Bt.mono (n := 1103) (Bt.add (n := 1102) (Bt.add (n := 1101) (Bt.add (n := 1100) hlow (hwd.mono (by decide))) (b3.mono (by decide))) ((b2.mul bo).mono (by decide))) (by decide)) b6) (br.mono (by decide))) (by decide)
      refine ⟨pp, _, rfl, SqT.of g1, rfl, _, _, rfl, _, _, rfl, t6, _, rfl, SqT.of g3, rfl, _, _, rfl, _, _, rfl, _, _, rfl, _, _, rfl, _, _, rfl, _, _, rfl, rfl, rfl, ?_⟩
      refine at_st (σ' := [some (.ref l), some (.ref D), some (.int (lowS r0)), some (.int 1), some (.ref lh), some (.ref lq), some (.int a), some (.int b), some (.int c1), some (.int d), some (.int s'), some (.int t'), y12, y13, y14, none, none, none]) rfl ?_
      have len1 : ((c.cpl.map (lhS 1)).take i).length ≤ 100 := by rw [List.length_take, List.length_map]; have := f.len; omega
      have len2 : ((c.cpl.map (lrS 1)).take i).length ≤ 100 := by rw [List.length_take, List.length_map]; have := f.len; omega
      refine ⟨_, rfl, .inl ⟨rfl, _, SqL.of hh⟩, ?_⟩
      refine ⟨_, rfl, _, rfl, _, _, rfl, rfl, _, rfl, _, rfl, _, rfl, _, rfl, _, _, rfl, rfl, _, rfl, _, rfl, _, _, rfl, rfl, _, rfl, _, rfl, _, _, rfl, rfl, _, _, rfl, rfl, _, _, rfl, rfl, ?_, _, _, rfl, rfl, ?_⟩
      · exact Bt.cm (n := 2) (m := 1010) b2 (Bt.mono (n := 1009) ((((hb.ab.add hd.ab).add (hs.ab.mono (by decide))).add (ht.ab.mono (by decide))).add (Bt.mono (n := 1) (by unfold Bt; decide) (by decide))) (by decide)) (by decide) (by decide) (by decide)
      refine ⟨lh, _, _, rfl, rfl, hh, Nat.lt_of_le_of_lt (by rw [List.length_map]; exact len1) (by decide), ?_⟩
      refine ⟨_, rfl, _, rfl, _, rfl, _, rfl, _, _, rfl, rfl, _, rfl, _, rfl, _, _, rfl, rfl, hd.cm hs (by decide) (by decide) (by decide), _, rfl, _, rfl, _, rfl, _, _, rfl, rfl, hb.cm ht (by decide) (by decide) (by decide), _, rfl, _, _, rfl, rfl, _, _, rfl, ?_⟩
      refine ⟨_, rfl, _, rfl, _, _, rfl, rfl, hcc.cm hs (by decide) (by decide) (by decide), _, rfl, _, rfl, _, rfl, _, _, rfl, rfl, ha.cm ht (by decide) (by decide) (by decide), _, rfl, _, _, rfl, rfl, ?_⟩
      refine at_nm (σ' := [some (.ref l), some (.ref D), some (.int (lowS r0)), some (.int 1), some (.ref lh), some (.ref lq), some (.int a), some (.int b), some (.int c1), some (.int d), some (.int s'), some (.int t'), some (.int (ab b + ab d)), some (.int (ab (d * s') + ab (b * t'))), some (.int (ab (c1 * s') + ab (a * t'))), none, none, none]) rfl ?_
      have hq2 : (upd H' lh (.lst (((c.cpl.map (lhS 1)).take i).map V.int ++ [.int (lowS r0 + 1 + 2 * (ab b + ab d + ab s' + ab t' + 1))]))) lq = _ := (upd_ne hn.symm).trans hq
      refine ⟨_, rfl, .inl ⟨rfl, _, SqL.of hq2⟩, ?_⟩
      refine ⟨_, rfl, _, rfl, _, _, rfl, rfl, _, _, rfl, rfl, _, rfl, _, _, rfl, rfl, b2.cm bo (by decide) (by decide) (by decide), _, _, rfl, rfl, _, rfl, _, _, rfl, rfl, b2.cm bo (by decide) (by decide) (by decide), _, _, rfl, rfl, _, rfl, _, _, rfl, rfl, b5.cm bs (by decide) (by decide) (by decide), _, _, rfl, rfl, _, rfl, _, _, rfl, rfl, _, _, rfl, rfl, b2.cm big (by decide) (by decide) (by decide), ?_⟩
      refine ⟨lq, _, _, rfl, rfl, hq2, Nat.lt_of_le_of_lt (by rw [List.length_map]; exact len2) (by decide), ?_⟩
      refine ⟨_, _, _, _, _, _, _, _, _, _, rfl, Same.of_upd (Same.of_upd s nlh) nlq, ?_, ?_⟩
      · rw [upd_ne hn, upd_same, List.take_succ, List.getElem?_map, e, List.map_append]
        rfl
      · rw [upd_same, List.take_succ, List.getElem?_map, e, List.map_append]
        rfl
    · obtain ⟨y2, y6, y7, y8, y9, y10, y11, y12, y13, y14, rfl, s, hh, hq⟩ := hP
      have tk : ∀ g : List Int × List Int → Int, (c.cpl.map g).take acc.length = c.cpl.map g := fun g => by rw [show acc.length = (c.cpl.map g).length by rw [List.length_map, hcl, hal'], List.take_length]
      rw [tk] at hh hq
      have eh : c.cpl.map (lhS 1) = c.links.map hgt := cpl_h f.ok.e f.ok.f c.cs
      have er : c.cpl.map (lrS 1) = c.links.map lr := cpl_r f.ok.e f.ok.f c.cs
      rw [eh] at hh
      rw [er] at hq
      have lnk : (c.links.map hgt).length = c.cs.length := by rw [← eh, List.length_map, hcl]
      have lnk2 : (c.links.map lr).length = c.cs.length := by rw [← er, List.length_map, hcl]
      have fl := f.len
      refine ⟨_, rfl, _, rfl, lh, _, rfl, SqL.of hh, by rw [lnk]; omega, fun hg g1 g2 => ?_⟩
      refine ⟨_, rfl, _, rfl, lh, lq, _, _, rfl, rfl, hh, hq, small2 (by rw [(List.length_map V.int).trans lnk, (List.length_map V.int).trans lnk2]; omega), fun z hz => ?_⟩
      have sz := same_upd (o := .lst ((c.links.map hgt).map V.int ++ (c.links.map lr).map V.int)) hz
      refine ⟨z, c.links.map hgt ++ c.links.map lr, rfl, SqL.of (by rw [upd_same, List.map_append]), by rw [List.length_append, lnk]; omega, fun rc g3 g4 => ?_⟩
      refine ⟨by show 3 ≤ sizeLine; decide, fun t ht => q _ t hg rc (Same.tr s04 (Same.tr s (Same.of_upd sz (none_back sz ht)))) ⟨g1, g2⟩ ⟨g3, g4⟩ upd_same⟩
end
end K5
set_option Elab.async false
set_option linter.all false
set_option maxRecDepth 100000
set_option maxHeartbeats 4000000
namespace K5
open PySem PySem.Spec PyProof.Rows L2
def isX : Stp → Bool
  | .x _ => true
  | _ => false
theorem CF.fit.oks {c : CF} (f : c.fit) : ∀ st ∈ c.steps, OkS st := fun st hst => by
  rcases List.mem_append.mp (show st ∈ c.parts ++ _ from hst) with h | h
  · have := f.core.all st h
    cases st with
    | x r => trivial
    | t a b c' d =>
      obtain ⟨rfl, rfl, rfl, hd⟩ := this
      refine ⟨⟨by unfold Sm; decide, by unfold Sm; decide, by unfold Sm; decide, hd⟩, .inl (by rw [Int.zero_mul]; rfl)⟩
    | m a b => exact this.elim
  · have h' : st = .t c.e 0 0 c.f ∨ st = .m c.s c.t := by simpa using h
    rcases h' with rfl | rfl
    · refine ⟨⟨pm.sm f.ok.e, by unfold Sm; decide, by unfold Sm; decide, pm.sm f.ok.f⟩, ?_⟩
      rcases f.ok.e with a | a <;> rcases f.ok.f with b | b <;> rw [a, b] <;> simp
    · trivial
section
variable {P : Program} {w : World} {K : Fg} {mg : Str → Option Value} {base : Heap}
def spBox (K : Fg) : Sp := fun vs H Q _ => ∃ t, ∃ a r : Int, vs = [.ref t] ∧ H t = some (.tup [.int 1, .int a, .int r]) ∧ 0 ≤ r ∧ r ≤ 100 ∧ Q (.int ((2 * r - 1) * (2 * 1 * r - 1))) H
theorem ok_l_box (T : TX K mg) : Fx P w K mg base 1 (d_l_box.ad K) (spBox K) := by
  refine fx_mk T fd_l_box rfl sc_l_box bd_l_box (fun vs H Q E h => ?_) (fun cdv A outer s H vs Q E hr h => ?_)
  · obtain ⟨t, a, r, rfl, _⟩ := h
    rfl
  · obtain ⟨t, a, r, rfl, ht, r0, r1, q⟩ := h
    refine ⟨_, (pss_cons (ps_asg (pv 0) (pg_tup rfl (pgs_cons (pg_name (i := 1) sc_l_box.nd rfl (.inl rfl)) (pgs_cons (pg_name (i := 2) sc_l_box.nd rfl (.inl rfl)) (pgs_cons (pg_name (i := 3) sc_l_box.nd rfl (.inl rfl)) pgs_nil))))) (pss_one (ps_ret (pe_op op_mulW (pe_op op_sub (pe_op op_mulW pe_int (pv 3)) pe_int) (pe_op op_sub (pe_op op_mulW (pe_op op_mulW pe_int (pv 1)) (pv 3)) pe_int))))), ?_⟩
    have sm : ∀ i : Int, -1 ≤ i → i ≤ 1000 → Sm i := fun i a b => Sm.of (n := 10) (by unfold Bt; omega) (by decide) (by decide)
    refine ⟨_, rfl, t, _, rfl, SqT.of ht, rfl, _, _, rfl, _, _, rfl, _, _, rfl, rfl, ?_⟩
    exact ⟨_, rfl, _, _, rfl, rfl, Sm.mul (sm _ (by decide) (by decide)) (sm r (by omega) (by omega)), _, _, rfl, rfl, _, rfl, _, _, rfl, rfl, Sm.mul (sm _ (by decide) (by decide)) (sm _ (by decide) (by decide)), _, rfl, _, _, rfl, rfl, Sm.mul (sm _ (by decide) (by decide)) (sm r (by omega) (by omega)), _, _, rfl, rfl, _, _, rfl, rfl, Sm.mul (sm (2 * r - 1) (by omega) (by omega)) (sm (2 * 1 * r - 1) (by omega) (by omega)), q⟩
def spGcd : Sp := fun vs H Q _ => ∃ a b : Nat, vs = [.int (a : Nat), .int (b : Nat)] ∧ Q (.int (Nat.gcd a b : Nat)) H
theorem ok_l_gcd (T : TX K mg) : Fx P w K mg base 1 (d_l_gcd.ad K) (spGcd) := by
  refine fx_mk T fd_l_gcd rfl sc_l_gcd bd_l_gcd (fun vs H Q E h => ?_) (fun cdv A outer s H vs Q E hr h => ?_)
  · obtain ⟨a, b, rfl, _⟩ := h
    rfl
  · obtain ⟨a, b, rfl, q⟩ := h
    refine ⟨_, (pss_cons (ps_while PassesOwn.never (pt_cmpR op_gt (pv 1) pe_int (nomark _)) (pss_one (ps_par (i := 0) (j := 1) rfl sc_l_gcd.nd rfl rfl (by decide) rfl rfl (pa_cons (pv 1) (pa_cons (pe_op op_mod (pe_callTy call_int1 (by rfl) (T.r "int") ty_int (pa_cons (pv 0) pa_nil)) (pe_callTy call_int1 (by rfl) (T.r "int") ty_int (pa_cons (pv 1) pa_nil))) pa_nil)) rfl))) (pss_one (ps_ret (pv 0)))), ?_⟩
    refine ⟨fun m σ H' => H' = H ∧ ∃ x : Nat, σ = [some (.int (x : Nat)), some (.int (m : Nat))] ∧ Nat.gcd x m = Nat.gcd a b, ⟨b, rfl, a, rfl, rfl⟩, fun m σ H' hW => ?_⟩
    obtain ⟨rfl, x, rfl, hg⟩ := hW
    refine ⟨_, rfl, _, _, rfl, rfl, _, rfl, ite2 (fun hm => ?_) (fun hm => ?_)⟩
    · have hm' : 0 < m := by
        have : (0 : Int) < (m : Int) := of_decide_eq_true hm
        omega
      refine ⟨fun σ' H2 => ∃ m', m' < m ∧ H2 = H' ∧ ∃ x : Nat, σ' = [some (.int (x : Nat)), some (.int (m' : Nat))] ∧ Nat.gcd x m' = Nat.gcd a b, fun _ _ z => z, ?_⟩
      refine ⟨_, rfl, _, rfl, .inl ⟨_, rfl, _, rfl, .inl ⟨_, rfl, _, _, rfl, rfl, by omega, _, _, rfl, x % m, Nat.mod_lt _ hm', rfl, m, ?_, ?_⟩⟩⟩
      · show [some (V.int (m : Nat)), some (V.int ((x : Int) % (m : Int)))] = _
        first
          | rfl
          | rw [Int.natCast_emod]
          | simp
      · rw [← hg, Nat.gcd_comm x m, Nat.gcd_rec m x, Nat.gcd_comm]
    · have hm' : m = 0 := by
        have : ¬ (0 : Int) < (m : Int) := fun z => hm (decide_eq_true z)
        omega
      subst hm'
      rw [Nat.gcd_zero_right] at hg
      refine ⟨_, rfl, ?_⟩
      rw [hg]
      exact q
def spIsl (K : Fg) : Sp := fun vs H Q _ => ∃ v st wl, vs = [v] ∧ RawAt wl H v st ∧ ∀ H', Same H H' → Q (.bl (isX st)) H'
theorem ok_l_is_low (T : TX K mg) : Fx P w K mg base 1 (d_l_is_low.ad K) (spIsl K) := by
  refine fx_mk T fd_l_is_low rfl sc_l_is_low bd_l_is_low (fun vs H Q E h => ?_) (fun cdv A outer s H vs Q E hr h => ?_)
  · obtain ⟨v, st, wl, rfl, _⟩ := h
    rfl
  · obtain ⟨v, st, wl, rfl, hst, q⟩ := h
    refine ⟨_, (pss_one (ps_ret (pe_cmpR op_in_seq (pe_ix ix_tup (pv 0) pe_int (fun _ _ => rfl)) (pe_tup (pa_cons pe_str (pa_cons pe_str pa_nil))) (by with_unfolding_all rfl)))), ?_⟩
    cases st with
    | x r =>
      obtain ⟨a, l, rfl, ha, hl⟩ := hst
      exact ⟨_, rfl, a, _, _, _, rfl, rfl, SqT.of ha, rfl, by show 2 ≤ sizeLine; decide, fun p hp => ⟨p, _, rfl, .inr (SqT.of upd_same), rfl, rfl, q _ (same_upd hp)⟩⟩
    | t a b c d =>
      obtain ⟨a, rfl, ha⟩ := hst
      exact ⟨_, rfl, a, _, _, _, rfl, rfl, SqT.of ha, rfl, by show 2 ≤ sizeLine; decide, fun p hp => ⟨p, _, rfl, .inr (SqT.of upd_same), rfl, rfl, q _ (same_upd hp)⟩⟩
    | m a b =>
      obtain ⟨a, rfl, ha⟩ := hst
      exact ⟨_, rfl, a, _, _, _, rfl, rfl, SqT.of ha, rfl, by show 2 ≤ sizeLine; decide, fun p hp => ⟨p, _, rfl, .inr (SqT.of upd_same), rfl, rfl, q _ (same_upd hp)⟩⟩
def spSto (K : Fg) : Sp := fun vs H Q _ => ∃ v st wl, vs = [v] ∧ RawAt wl H v st ∧ (∀ r, st = .x r → trim r = r) ∧ ∀ H' u, Same H H' → StepAt K H' u st → Q u H'
theorem ok_l_step_of (T : TX K mg) : Fx P w K mg base 4 (d_l_step_of.ad K) (spSto K) := by
  refine fx_mk T fd_l_step_of rfl sc_l_step_of bd_l_step_of (fun vs H Q E h => ?_) (fun cdv A outer s H vs Q E hr h => ?_)
  · obtain ⟨v, st, wl, rfl, _⟩ := h
    rfl
  · obtain ⟨v, st, wl, rfl, hst, htr, q⟩ := h
    refine ⟨_, (pss_one (ps_ret (pe_ifExp (pt_val (pe_f (ok_l_is_low T) (T.g "_law_is_low") hr (by decide) (by rfl) (pa_cons (pv 0) pa_nil))) (pe_tup (pa_cons (pe_ix ix_tup (pv 0) pe_int (fun _ _ => rfl)) (pa_cons (pe_new (ok_Rule_init T) (T.m "Rule") (T.g "Rule") hr (by decide) (by rfl) (pa_cons (pe_callTy call_list_of (by rfl) (T.r "list") ty_list (pa_cons (pe_ix ix_tup (pv 0) pe_int (fun _ _ => rfl)) pa_nil)) pa_nil)) pa_nil))) (pv 0)))), ?_⟩
    refine ⟨_, rfl, v, st, wl, rfl, hst, fun H1 s1 => ⟨_, rfl, ?_⟩⟩
    cases st with
    | x r =>
      obtain ⟨a, l, rfl, ha, hl, _⟩ := hst
      have ha1 := s1 _ _ ha
      refine iteT ⟨_, rfl, a, _, _, _, rfl, rfl, SqT.of ha1, rfl, _, rfl, a, _, _, _, rfl, rfl, SqT.of ha1, rfl, l, _, rfl, .inl (SqL.of (s1 _ _ hl)), fun l2 hl2 => ?_⟩
      have s2 := same_upd (o := .lst (r.map V.int)) hl2
      refine fun x dx nx nd ne => ⟨x, dx, l2, r, rfl, upd_same, (same_mk nx nd) _ _ upd_same, fun H3 k hx => ⟨rfl, ?_⟩⟩
      have s3 : Same H H3 := Same.tr s1 (Same.tr s2 (Same.made nx nd fun b o e nb => k b o nb e))
      rw [htr r rfl] at hx
      exact ⟨by show 2 ≤ sizeLine; decide, fun p hp => q _ _ (Same.of_upd s3 (none_back s3 hp)) ⟨p, x, rfl, upd_same, hx.keep (Same.fix (same_upd hp))⟩⟩
    | t a b c d =>
      obtain ⟨p, rfl, hp⟩ := hst
      exact iteF ⟨_, rfl, q _ _ s1 ⟨p, rfl, s1 _ _ hp⟩⟩
    | m a b =>
      obtain ⟨p, rfl, hp⟩ := hst
      exact iteF ⟨_, rfl, q _ _ s1 ⟨p, rfl, s1 _ _ hp⟩⟩
def spPro (K : Fg) : Sp := fun vs H Q _ => ∃ l us c wl, vs = [.ref l] ∧ H l = some (.lst us) ∧ Paired (RawAt wl H) us (CF.steps c) ∧ Small c ∧ ∀ H' x, Same H H' → ProgAt K H' x (CF.steps c) → Q (.ref x) H'
theorem ok_l_program_of (T : TX K mg) : Fx P w K mg base 5 (d_l_program_of.ad K) (spPro K) := by
  refine fx_mk T fd_l_program_of rfl sc_l_program_of bd_l_program_of (fun vs H Q E h => ?_) (fun cdv A outer s H vs Q E hr h => ?_)
  · obtain ⟨l, us, c, wl, rfl, _⟩ := h
    rfl
  · obtain ⟨l, us, c, wl, rfl, hl, hps, hsm, q⟩ := h
    refine ⟨_, (pss_one (ps_ret (pe_new (ok_Program_init T) (T.m "Program") (T.g "Program") hr (by decide) (by rfl) (pa_cons (pe_lc (own := [("_law_step", 1)]) rfl sc_l_program_of.nd (pi_list (pv 0)) (blkOk_by (own := [("_law_step", 1)]) (N := n_l_program_of) (sc := defScope s_l_program_of) (by decide +kernel)) (fun _ _ _ _ _ => (pg_name (i := 1) sc_l_program_of.nd rfl (.inl rfl))) (fun _ _ _ _ _ => pts_nil) (fun _ _ _ _ _ => (pe_f (ok_l_step_of T) (T.g "_law_step_of") hr (by decide) (by rfl) (pa_cons (pv 1) pa_nil)))) pa_nil)))), ?_⟩
    have f := hsm.fit
    have hul : us.length = 2 * c.cs.length + 2 := by rw [paired_len hps, CF.len_steps]
    have h40 := f.len
    refine ⟨_, rfl, l, rfl, ⟨_, SqL.of hl⟩, fun D hD => ?_⟩
    refine lc_all (walk_list (xs := us)) (R := fun i H v => ∃ st, c.steps[i]? = some st ∧ StepAt K H v st) hD (fun H' s => SqL.of (s _ _ hl)) yat_same (fun i H H' v fx h => ?_) (small2 (by omega)) (fun i v H3 H' Q' hi s hY hq => ?_) (fun H3 acc s3 hacc hal hav => ?_)
    · obtain ⟨st, e, h⟩ := h
      exact ⟨st, e, h.keep fx⟩
    · obtain ⟨rfl, hx1⟩ := hY
      obtain ⟨st, e, hc⟩ := paired_get hps hx1
      refine ⟨rfl, _, rfl, v, st, wl, rfl, hc.same s, fun r er => ?_, fun H4 u s4 hu => hq _ _ s4 ⟨st, e, hu⟩⟩
      subst er
      have hm := List.mem_of_getElem? e
      rcases List.mem_append.mp (show Stp.x r ∈ c.parts ++ _ from hm) with h | h
      · exact trim_nz (bend_nz (show Bend r from f.core.all _ h))
      · simp at h
    · exact new_prog (.inl hacc) (paired_of (by rw [hal, hul, CF.len_steps]) hav) f.oks (by omega) fun H' x s hr => q _ _ (Same.tr s3 s) hr
end
end K5
set_option Elab.async false
set_option linter.all false
set_option maxRecDepth 100000
set_option maxHeartbeats 4000000
namespace K5
open PySem PySem.Spec PyProof.Rows L2
section
variable {P : Program} {w : World} {K : Fg} {mg : Str → Option Value} {base : Heap}
def spBeg (K : Fg) : Sp := fun vs H Q _ => ∃ (a : Addr) (ns : List Int), vs = [.ref a] ∧ SqL K H a (ns.map V.int) ∧ ns.length ≤ 63 ∧ ∀ H' d wl cl, Same H H' → StAt H' d wl cl (2 ^ 40) → Q (.ref d) H'
theorem ok_l_begun (T : TX K mg) : Fx P w K mg base 1 (d_l_begun.ad K) (spBeg K) := by
  refine fx_mk T fd_l_begun rfl sc_l_begun bd_l_begun (fun vs H Q E h => ?_) (fun cdv A outer s H vs Q E hr h => ?_)
  · obtain ⟨a, ns, rfl, _⟩ := h
    rfl
  · obtain ⟨a, ns, rfl, ha, hn, q⟩ := h
    refine ⟨_, (pss_cons (ps_setLc (i := 1) (own := [("_law_cell", 2)]) rfl sc_l_begun.nd rfl rfl (sw_true rfl rfl rfl (by decide +kernel)) (pi_list (pv 0)) (blkOk_by (own := [("_law_cell", 2)]) (N := n_l_begun) (sc := defScope s_l_begun) (by decide +kernel)) (fun _ _ _ _ _ => (pg_name (i := 2) sc_l_begun.nd rfl (.inl rfl))) (fun _ _ _ _ _ => (pts_one (pt_cmpR op_ge (pe_callB call_abs (by rfl) (T.r "abs") bi_abs (pa_cons (pv 2) pa_nil)) (pe_op op_pow pe_int pe_int) (nomark _)))) (fun _ _ _ _ _ => (pe_op op_sub (pe_callB call_abs (by rfl) (T.r "abs") bi_abs (pa_cons (pv 2) pa_nil)) (pe_op op_pow pe_int pe_int)))) (pss_one (ps_ret (pe_disp (pps_cons pe_str (pv 1) (pps_cons pe_str (pe_lc (own := [("_law_cell", 2)]) rfl sc_l_begun.nd (pi_list (pv 0)) (blkOk_by (own := [("_law_cell", 2)]) (N := n_l_begun) (sc := defScope s_l_begun) (by decide +kernel)) (fun _ _ _ _ _ => (pg_name (i := 2) sc_l_begun.nd rfl (.inl rfl))) (fun _ _ _ _ _ => pts_nil) (fun _ _ _ _ _ => (pe_op op_mod (pe_callTy call_int1 (by rfl) (T.r "int") ty_int (pa_cons (pe_callB call_abs (by rfl) (T.r "abs") bi_abs (pa_cons (pv 2) pa_nil)) pa_nil)) pe_int))) (pps_cons pe_str pe_int (pps_cons pe_str pe_int pps_nil)))) (by rfl) (by rfl) (fun z => by cases z) (by decide))))), ?_⟩
    refine ⟨_, rfl, a, rfl, ⟨_, ha⟩, fun D hD => ?_⟩
    refine lc_list (xs := ns.map V.int) (fun i H' => Same H H' ∧ ∃ ws : List Int, H' D = some (.lst (ws.map V.int)) ∧ ws.length ≤ i) ⟨same_upd hD, [], upd_same, Nat.le_refl _⟩ (fun i H' _ h => h.1.seq ha) (fun i x H' hx hP => ?_) (fun H' hP => ?_)
    · obtain ⟨s, ws, hw, hl⟩ := hP
      rw [List.getElem?_map] at hx
      obtain ⟨c, hc, rfl⟩ := Option.map_eq_some_iff.mp hx
      have hi : i < ns.length := (List.getElem?_eq_some_iff.mp hc).1
      refine ⟨rfl, _, rfl, _, rfl, _, _, rfl, rfl, ⟨by decide, by decide, by decide⟩, _, _, rfl, rfl, _, rfl, ?_⟩
      refine ite2 (fun hz => ?_) (fun hz => ⟨s, ws, hw, by omega⟩)
      refine ⟨_, rfl, _, rfl, _, _, rfl, rfl, ⟨by decide, by decide, by decide⟩, _, _, rfl, rfl, ws.map V.int, hw, Nat.lt_of_le_of_lt (by rw [List.length_map]; omega : (ws.map V.int).length ≤ 100) (by decide), ?_⟩
      exact ⟨Same.of_upd s hD, ws ++ [ab c - 10 ^ 18], by rw [upd_same, List.map_append]; rfl, by rw [List.length_append]; show ws.length + 1 ≤ i + 1; omega⟩
    · obtain ⟨s, ws, hw, hl⟩ := hP
      rw [List.length_map] at hl
      refine fun d hd => ?_
      have s1 := same_upd (o := .dK []) hd
      have hw1 := s1 _ _ hw
      refine ⟨_, rfl, _, rfl, a, rfl, ⟨_, (Same.tr s s1).seq ha⟩, fun C hC => ?_⟩
      refine lc_all (walk_list (xs := ns.map V.int)) (R := fun i _ v => ∃ c, ns[i]? = some c ∧ v = .int (ab c % 2147483629)) hC (fun H' s2 => (Same.tr (Same.tr s s1) s2).seq ha) yat_same (fun _ _ _ _ _ r => r) (by rw [List.length_map]; exact small2 (by omega)) (fun i x H1 H' Q' hi s hY hq => ?_) (fun H2 acc s2 hacc hal hav => ?_)
      · obtain ⟨rfl, hx⟩ := hY
        rw [List.length_map] at hi
        rw [List.getElem?_map, List.getElem?_eq_getElem hi] at hx
        obtain rfl := Option.some.inj hx
        exact ⟨rfl, _, rfl, _, rfl, .inl ⟨_, rfl, _, _, rfl, rfl, by show (0 : Int) < 2147483629; decide, hq _ _ Same.rfl' ⟨_, List.getElem?_eq_getElem hi, rfl⟩⟩⟩
      · have e1 := acc_ints (g := fun c => ab c % 2147483629) hal hav
        subst e1
        refine ⟨s2 _ _ upd_same, [(.inr "wide", .ref D), (.inr "cells", .ref C), (.inr "rest", .int 0), (.inr "turn", .int 0)], rfl, by show 4 ≤ 15; decide, ?_⟩
        have hdD : D ≠ d := ne_new hw hd
        have hCd : C ≠ d := fun z => by rw [z, upd_same] at hC; cases hC
        have hCD : C ≠ D := fun z => by rw [z, hw1] at hC; cases hC
        have nd : H d = none := none_back s hd
        refine q _ d D C (Same.of_upd (Same.tr (Same.tr s s1) s2) nd) ⟨ws, _, 0, 0, upd_same, (upd_ne hdD).trans (s2 _ _ hw1), (upd_ne hCd).trans hacc, fun c hc => ?_, by decide, by decide, hCD⟩
        obtain ⟨z, _, rfl⟩ := List.mem_map.mp hc
        exact ⟨Int.emod_nonneg _ (by decide), Int.emod_lt_of_pos _ (by decide)⟩
end
end K5
set_option Elab.async false
set_option linter.all false
set_option maxRecDepth 100000
set_option maxHeartbeats 4000000
namespace K5
open PySem PySem.Spec PyProof.Rows L2
/-! ### the rule behind (t, f): sizes -/
theorem pm.bt {i : Int} (h : pm i) : Bt 1 i := by rcases h with rfl | rfl <;> (unfold Bt; decide)
theorem bt_pm {n : Nat} {i f : Int} (h : Bt n i) (hf : pm f) : Bt n (i * f) := by
  unfold Bt at *
  rw [Int.natAbs_mul]
  rcases hf with rfl | rfl <;> simpa using h
theorem bt_pm' {n : Nat} {i f : Int} (h : Bt n i) (hf : pm f) : Bt n (f * i) := by
  rw [Int.mul_comm]
  exact bt_pm h hf
theorem mulc_bt {t f : Int} {b m : Nat} (ht : Bt b t) (hf : pm f) : ∀ {r : List Int} {k : Int}, (∀ c ∈ r, Bt m c) → Bt m k → ∀ x ∈ mulc t f r k, Bt (m + b + 1) x
  | [], k, _, hk, x, hx => by
    obtain rfl : x = k := by simpa [mulc] using hx
    exact hk.mono (by omega)
  | c :: r, k, h, hk, x, hx => by
    have hc := h c List.mem_cons_self
    rcases List.mem_cons.mp (show x ∈ (k + c * t) :: mulc t f r (c * f) from hx) with rfl | hx
    · exact Bt.add (n := m + b) (hk.mono (by omega)) (hc.mul ht)
    · exact mulc_bt ht hf (fun c hc => h c (List.mem_cons_of_mem _ hc)) (bt_pm hc hf) x hx
theorem add0_bt {m : Nat} {r : List Int} {n : Int} (h : ∀ c ∈ r, Bt m c) (hn : Bt m n) : ∀ x ∈ add0 r n, Bt (m + 1) x := by
  cases r with
  | nil =>
    intro x hx
    obtain rfl : x = n := by simpa [add0] using hx
    exact hn.mono (by omega)
  | cons c r =>
    intro x hx
    rcases List.mem_cons.mp (show x ∈ (c + n) :: r from hx) with rfl | hx
    · exact (h c List.mem_cons_self).add hn
    · exact (h x (List.mem_cons_of_mem _ hx)).mono (by omega)
theorem beh_bt {t f : Int} {b : Nat} (ht : Bt b t) (hf : pm f) : ∀ {r : List Int}, (∀ c ∈ r, Bt 2 c) → ∀ x ∈ beh t f r, Bt (2 + (r.length - 1) * (b + 2)) x
  | [], _, x, hx => by simp [beh] at hx
  | [c], h, x, hx => by
    obtain rfl : x = c := by simpa [beh, mulc, add0] using hx
    exact (h _ List.mem_cons_self).mono (Nat.le_add_right 2 _)
  | c :: d :: r, h, x, hx => by
    have ih := beh_bt ht hf (r := d :: r) fun z hz => h z (List.mem_cons_of_mem _ hz)
    have h1 := mulc_bt (k := 0) ht hf ih (by unfold Bt; exact Nat.two_pow_pos _)
    have h2 := add0_bt (n := c) h1 ((h c List.mem_cons_self).mono (by omega)) x hx
    refine h2.mono ?_
    show 2 + (r.length + 1 - 1) * (b + 2) + b + 1 + 1 ≤ 2 + (r.length + 1 + 1 - 1) * (b + 2)
    rw [Nat.add_sub_cancel, Nat.add_sub_cancel, Nat.succ_mul]
    omega
theorem okb_of {t f : Int} {b : Nat} (ht : Bt b t) (hf : pm f) (hb : b ≤ 300) : ∀ {r : List Int}, (∀ c ∈ r, Bt 2 c) → r.length ≤ 4 → OkB t f r
  | [], _, _ => trivial
  | c :: r, h, hl => by
    refine ⟨okb_of ht hf hb (fun z hz => h z (List.mem_cons_of_mem _ hz)) (by simp at hl; omega), fun x hx => ?_, Sm.of (h c List.mem_cons_self) (by decide) (by decide)⟩
    have z := beh_bt ht hf (fun z hz => h z (List.mem_cons_of_mem _ hz)) x hx
    have l3 : r.length ≤ 3 := by simp at hl; omega
    have : (r.length - 1) * (b + 2) ≤ 2 * (b + 2) := Nat.mul_le_mul_right _ (by omega)
    exact Sm.of z (by omega) (by omega)
theorem getD_bt {l : List Int} {i m : Nat} (h : ∀ x ∈ l, Bt m x) : Bt m (l.getD i 0) := by
  rw [List.getD_eq_getElem?_getD]
  cases e : l[i]? with
  | none => show Bt m 0; unfold Bt; exact Nat.two_pow_pos _
  | some x => exact h x (List.mem_of_getElem? e)
/-- i0 is the rule's value -/
theorem i0_val (t f : Int) (r : List Int) : i0 t f r = pval r t := by
  have h := pval_beh t f 0 r
  rw [Int.mul_zero, Int.add_zero] at h
  rw [← h]
  unfold i0
  cases beh t f r with
  | nil => rfl
  | cons c q => simp [pval]
theorem bend_zero {r : List Int} (h : Bend r) : pval r 0 = 0 := by
  obtain ⟨q, rfl, _⟩ := h
  simp [pval]
/-! ### the affine part of a word -/
def aff (e s f t : Int) (p : Pt) : Pt := (e * p.1 + s, f * p.2 + t)
theorem pm_sq {e : Int} (h : pm e) : e * e = 1 := by rcases h with rfl | rfl <;> rfl
theorem aff_link {e s f t d : Int} {r : List Int} (he : pm e) (hf : pm f) (hl : 2 ≤ r.length) (q : Pt) :
    aff f (-t) e (s + i0 t f r + d * t) (bq (more e t f r, e * (i1 t f r + d * f)) q) = bq (r, d) (aff e s f t q) := by
  unfold aff bq
  refine Prod.ext ?_ ?_
  · show f * (-q.2) + -t = -(f * q.2 + t)
    rw [Int.mul_neg]
    omega
  · show e * (q.1 + pval (more e t f r) q.2 + e * (i1 t f r + d * f) * q.2) + (s + i0 t f r + d * t) = (e * q.1 + s) + pval r (f * q.2 + t) + d * (f * q.2 + t)
    rw [pval_more e t f q.2 r hl, Int.mul_add e, Int.mul_add e, ← Int.mul_assoc e e, pm_sq he, Int.one_mul, Int.mul_assoc e (i1 t f r + d * f), ← Int.mul_assoc e e, pm_sq he, Int.one_mul, Int.add_mul, Int.mul_add d, Int.mul_assoc d f, Int.add_comm t (f * q.2)]
    omega
theorem aff_end {e s f t e2 f2 s2 t2 : Int} (q : Pt) : aff (e2 * e) (e2 * s + s2) (f2 * f) (f2 * t + t2) q = (e2 * (aff e s f t q).1 + s2, f2 * (aff e s f t q).2 + t2) := by
  unfold aff
  refine Prod.ext ?_ ?_
  · show e2 * e * q.1 + (e2 * s + s2) = e2 * (e * q.1 + s) + s2
    rw [Int.mul_add, Int.mul_assoc]
    omega
  · show f2 * f * q.2 + (f2 * t + t2) = f2 * (f * q.2 + t) + t2
    rw [Int.mul_add, Int.mul_assoc]
    omega
/-! ### what a word makes of the links of a drawn core -/
def nb (b : Nat) : Nat := if b = 0 then 0 else 3 * b + 11
def nbk : Nat → Nat → Nat
  | 0, b => b
  | k + 1, b => nbk k (nb b)
structure Good (cs : List (List Int × Int)) : Prop where
  b : ∀ q ∈ cs, Bend q.1
  l : ∀ q ∈ cs, q.1.length ≤ 4
  c : ∀ q ∈ cs, ∀ x ∈ q.1, Bt 600 x
  d : ∀ q ∈ cs, Bt 600 q.2
theorem Good.snoc {cs : List (List Int × Int)} (h : Good cs) {q : List Int × Int} (b : Bend q.1) (l : q.1.length ≤ 4) (c : ∀ x ∈ q.1, Bt 600 x) (d : Bt 600 q.2) : Good (cs ++ [q]) := by
  have sp : ∀ z ∈ cs ++ [q], z ∈ cs ∨ z = q := fun z hz => by simpa using hz
  refine ⟨fun z hz => ?_, fun z hz => ?_, fun z hz => ?_, fun z hz => ?_⟩
  · rcases sp z hz with h1 | rfl
    · exact h.b z h1
    · exact b
  · rcases sp z hz with h1 | rfl
    · exact h.l z h1
    · exact l
  · rcases sp z hz with h1 | rfl
    · exact h.c z h1
    · exact c
  · rcases sp z hz with h1 | rfl
    · exact h.d z h1
    · exact d
theorem nb_t {e s f t d : Int} {r : List Int} {b : Nat} (hr : Bend r) (hc : ∀ c ∈ r, Bt 2 c) (hl : r.length ≤ 4) (hf : pm f) (hs : Bt b s) (ht : Bt b t) (hd : d = 0 ∨ d = 1 ∨ d = -1) : Bt (nb b) (-t) ∧ Bt (nb b) (s + i0 t f r + d * t) := by
  unfold nb
  by_cases h0 : b = 0
  · subst h0
    have t0 : t = 0 := by unfold Bt at ht; omega
    have s0 : s = 0 := by unfold Bt at hs; omega
    subst t0 s0
    rw [if_pos rfl, i0_val, bend_zero hr, Int.mul_zero]
    exact ⟨by unfold Bt; decide, by unfold Bt; decide⟩
  · rw [if_neg h0]
    have l1 := bend_len hr
    have hi : Bt (3 * b + 8) (i0 t f r) := by
      refine getD_bt fun x hx => ?_
      have z := beh_bt ht hf hc x hx
      refine z.mono ?_
      have : (r.length - 1) * (b + 2) ≤ 3 * (b + 2) := Nat.mul_le_mul_right _ (by omega)
      omega
    have hdt : Bt (b + 1) (d * t) := by
      rcases hd with rfl | rfl | rfl
      · rw [Int.zero_mul]; unfold Bt; exact Nat.two_pow_pos _
      · rw [Int.one_mul]; exact ht.mono (by omega)
      · rw [Int.neg_mul, Int.one_mul]; exact ht.neg.mono (by omega)
    exact ⟨ht.neg.mono (by omega), Bt.mono (n := 3 * b + 10) (Bt.add (n := 3 * b + 9) (Bt.add (n := 3 * b + 8) (hs.mono (by omega)) hi) (hdt.mono (by omega))) (by omega)⟩
theorem ws_links : ∀ (cs : List (List Int × Int)), (∀ q ∈ cs, Curl q.1) → (∀ q ∈ cs, q.2 = 0 ∨ q.2 = 1 ∨ q.2 = -1) → ∀ (acc : List (List Int × Int)) (e s f t : Int) (b : Nat), pm e → pm f → Bt b s → Bt b t → Good acc → (∀ j, j < cs.length → nbk j b ≤ 190) →
    ∃ acc' e' s' f' t', WRun ⟨parS acc, e, 0, s, f, t⟩ (parS cs) ⟨parS acc', e', 0, s', f', t'⟩ ∧ pm e' ∧ pm f' ∧ Bt (nbk cs.length b) s' ∧ Bt (nbk cs.length b) t' ∧ Good acc' ∧ acc'.length = acc.length + cs.length ∧ ∀ p, aff e' s' f' t' (bqs acc' p) = bqs cs (aff e s f t (bqs acc p))
  | [], _, _, acc, e, s, f, t, b, he, hf, hs, ht, hg, _ => ⟨acc, e, s, f, t, .nil _, he, hf, hs, ht, hg, rfl, fun p => rfl⟩
  | q :: cs, hc, hd, acc, e, s, f, t, b, he, hf, hs, ht, hg, hb => by
    have cq := hc q List.mem_cons_self
    have dq := hd q List.mem_cons_self
    have b190 : b ≤ 190 := hb 0 (by simp)
    have c2 : ∀ x ∈ q.1, Bt 2 x := fun x hx => by have := cq.ent x hx; unfold Bt; omega
    have bd := cq.bend
    have hl := cq.len
    have l3 := bend_len bd
    obtain ⟨n1, n2⟩ := nb_t (e := e) bd c2 hl hf hs ht dq
    have bent : ∀ x ∈ beh t f q.1, Bt (3 * b + 8) x := fun x hx => by
      refine (beh_bt ht hf c2 x hx).mono ?_
      have : (q.1.length - 1) * (b + 2) ≤ 3 * (b + 2) := Nat.mul_le_mul_right _ (by omega)
      omega
    have hi1 : Bt (3 * b + 8) (i1 t f q.1) := getD_bt bent
    have hi0 : Bt (3 * b + 8) (i0 t f q.1) := getD_bt bent
    have d1 : Bt 1 q.2 := by rcases dq with h | h | h <;> rw [h] <;> (unfold Bt; decide)
    have hdf : Bt (3 * b + 8) (q.2 * f) := (bt_pm d1 hf).mono (by omega)
    have hD : Bt (3 * b + 9) (i1 t f q.1 + q.2 * f) := hi1.add hdf
    have hm : ∀ x ∈ more e t f q.1, Bt (3 * b + 8) x := fun x hx => by
      obtain ⟨z, hz, rfl⟩ := List.mem_map.mp hx
      refine bt_pm' ?_ he
      rcases List.mem_cons.mp hz with rfl | hz
      · unfold Bt; exact Nat.two_pow_pos _
      rcases List.mem_cons.mp hz with rfl | hz
      · unfold Bt; exact Nat.two_pow_pos _
      · exact bent z (List.mem_of_mem_drop hz)
    have ml : (more e t f q.1).length ≤ 4 := by
      unfold more
      rw [List.length_map, List.length_cons, List.length_cons, List.length_drop, beh_len]
      omega
    have hg' : Good (acc ++ [(more e t f q.1, e * (i1 t f q.1 + q.2 * f))]) := hg.snoc (more_bend he.ne hf.ne bd) ml (fun x hx => (hm x hx).mono (by omega)) ((bt_pm' hD he).mono (by omega))
    obtain ⟨acc', e', s', f', t', r1, r2, r3, r4, r5, r6, r7, r8⟩ := ws_links cs (fun z hz => hc z (List.mem_cons_of_mem _ hz)) (fun z hz => hd z (List.mem_cons_of_mem _ hz)) (acc ++ [(more e t f q.1, e * (i1 t f q.1 + q.2 * f))]) f (-t) e (s + i0 t f q.1 + q.2 * t) (nb b) hf he n1 n2 hg' (fun j hj => hb (j + 1) (by simpa using hj))
    have sm : ∀ {n : Nat} {i : Int}, Bt n i → n ≤ 1000 → Sm i := fun {n i} h hn => Sm.of (n := n + 1) (h.mono (by omega)) (by omega) (by omega)
    have hps : parS acc = [] ∨ ∃ l a b c d, parS acc = l ++ [.t a b c d] := by
      rcases List.eq_nil_or_concat acc with rfl | ⟨l, z, rfl⟩
      · exact .inl rfl
      · refine .inr ⟨parS l ++ [.x z.1], 0, -1, 1, z.2, ?_⟩
        rw [List.concat_eq_append, parS_snoc]
        simp
    have w1 : WS ⟨parS acc, e, 0, s, f, t⟩ (.x q.1) ⟨parS acc ++ [.x (more e t f q.1)], e, 0 + i1 t f q.1, s + i0 t f q.1, f, t⟩ :=
      WS.x (w := ⟨parS acc, e, 0, s, f, t⟩) bd (by omega) (okb_of ht hf (by omega) c2 hl) (fun x hx => sm (bent x hx) (by omega)) (sm ht (by omega)) he hf hps
    have w2 : WS ⟨parS acc ++ [.x (more e t f q.1)], e, 0 + i1 t f q.1, s + i0 t f q.1, f, t⟩ (.t 0 (-1) 1 q.2) ⟨(parS acc ++ [.x (more e t f q.1)]) ++ [.t 0 (-1) 1 (e * (0 + i1 t f q.1 + q.2 * f))], f, 0, -t, e, s + i0 t f q.1 + q.2 * t⟩ :=
      WS.q (w := ⟨parS acc ++ [.x (more e t f q.1)], e, 0 + i1 t f q.1, s + i0 t f q.1, f, t⟩) he hf (by show Sm (0 + i1 t f q.1); rw [Int.zero_add]; exact sm hi1 (by omega)) (sm (Bt.add (n := 3 * b + 8) (hs.mono (by omega)) hi0) (by omega)) (sm ht (by omega)) (sm d1 (by omega)) (by show Sm (0 + i1 t f q.1 + q.2 * f); rw [Int.zero_add]; exact sm hD (by omega)) ⟨_, _, rfl⟩
    refine ⟨acc', e', s', f', t', .cons w1 (.cons w2 ?_), r2, r3, r4, r5, r6, by rw [r7, List.length_append, List.length_cons]; show acc.length + 1 + cs.length = acc.length + (cs.length + 1); omega, fun p => ?_⟩
    · rw [parS_snoc] at r1
      rw [Int.zero_add, List.append_assoc]
      exact r1
    · rw [r8 p]
      show bqs cs (aff f (-t) e _ (bqs (acc ++ [_]) p)) = bqs cs (bq q (aff e s f t (bqs acc p)))
      have e1 : bqs (acc ++ [(more e t f q.1, e * (i1 t f q.1 + q.2 * f))]) p = bq (more e t f q.1, e * (i1 t f q.1 + q.2 * f)) (bqs acc p) := by
        unfold bqs
        rw [List.foldl_append]
        rfl
      rw [e1, aff_link he hf (by omega)]
end K5
set_option Elab.async false
set_option linter.all false
set_option maxRecDepth 100000
set_option maxHeartbeats 4000000
namespace K5
open PySem PySem.Spec PyProof.Rows L2
theorem bt_small2 {i : Int} {n : Nat} (h : -2 ≤ i ∧ i ≤ 2) (hn : 2 ≤ n) : Bt n i := Bt.mono (n := 2) (by unfold Bt; omega) hn
theorem ws_pass {c : CF} (h : Small c) {acc : List (List Int × Int)} {e s f t : Int} {b : Nat} (he : pm e) (hf : pm f) (hs : Bt b s) (ht : Bt b t) (hg : Good acc) (hb : ∀ j, j < c.cs.length → nbk j b ≤ 190) (hB : nbk c.cs.length b ≤ 600) :
    ∃ acc' e' s' f' t', WRun ⟨parS acc, e, 0, s, f, t⟩ c.steps ⟨parS acc', e', 0, s', f', t'⟩ ∧ pm e' ∧ pm f' ∧ Bt (nbk c.cs.length b + 1) s' ∧ Bt (nbk c.cs.length b + 1) t' ∧ Good acc' ∧ acc'.length = acc.length + c.cs.length ∧ ∀ p, aff e' s' f' t' (bqs acc' p) = c.pass (aff e s f t (bqs acc p)) := by
  obtain ⟨acc', e1, s1, f1, t1, r1, r2, r3, r4, r5, r6, r7, r8⟩ := ws_links c.cs h.r h.d acc e s f t b he hf hs ht hg hb
  have mulpm : ∀ {a b : Int}, pm a → pm b → pm (a * b) := fun {a b} x y => by
    rcases x with rfl | rfl <;> rcases y with rfl | rfl
    · exact .inl rfl
    · exact .inr rfl
    · exact .inr rfl
    · exact .inl rfl
  have sm : ∀ {n : Nat} {i : Int}, Bt n i → n ≤ 1000 → Sm i := fun {n i} h hn => Sm.of (n := n + 1) (h.mono (by omega)) (by omega) (by omega)
  have w1 : WS ⟨parS acc', e1, 0, s1, f1, t1⟩ (.t c.e 0 0 c.f) ⟨parS acc', c.e * e1, c.e * 0, c.e * s1, c.f * f1, c.f * t1⟩ := WS.e (w := ⟨parS acc', e1, 0, s1, f1, t1⟩) h.e h.f r2 r3 (by show Sm 0; unfold Sm; decide) (sm r4 (by omega)) (sm r5 (by omega))
  have w2 : WS ⟨parS acc', c.e * e1, c.e * 0, c.e * s1, c.f * f1, c.f * t1⟩ (.m c.s c.t) ⟨parS acc', c.e * e1, c.e * 0, c.e * s1 + c.s, c.f * f1, c.f * t1 + c.t⟩ := WS.m (w := ⟨parS acc', c.e * e1, c.e * 0, c.e * s1, c.f * f1, c.f * t1⟩)
  rw [Int.mul_zero] at w1 w2
  have bs : Bt (nbk c.cs.length b + 1) (c.e * s1 + c.s) ∧ Bt (nbk c.cs.length b + 1) (c.f * t1 + c.t) := by
    have one : ∀ {x y : Int} {n : Nat}, Bt n x → (-1 ≤ y ∧ y ≤ 1) → Bt (n + 1) (x + y) := fun {x y n} hx hy => by
      unfold Bt at *
      rw [Nat.pow_succ]
      have : 0 < 2 ^ n := Nat.two_pow_pos n
      omega
    have := h.st
    exact ⟨one (bt_pm' r4 h.e) (by omega), one (bt_pm' r5 h.f) (by omega)⟩
  refine ⟨acc', c.e * e1, c.e * s1 + c.s, c.f * f1, c.f * t1 + c.t, ?_, mulpm h.e r2, mulpm h.f r3, bs.1, bs.2, r6, r7, fun p => ?_⟩
  · show WRun _ (parS c.cs ++ [.t c.e 0 0 c.f, .m c.s c.t]) _
    exact r1.app (.cons w1 (.cons w2 (.nil _)))
  · rw [aff_end, r8 p, CF.pass_eq h.ne]
def okb (n : Nat) : Nat → Nat → Bool
  | 0, _ => true
  | m + 1, b => (List.range n).all (fun j => decide (nbk j b ≤ 190)) && (decide (nbk n b ≤ 600) && okb n m (nbk n b + 1))
def pbk (n : Nat) : Nat → Nat → Nat
  | 0, b => b
  | m + 1, b => pbk n m (nbk n b + 1)
theorem ws_passes {c : CF} (h : Small c) : ∀ (m : Nat) {acc : List (List Int × Int)} {e s f t : Int} {b : Nat}, pm e → pm f → Bt b s → Bt b t → Good acc → okb c.cs.length m b = true →
    ∃ acc' e' s' f' t', WRun ⟨parS acc, e, 0, s, f, t⟩ (List.replicate m c.steps).flatten ⟨parS acc', e', 0, s', f', t'⟩ ∧ pm e' ∧ pm f' ∧ Bt (pbk c.cs.length m b) s' ∧ Bt (pbk c.cs.length m b) t' ∧ Good acc' ∧ acc'.length = acc.length + m * c.cs.length ∧ ∀ p, aff e' s' f' t' (bqs acc' p) = orb c.pass m (aff e s f t (bqs acc p))
  | 0, acc, e, s, f, t, b, he, hf, hs, ht, hg, _ => ⟨acc, e, s, f, t, .nil _, he, hf, hs, ht, hg, by simp, fun p => rfl⟩
  | m + 1, acc, e, s, f, t, b, he, hf, hs, ht, hg, hb => by
    obtain ⟨h1, h2⟩ := Bool.and_eq_true_iff.mp hb
    obtain ⟨h2, h3⟩ := Bool.and_eq_true_iff.mp h2
    obtain ⟨acc1, e1, s1, f1, t1, r1, r2, r3, r4, r5, r6, r7, r8⟩ := ws_pass h he hf hs ht hg (fun j hj => of_decide_eq_true (List.all_eq_true.mp h1 j (List.mem_range.mpr hj))) (of_decide_eq_true h2)
    obtain ⟨acc', e', s', f', t', q1, q2, q3, q4, q5, q6, q7, q8⟩ := ws_passes h m r2 r3 r4 r5 r6 h3
    refine ⟨acc', e', s', f', t', ?_, q2, q3, q4, q5, q6, by rw [q7, r7, Nat.succ_mul]; omega, fun p => ?_⟩
    · rw [List.replicate_succ, List.flatten_cons]
      exact r1.app q1
    · rw [q8 p, r8 p, orb_succ]
/-! ### what can be computed -/
def StepB : Stp → Prop
  | .x r => r.length ≤ 4 ∧ ∀ x ∈ r, Bt 600 x
  | .t a b c d => Bt 600 a ∧ Bt 600 b ∧ Bt 600 c ∧ Bt 600 d
  | .m s t => Bt 600 s ∧ Bt 600 t
def bstep : Stp → Nat → Nat
  | .x _, b => 3 * b + 604
  | _, b => b + 602
def bfold (ss : List Stp) (b : Nat) : Nat := ss.foldl (fun b s => bstep s b) b
theorem bstep_ge (s : Stp) (b : Nat) : b + 602 ≤ bstep s b := by
  cases s <;> simp only [bstep] <;> omega
theorem bfold_ge : ∀ (ss : List Stp) (b : Nat), b ≤ bfold ss b
  | [], b => Nat.le_refl _
  | s :: ss, b => by
    have := bfold_ge ss (bstep s b)
    have := bstep_ge s b
    show b ≤ bfold ss (bstep s b)
    omega
theorem pval_bt {y : Int} {b : Nat} (hy : Bt b y) : ∀ {r : List Int}, (∀ x ∈ r, Bt 600 x) → Bt (600 + (r.length - 1) * (b + 1)) (pval r y)
  | [], _ => by show Bt _ 0; unfold Bt; exact Nat.two_pow_pos _
  | [c], h => by
    have e : pval [c] y = c := by simp [pval]
    rw [e]
    exact (h c List.mem_cons_self).mono (Nat.le_add_right _ _)
  | c :: d :: r, h => by
    have ih := pval_bt hy (r := d :: r) fun x hx => h x (List.mem_cons_of_mem _ hx)
    have hc := h c List.mem_cons_self
    show Bt _ (c + y * pval (d :: r) y)
    have e : (c :: d :: r).length - 1 = ((d :: r).length - 1) + 1 := by simp
    rw [e, Nat.succ_mul]
    refine Bt.mono (Bt.add (n := b + (600 + ((d :: r).length - 1) * (b + 1))) (hc.mono (by omega)) (hy.mul ih)) (by omega)
theorem okv_of {y : Int} {b : Nat} (hb : 3 * b + 604 ≤ 900000) (h1 : 1 ≤ b) (hy : Bt b y) : ∀ {r : List Int}, (∀ x ∈ r, Bt 600 x) → r.length ≤ 4 → OkV r y
  | [], _, _ => trivial
  | c :: r, h, hl => by
    have hl3 : r.length ≤ 3 := by simp at hl; omega
    refine ⟨okv_of hb h1 hy (fun x hx => h x (List.mem_cons_of_mem _ hx)) (by omega), ?_⟩
    have z := pval_bt hy (r := r) fun x hx => h x (List.mem_cons_of_mem _ hx)
    have : (r.length - 1) * (b + 1) ≤ 2 * (b + 1) := Nat.mul_le_mul_right _ (by omega)
    exact z.cm hy (by omega) (by omega) (by omega)
theorem okstep {s : Stp} {p : Pt} {b : Nat} (h : StepB s) (h1 : 1 ≤ b) (hb : bstep s b ≤ 900000) (x : Bt b p.1) (y : Bt b p.2) : OkF s p ∧ Bt (bstep s b) (stepF s p).1 ∧ Bt (bstep s b) (stepF s p).2 := by
  cases s with
  | x r =>
    obtain ⟨hl, hr⟩ := h
    have hb' : 3 * b + 604 ≤ 900000 := hb
    have z := pval_bt y hr
    have : (r.length - 1) * (b + 1) ≤ 3 * (b + 1) := Nat.mul_le_mul_right _ (by omega)
    refine ⟨okv_of hb' h1 y hr hl, ?_, y.mono (by show b ≤ 3 * b + 604; omega)⟩
    show Bt (3 * b + 604) (p.1 + pval r p.2)
    exact Bt.add (n := 3 * b + 603) (x.mono (by omega)) (z.mono (by omega))
  | t a b' c d =>
    obtain ⟨ha, hb2, hc, hd⟩ := h
    have hb' : b + 602 ≤ 900000 := hb
    refine ⟨⟨ha.cm x (by decide) h1 (by omega), hb2.cm y (by decide) h1 (by omega), hc.cm x (by decide) h1 (by omega), hd.cm y (by decide) h1 (by omega)⟩, ?_, ?_⟩
    · show Bt (b + 602) (a * p.1 + b' * p.2)
      exact Bt.mono (Bt.add (ha.mul x) (hb2.mul y)) (by omega)
    · show Bt (b + 602) (c * p.1 + d * p.2)
      exact Bt.mono (Bt.add (hc.mul x) (hd.mul y)) (by omega)
  | m s t =>
    obtain ⟨hs, ht⟩ := h
    refine ⟨trivial, ?_, ?_⟩
    · show Bt (b + 602) (p.1 + s)
      exact Bt.mono (Bt.add (n := b + 600) (x.mono (by omega)) (hs.mono (by omega))) (by omega)
    · show Bt (b + 602) (p.2 + t)
      exact Bt.mono (Bt.add (n := b + 600) (y.mono (by omega)) (ht.mono (by omega))) (by omega)
theorem okrun_of : ∀ {ss : List Stp} {p : Pt} {b : Nat}, (∀ s ∈ ss, StepB s) → 1 ≤ b → bfold ss b ≤ 900000 → Bt b p.1 → Bt b p.2 → OkRun ss p ∧ Bt (bfold ss b) (runs ss p).1 ∧ Bt (bfold ss b) (runs ss p).2
  | [], p, b, _, _, _, x, y => ⟨trivial, x, y⟩
  | s :: ss, p, b, h, h1, hb, x, y => by
    have ge := bfold_ge ss (bstep s b)
    have ge2 := bstep_ge s b
    have hb' : bfold ss (bstep s b) ≤ 900000 := hb
    obtain ⟨a1, a2, a3⟩ := okstep (h s List.mem_cons_self) h1 (by omega) x y
    obtain ⟨b1, b2⟩ := okrun_of (ss := ss) (fun z hz => h z (List.mem_cons_of_mem _ hz)) (by omega) hb' a2 a3
    exact ⟨⟨a1, b1⟩, b2⟩
def it3 : Nat → Nat → Nat
  | 0, b => b
  | k + 1, b => it3 k (3 * b + 1206)
theorem bfold_par : ∀ (cs : List (List Int × Int)) (b : Nat), bfold (parS cs) b = it3 cs.length b
  | [], b => rfl
  | q :: cs, b => by
    show bfold (parS cs) (bstep (.t 0 (-1) 1 q.2) (bstep (.x q.1) b)) = it3 cs.length (3 * b + 1206)
    rw [bfold_par cs]
    rfl
theorem bfold_app (a c : List Stp) (b : Nat) : bfold (a ++ c) b = bfold c (bfold a b) := List.foldl_append ..
theorem good_okc {c : CF} (g : Good c.cs) (hne : c.cs ≠ []) (hl : c.cs.length ≤ 6) (he : pm c.e) (hf : pm c.f) (hs : Bt 600 c.s) (ht : Bt 600 c.t) : OkC c (2 ^ 610) := fun q h1 h2 => by
  have bq : ∀ {i : Int}, ab i ≤ 2 ^ 610 → Bt 611 i := fun {i} h => by
    unfold Bt
    rw [ab_nat] at h
    have e1 : ((2 ^ 610 : Nat) : Int) = 2 ^ 610 := by simp
    have e2 : (2 : Nat) ^ 611 = 2 ^ 610 * 2 := Nat.pow_succ ..
    have e3 : 0 < (2 : Nat) ^ 610 := Nat.two_pow_pos _
    generalize (2 : Nat) ^ 611 = M1 at *
    generalize (2 : Nat) ^ 610 = M0 at *
    generalize (2 : Int) ^ 610 = M2 at *
    omega
  have st : ∀ s ∈ c.steps, StepB s := fun s hs' => by
    rcases List.mem_append.mp (show s ∈ parS c.cs ++ _ from hs') with h | h
    · obtain ⟨z, hz, h⟩ := List.mem_flatMap.mp (show s ∈ c.cs.flatMap _ from h)
      have h' : s = .x z.1 ∨ s = .t 0 (-1) 1 z.2 := by simpa using h
      rcases h' with rfl | rfl
      · exact ⟨g.l z hz, g.c z hz⟩
      · exact ⟨bt_small2 (by omega) (by decide), bt_small2 (by omega) (by decide), bt_small2 (by omega) (by decide), g.d z hz⟩
    · have h' : s = .t c.e 0 0 c.f ∨ s = .m c.s c.t := by simpa using h
      rcases h' with rfl | rfl
      · exact ⟨he.bt.mono (by decide), bt_small2 (by omega) (by decide), bt_small2 (by omega) (by decide), hf.bt.mono (by decide)⟩
      · exact ⟨hs, ht⟩
  have bd : bfold c.steps 611 ≤ 890000 := by
    show bfold (parS c.cs ++ [.t c.e 0 0 c.f, .m c.s c.t]) 611 ≤ _
    rw [bfold_app, bfold_par]
    show it3 c.cs.length 611 + 602 + 602 ≤ _
    have : ∀ k, k ≤ 6 → it3 k 611 + 602 + 602 ≤ 890000 := by decide
    exact this _ hl
  obtain ⟨a, _, b⟩ := okrun_of st (by decide) (by omega) (bq h1) (bq h2)
  rw [runs_pass hne] at b
  exact ⟨a, Nat.lt_trans ((b.mono bd).log (by decide)) (by decide)⟩
/-! ### the core of several passes -/
theorem good_fit {c : CF} (g : Good c.cs) (hne : c.cs ≠ []) (hl : c.cs.length ≤ 6) (he : pm c.e) (hf : pm c.f) (hs : Bt 600 c.s) (ht : Bt 600 c.t) : c.fit :=
  ⟨⟨hne, g.b, he, hf⟩, by omega, fun q hq => Nat.le_trans (g.l q hq) (by decide), fun q hq => (g.d q hq).mono (by decide), fun q hq x hx => (g.c q hq x hx).mono (by decide), hs.mono (by decide), ht.mono (by decide)⟩
structure Sev (c k : CF) (m : Nat) : Prop where
  run : WRun ⟨[], 1, 0, 0, 1, 0⟩ (List.replicate m c.steps).flatten ⟨k.parts, k.e, 0, k.s, k.f, k.t⟩
  fit : k.fit
  okc : OkC k (2 ^ 610)
  pass : ∀ p, k.pass p = orb c.pass m p
  hg : ∀ h, HG k h → h ≤ 2 ^ 610
theorem several {c : CF} (h : Small c) {m : Nat} (hm : m = 2 ∨ m = 3) : ∃ k, Sev c k m := by
  have hl := h.len
  have hne := List.length_pos_iff.mpr h.ne
  have okB : okb c.cs.length m 0 = true ∧ pbk c.cs.length m 0 ≤ 600 := by
    have e : c.cs.length = 1 ∨ c.cs.length = 2 := by omega
    rcases e with e | e <;> rcases hm with rfl | rfl <;> rw [e] <;> decide
  obtain ⟨acc, e, s, f, t, r1, r2, r3, r4, r5, r6, r7, r8⟩ := ws_passes h m (acc := []) (e := 1) (s := 0) (f := 1) (t := 0) (b := 0) (.inl rfl) (.inl rfl) (by unfold Bt; decide) (by unfold Bt; decide) ⟨fun q hq => by simp at hq, fun q hq => by simp at hq, fun q hq => by simp at hq, fun q hq => by simp at hq⟩ okB.1
  have al : acc.length = m * c.cs.length := by rw [r7]; simp
  have al6 : acc.length ≤ 6 ∧ 1 ≤ acc.length := by
    have e : c.cs.length = 1 ∨ c.cs.length = 2 := by omega
    rw [al]
    rcases e with e | e <;> rcases hm with rfl | rfl <;> rw [e] <;> decide
  have ane : acc ≠ [] := fun z => by rw [z] at al6; simp at al6
  have bs := r4.mono okB.2
  have bt := r5.mono okB.2
  refine ⟨⟨acc, e, f, s, t⟩, r1, good_fit r6 ane al6.1 r2 r3 bs bt, good_okc r6 ane al6.1 r2 r3 bs bt, fun p => ?_, fun hg hh => ?_⟩
  · rw [CF.pass_eq (c := ⟨acc, e, f, s, t⟩) ane]
    have := r8 p
    unfold aff at this
    rw [this]
    show orb c.pass m (1 * p.1 + 0, 1 * p.2 + 0) = _
    rw [Int.one_mul, Int.one_mul, Int.add_zero, Int.add_zero]
  · obtain ⟨l, hl, rfl⟩ := List.mem_map.mp hh.1
    have lk : ∀ (e f s t : Int) (cs : List (List Int × Int)), Good cs → Bt 600 s → Bt 600 t → ∀ l ∈ links e f s t cs, l.r.length ≤ 4 ∧ (∀ x ∈ l.r, Bt 600 x) ∧ Bt 600 l.d ∧ Bt 600 l.s ∧ Bt 600 l.t := by
      intro e f s t cs
      induction cs with
      | nil => intro _ _ _ l hl; simp [links] at hl
      | cons q cs ih =>
        intro g hs ht l hl
        have g' : Good cs := ⟨fun z hz => g.b z (List.mem_cons_of_mem _ hz), fun z hz => g.l z (List.mem_cons_of_mem _ hz), fun z hz => g.c z (List.mem_cons_of_mem _ hz), fun z hz => g.d z (List.mem_cons_of_mem _ hz)⟩
        cases cs with
        | nil =>
          obtain rfl : l = ⟨q.1, q.2, e, f, s, t⟩ := by simpa [links] using hl
          exact ⟨g.l q List.mem_cons_self, g.c q List.mem_cons_self, g.d q List.mem_cons_self, hs, ht⟩
        | cons q2 cs =>
          rcases List.mem_cons.mp hl with rfl | hl
          · exact ⟨g.l q List.mem_cons_self, g.c q List.mem_cons_self, g.d q List.mem_cons_self, bt_small2 (by show -2 ≤ (0 : Int) ∧ (0 : Int) ≤ 2; omega) (by decide), bt_small2 (by show -2 ≤ (0 : Int) ∧ (0 : Int) ≤ 2; omega) (by decide)⟩
          · exact ih g' hs ht l hl
    obtain ⟨k1, k2, k3, k4, k5⟩ := lk e f s t acc r6 bs bt l hl
    have lowb : ∀ {r : List Int}, (∀ x ∈ r, Bt 600 x) → (lowS r).natAbs ≤ r.length * 2 ^ 600 := by
      intro r
      induction r with
      | nil => intro _; simp [lowS]
      | cons c r ih =>
        intro h
        cases r with
        | nil => simp [lowS]
        | cons d r =>
          have i2 := ih fun x hx => h x (List.mem_cons_of_mem _ hx)
          have hc : c.natAbs < 2 ^ 600 := h c List.mem_cons_self
          have e1 : lowS (c :: d :: r) = ab c + lowS (d :: r) := rfl
          have e2 : (ab c).natAbs = c.natAbs := by rw [ab_nat]; rfl
          have e3 : (c :: d :: r).length * 2 ^ 600 = (d :: r).length * 2 ^ 600 + 2 ^ 600 := by rw [List.length_cons, Nat.succ_mul]
          rw [e1]
          have := Int.natAbs_add_le (ab c) (lowS (d :: r))
          generalize 2 ^ 600 = M at *
          omega
    have lb := lowb k2
    have lb4 : l.r.length * 2 ^ 600 ≤ 4 * 2 ^ 600 := Nat.mul_le_mul_right _ k1
    unfold hgt
    unfold Bt at k3 k4 k5
    have e1 := ab_nat l.d
    have e2 := ab_nat l.s
    have e3 := ab_nat l.t
    have e4 : (2 : Int) ^ 610 = 1024 * ((2 ^ 600 : Nat) : Int) := by decide +kernel
    have e5 : 1 ≤ 2 ^ 600 := Nat.one_le_two_pow
    rw [e4]
    generalize 2 ^ 600 = M at *
    omega
end K5
set_option Elab.async false
set_option linter.all false
set_option maxRecDepth 100000
set_option maxHeartbeats 4000000
namespace K5
open PySem PySem.Spec PyProof.Rows L2
theorem exists_max : ∀ {l : List Int}, l ≠ [] → ∃ m, MaxOf m l
  | [], h => absurd rfl h
  | [a], _ => ⟨a, List.mem_cons_self, fun y hy => by obtain rfl := List.mem_singleton.mp hy; exact Int.le_refl _⟩
  | a :: b :: l, _ => by
    obtain ⟨m, h1, h2⟩ := exists_max (l := b :: l) (by simp)
    by_cases h : a ≤ m
    · exact ⟨m, List.mem_cons_of_mem _ h1, fun y hy => by
        rcases List.mem_cons.mp hy with rfl | hy
        · exact h
        · exact h2 y hy⟩
    · exact ⟨a, List.mem_cons_self, fun y hy => by
        rcases List.mem_cons.mp hy with rfl | hy
        · exact Int.le_refl _
        · have := h2 y hy; omega⟩
theorem Small.good {c : CF} (h : Small c) : Good c.cs :=
  ⟨fun q hq => (h.r q hq).bend, fun q hq => (h.r q hq).len, fun q hq x hx => bt_small2 ((h.r q hq).ent x hx) (by decide), fun q hq => bt_small2 (by have := h.d q hq; omega) (by decide)⟩
theorem Small.okc {c : CF} (h : Small c) : OkC c (2 ^ 610) := good_okc h.good h.ne (by have := h.len; omega) h.e h.f (bt_small2 (by have := h.st; omega) (by decide)) (bt_small2 (by have := h.st; omega) (by decide))
theorem Curl.low {r : List Int} (h : Curl r) : lowS r ≤ 2 := by
  obtain ⟨ns, z, rfl, hn, hb, _⟩ := h
  match ns, hn, hb with
  | [], _, _ => simp [lowS, ab_zero]
  | [n], _, hb =>
    have := hb n (by simp)
    have e : lowS (0 :: 0 :: ([n] ++ [z])) = ab 0 + (ab 0 + (ab n + 0)) := rfl
    rw [e, ab_zero]
    rcases ab_cases n with k | k <;> omega
  | _ :: _ :: _, hn, _ => simp at hn
theorem links_small {e f s t : Int} (hs : -1 ≤ s ∧ s ≤ 1) (ht : -1 ≤ t ∧ t ≤ 1) : ∀ {cs : List (List Int × Int)}, (∀ q ∈ cs, Curl q.1) → (∀ q ∈ cs, q.2 = 0 ∨ q.2 = 1 ∨ q.2 = -1) → ∀ l ∈ links e f s t cs, lowS l.r ≤ 2 ∧ ab l.d ≤ 1 ∧ ab l.s ≤ 1 ∧ ab l.t ≤ 1
  | [], _, _, l, hl => by simp [links] at hl
  | [q], h, hd, l, hl => by
    obtain rfl : l = ⟨q.1, q.2, e, f, s, t⟩ := by simpa [links] using hl
    have := hd q List.mem_cons_self
    exact ⟨(h q List.mem_cons_self).low, by rcases ab_cases q.2 with k | k <;> (show ab q.2 ≤ 1; omega), by rcases ab_cases s with k | k <;> (show ab s ≤ 1; omega), by rcases ab_cases t with k | k <;> (show ab t ≤ 1; omega)⟩
  | q :: q2 :: cs, h, hd, l, hl => by
    rcases List.mem_cons.mp hl with rfl | hl
    · have := hd q List.mem_cons_self
      exact ⟨(h q List.mem_cons_self).low, by rcases ab_cases q.2 with k | k <;> (show ab q.2 ≤ 1; omega), by show ab 0 ≤ 1; decide, by show ab 0 ≤ 1; decide⟩
    · exact links_small hs ht (cs := q2 :: cs) (fun z hz => h z (List.mem_cons_of_mem _ hz)) (fun z hz => hd z (List.mem_cons_of_mem _ hz)) l hl
theorem mul01 {a b : Int} (ha : 0 ≤ a ∧ a ≤ 1) (hb : 0 ≤ b ∧ b ≤ 1) : 0 ≤ a * b ∧ a * b ≤ 1 := by
  have h1 : a = 0 ∨ a = 1 := by omega
  have h2 : b = 0 ∨ b = 1 := by omega
  rcases h1 with rfl | rfl <;> rcases h2 with rfl | rfl <;> decide
theorem lr_small {l : Lk} (h : lowS l.r ≤ 2 ∧ ab l.d ≤ 1 ∧ ab l.s ≤ 1 ∧ ab l.t ≤ 1) : lr l ≤ 40 ∧ hgt l + 7 ≤ lr l := by
  obtain ⟨h1, h2, h3, h4⟩ := h
  have n1 := lowS_nn l.r
  have n2 := ab_nn l.d
  have n3 := ab_nn l.s
  have n4 := ab_nn l.t
  have m := mul01 ⟨n2, h2⟩ ⟨n3, h3⟩
  have e : (2 * (1 + ab l.d) + 3) * ab l.s = 5 * ab l.s + 2 * (ab l.d * ab l.s) := by
    rw [Int.mul_add, Int.add_mul, Int.add_mul, Int.mul_assoc 2 (ab l.d)]
    omega
  unfold lr hgt
  rw [e]
  omega
/-- the height and the reach of a drawn core -/
structure Made (c : CF) (hg rc : Int) : Prop where
  sm : Small c
  h : HG c hg
  r : MaxOf rc (hg :: c.links.map lr)
  le : rc ≤ 40
  ge : hg + 7 ≤ rc
  pos : 1 ≤ hg
theorem Small.made {c : CF} (h : Small c) : ∃ hg rc, Made c hg rc := by
  have ne : c.links ≠ [] := h.fit.ok.lne
  obtain ⟨hg, hm⟩ := exists_max (l := c.links.map hgt) (by simpa using ne)
  obtain ⟨rc, rm⟩ := exists_max (l := hg :: c.links.map lr) (by simp)
  have ls : ∀ l ∈ c.links, _ := fun l hl => lr_small (links_small (e := c.e) (f := c.f) (by have := h.st; omega) (by have := h.st; omega) h.r h.d l hl)
  obtain ⟨l0, hl0, e0⟩ := List.mem_map.mp hm.1
  have k0 := ls l0 hl0
  have k1 := rm.2 (lr l0) (List.mem_cons_of_mem _ (List.mem_map_of_mem hl0))
  refine ⟨hg, rc, h, hm, rm, ?_, by omega, ?_⟩
  · rcases List.mem_cons.mp rm.1 with e | hr
    · omega
    · obtain ⟨l, hl, e⟩ := List.mem_map.mp hr
      have := ls l hl
      omega
  · rw [← e0]
    unfold hgt
    have n1 := lowS_nn l0.r
    have n2 := ab_nn l0.d
    have n3 := ab_nn l0.s
    have n4 := ab_nn l0.t
    omega
theorem max_app {hg rc r2 : Int} {A B : List Int} (h : MaxOf hg A) (r : MaxOf rc (hg :: B)) (r' : MaxOf r2 (A ++ B)) : r2 = rc := by
  refine Int.le_antisymm ?_ ?_
  · rcases List.mem_append.mp r'.1 with m | m
    · exact Int.le_trans (h.2 _ m) (r.2 _ List.mem_cons_self)
    · exact r.2 _ (List.mem_cons_of_mem _ m)
  · rcases List.mem_cons.mp r.1 with m | m
    · rw [m]; exact r'.2 _ (List.mem_append_left _ h.1)
    · exact r'.2 _ (List.mem_append_right _ m)
section
variable {c : CF} {hg rc : Int}
theorem Made.s1 (m : Made c hg rc) : ab c.s ≤ 1 := by
  have := m.sm.st
  rcases ab_cases c.s with k | k <;> omega
theorem Made.ends (m : Made c hg rc) {x y : Int} (hx : ab x ≤ 100) (hy : ab y ≤ 100) : EndsB c hg (x, y) (2 ^ 610) := by
  have big : (1000 : Int) ≤ 2 ^ 610 := by decide +kernel
  have le := m.le
  have ge := m.ge
  have e : (2 : Int) ^ 610 = (2 ^ 610 - 1) + 1 := by omega
  rw [e]
  exact ends_made m.sm.fit.ok m.h.high m.s1 (by omega) (by show ab y ≤ _; omega) (by show ab x ≤ _; omega)
theorem Made.low (m : Made c hg rc) {p : Pt} {n : Nat} (h : Per c.pass p n) : ab p.2 < hg ∧ ab p.1 ≤ hg := per_low m.sm.fit.ok m.h.high m.s1 h.1 h.2.1
theorem Made.inList (m : Made c hg rc) {ts : List Tr} (r : RetL c rc ts) {p : Pt} {n : Nat} (h : Per c.pass p n) : (p.1, p.2, n) ∈ ts := by
  have l := m.low h
  have ge := m.ge
  exact r.all p.1 p.2 n (by omega) (by omega) h
theorem Made.box (m : Made c hg rc) {ts : List Tr} (r : RetL c rc ts) {z : Tr} (hz : z ∈ ts) : ab z.1 ≤ 100 ∧ ab z.2.1 ≤ 100 := by
  have l := m.low (r.per z hz)
  have le := m.le
  have ge := m.ge
  simp only at l
  omega
end
/-! ### the way back -/
theorem pval_trim (y : Int) : ∀ r : List Int, pval (trim r) y = pval r y
  | [] => rfl
  | c :: r => by
    have ih := pval_trim y r
    simp only [trim]
    cases e : trim r with
    | nil =>
      rw [e] at ih
      have ih' : pval r y = 0 := ih.symm
      by_cases h : c = 0
      · subst h
        simp only [if_pos]
        show (0 : Int) = 0 + y * pval r y
        rw [ih', Int.mul_zero]
        rfl
      · simp only [if_neg h]
        show c + y * 0 = c + y * pval r y
        rw [ih']
    | cons d q =>
      rw [e] at ih
      show c + y * pval (d :: q) y = c + y * pval r y
      rw [ih]
theorem pval_neg (y : Int) : ∀ r : List Int, pval (r.map (0 - ·)) y = -pval r y
  | [] => rfl
  | c :: r => by
    show (0 - c) + y * pval (r.map (0 - ·)) y = -(c + y * pval r y)
    rw [pval_neg y r, Int.mul_neg]
    omega
def Und (s : Stp) : Prop := ∀ p, stepF (undo s) (stepF s p) = p
theorem runs_undo : ∀ {ss : List Stp}, (∀ s ∈ ss, Und s) → ∀ p, runs (ss.reverse.map undo) (runs ss p) = p
  | [], _, p => rfl
  | s :: ss, h, p => by
    rw [List.reverse_cons, List.map_append, runs_app]
    have ih := runs_undo (ss := ss) (fun z hz => h z (List.mem_cons_of_mem _ hz)) (stepF s p)
    have e : runs (s :: ss) p = runs ss (stepF s p) := rfl
    rw [e, ih]
    exact h s List.mem_cons_self p
theorem und_x (r : List Int) : Und (.x r) := fun p => by
  refine Prod.ext ?_ rfl
  show p.1 + pval r p.2 + pval (trim (r.map (0 - ·))) p.2 = p.1
  rw [pval_trim, pval_neg]
  omega
theorem undo_t (a b c d : Int) : undo (.t a b c d) = .t ((a * d - b * c) * d) (0 - (a * d - b * c) * b) (0 - (a * d - b * c) * c) ((a * d - b * c) * a) := rfl
theorem und_q (d : Int) : Und (.t 0 (-1) 1 d) := fun p => by
  have e : (0 : Int) * d - -1 * 1 = 1 := by rw [Int.zero_mul]; rfl
  rw [undo_t, e]
  refine Prod.ext ?_ ?_
  · show 1 * d * (0 * p.1 + -1 * p.2) + (0 - 1 * -1) * (1 * p.1 + d * p.2) = p.1
    simp only [Int.zero_mul, Int.one_mul, Int.zero_add, Int.neg_mul, Int.mul_neg]
    omega
  · show (0 - 1 * 1) * (0 * p.1 + -1 * p.2) + 1 * 0 * (1 * p.1 + d * p.2) = p.2
    have e2 : (0 : Int) - 1 * 1 = -1 := rfl
    rw [e2, Int.zero_mul, Int.zero_add, Int.mul_zero, Int.zero_mul]
    omega
theorem und_e {e f : Int} (he : pm e) (hf : pm f) : Und (.t e 0 0 f) := fun p => by
  refine Prod.ext ?_ ?_
  · show (e * f - 0 * 0) * f * (e * p.1 + 0 * p.2) + (0 - (e * f - 0 * 0) * 0) * (0 * p.1 + f * p.2) = p.1
    rcases he with rfl | rfl <;> rcases hf with rfl | rfl <;> simp
  · show (0 - (e * f - 0 * 0) * 0) * (e * p.1 + 0 * p.2) + (e * f - 0 * 0) * e * (0 * p.1 + f * p.2) = p.2
    rcases he with rfl | rfl <;> rcases hf with rfl | rfl <;> simp
theorem und_m (s t : Int) : Und (.m s t) := fun p => by
  refine Prod.ext ?_ ?_
  · show p.1 + s + (0 - s) = p.1
    omega
  · show p.2 + t + (0 - t) = p.2
    omega
/-- what is asked of each step -/
structure StepU (s : Stp) : Prop where
  und : Und s
  u : OkU s
  os : OkS (undo s)
  b : StepB (undo s)
theorem trim_sub : ∀ (r : List Int), (∀ x ∈ trim r, x ∈ r) ∧ (trim r).length ≤ r.length
  | [] => ⟨fun x h => h, Nat.le_refl _⟩
  | c :: r => by
    obtain ⟨h1, h2⟩ := trim_sub r
    simp only [trim]
    cases e : trim r with
    | nil =>
      by_cases h : c = 0
      · simp only [if_pos h]
        exact ⟨fun x hx => by simp at hx, Nat.zero_le _⟩
      · simp only [if_neg h]
        exact ⟨fun x hx => by obtain rfl := List.mem_singleton.mp hx; exact List.mem_cons_self, by simp⟩
    | cons d q =>
      rw [e] at h1 h2
      refine ⟨fun x hx => ?_, by simp only [List.length_cons] at *; omega⟩
      rcases List.mem_cons.mp hx with rfl | hx
      · exact List.mem_cons_self
      · exact List.mem_cons_of_mem _ (h1 x hx)
theorem Small.stepU {c : CF} (h : Small c) : ∀ s ∈ c.steps, StepU s := fun s hs => by
  have sm : ∀ {i : Int}, -2 ≤ i ∧ i ≤ 2 → Sm i := fun {i} hi => Sm.of (bt_small2 hi (Nat.le_refl 2)) (by decide) (by decide)
  have b6 : ∀ {i : Int}, -2 ≤ i ∧ i ≤ 2 → Bt 600 i := fun {i} hi => bt_small2 hi (by decide)
  rcases List.mem_append.mp (show s ∈ parS c.cs ++ _ from hs) with h1 | h1
  · obtain ⟨z, hz, h2⟩ := List.mem_flatMap.mp (show s ∈ c.cs.flatMap _ from h1)
    have h' : s = .x z.1 ∨ s = .t 0 (-1) 1 z.2 := by simpa using h2
    have cz := h.r z hz
    have dz := h.d z hz
    rcases h' with rfl | rfl
    · refine ⟨und_x _, Nat.le_trans cz.len (by decide), trivial, ?_, fun x hx => ?_⟩
      · have := (trim_sub (z.1.map (0 - ·))).2
        rw [List.length_map] at this
        exact Nat.le_trans this cz.len
      · obtain ⟨y, hy, rfl⟩ := List.mem_map.mp ((trim_sub (z.1.map (0 - ·))).1 x hx)
        exact b6 (by have := cz.ent y hy; omega)
    · have e : (0 : Int) * z.2 - -1 * 1 = 1 := by rw [Int.zero_mul]; rfl
      have k1 : (1 : Int) * z.2 = z.2 := Int.one_mul _
      refine ⟨und_q _, ⟨⟨sm (by omega), sm (by omega), sm (by omega), sm (by omega)⟩, by rw [e]; exact sm (by omega)⟩, ?_, ?_⟩
      · rw [undo_t, e, k1]
        exact ⟨⟨sm (by omega), sm (by decide), sm (by decide), sm (by decide)⟩, .inl (by simp)⟩
      · rw [undo_t, e, k1]
        exact ⟨b6 (by omega), b6 (by decide), b6 (by decide), b6 (by decide)⟩
  · have h' : s = .t c.e 0 0 c.f ∨ s = .m c.s c.t := by simpa using h1
    rcases h' with rfl | rfl
    · have he := h.e
      have hf := h.f
      refine ⟨und_e he hf, ?_, ?_, ?_⟩
      · refine ⟨⟨he.sm, sm (by omega), sm (by omega), hf.sm⟩, ?_⟩
        rcases he with a | a <;> rcases hf with b | b <;> rw [a, b] <;> exact sm (by decide)
      · rw [undo_t]
        rcases he with a | a <;> rcases hf with b | b <;> rw [a, b] <;> refine ⟨⟨sm (by decide), sm (by decide), sm (by decide), sm (by decide)⟩, by decide⟩
      · rw [undo_t]
        rcases he with a | a <;> rcases hf with b | b <;> rw [a, b] <;> exact ⟨b6 (by decide), b6 (by decide), b6 (by decide), b6 (by decide)⟩
    · have := h.st
      exact ⟨und_m _ _, trivial, trivial, b6 (by omega), b6 (by omega)⟩
theorem bfold_le : ∀ (ss : List Stp) {b b' : Nat}, b ≤ b' → bfold ss b ≤ bfold (List.replicate ss.length (.x [])) b'
  | [], b, b', h => h
  | s :: ss, b, b', h => by
    show bfold ss (bstep s b) ≤ bfold (List.replicate ss.length (.x [])) (bstep (.x []) b')
    refine bfold_le ss ?_
    cases s <;> simp only [bstep] <;> omega
theorem Small.back {c : CF} (h : Small c) {q : Pt} (h1 : ab q.1 ≤ 100) (h2 : ab q.2 ≤ 100) : OkRun (c.steps.reverse.map undo) q := by
  have bq : ∀ {i : Int}, ab i ≤ 100 → Bt 7 i := fun {i} h => by
    unfold Bt
    rw [ab_nat] at h
    omega
  refine (okrun_of (b := 7) (fun s hs => ?_) (by decide) ?_ (bq h1) (bq h2)).1
  · obtain ⟨z, hz, rfl⟩ := List.mem_map.mp hs
    exact (h.stepU z (List.mem_reverse.mp hz)).b
  · refine Nat.le_trans (bfold_le _ (Nat.le_refl 7)) ?_
    rw [List.length_map, List.length_reverse, CF.len_steps]
    have := h.len
    have e : ∀ k, k ≤ 2 → bfold (List.replicate (2 * k + 2) (.x [])) 7 ≤ 900000 := by decide
    exact e _ this
end K5
set_option Elab.async false
set_option linter.all false
set_option maxRecDepth 100000
set_option maxHeartbeats 4000000
namespace K5
open PySem PySem.Spec PyProof.Rows L2
theorem list_choose {α : Type} {f : α → V} : ∀ {acc : List V} {S : Nat → α → Prop}, (∀ (j : Nat) v, acc[j]? = some v → ∃ e, v = f e ∧ S j e) → ∃ es : List α, es.length = acc.length ∧ acc = es.map f ∧ ∀ (j : Nat) e, es[j]? = some e → S j e
  | [], _, _ => ⟨[], rfl, rfl, fun j e h => by simp at h⟩
  | v :: acc, S, h => by
    obtain ⟨e, he, hs⟩ := h 0 v rfl
    obtain ⟨es, h1, h2, h3⟩ := list_choose (acc := acc) (S := fun j => S (j + 1)) fun j v hv => h (j + 1) v (by simpa using hv)
    refine ⟨e :: es, by simp [h1], by rw [he, h2]; rfl, fun j z hz => ?_⟩
    cases j with
    | zero => obtain rfl : e = z := by simpa using hz
              exact hs
    | succ j => exact h3 j z (by simpa using hz)
def keyT (z : Tr) : List Key := [.inl z.1, .inl z.2.1]
def kvT (ts : List Tr) : List (List Key × V) := ts.map fun z => (keyT z, .int (z.2.2 : Nat))
theorem valV_mem {x y : Int} {n : Nat} : ∀ {ts : List Tr}, (ts.map fun z => (z.1, z.2.1)).Nodup → (x, y, n) ∈ ts → valV (kvT ts) [.inl x, .inl y] = some (.int (n : Nat))
  | [], _, h => by simp at h
  | z :: ts, nd, h => by
    rw [List.map_cons, List.nodup_cons] at nd
    unfold valV kvT
    rw [List.map_cons]
    by_cases e : keyT z = [.inl x, .inl y]
    · rw [List.find?_cons_of_pos (by simpa using e)]
      have e1 : z.1 = x ∧ z.2.1 = y := by
        unfold keyT at e
        simpa using e
      rcases List.mem_cons.mp h with h | h
      · rw [← h]
        rfl
      · exact absurd (List.mem_map.mpr ⟨_, h, by rw [e1.1, e1.2]⟩) nd.1
    · rw [List.find?_cons_of_neg (by simpa using e)]
      rcases List.mem_cons.mp h with h | h
      · rw [← h] at e
        exact absurd rfl e
      · exact valV_mem nd.2 h
theorem strok : PyData.strOk "back" = true := by
  first
    | rfl
    | decide
    | decide +kernel
theorem shp (n : Nat) : SeqAt.shaped (.tuple [.str "back", .int (n : Nat)]) = true := by
  simp [SeqAt.shaped, PyData.canLay0, PyData.canLayAll0, PyData.depth, PyData.depthAll]
  exact strok
section
variable {P : Program} {w : World} {K : Fg} {mg : Str → Option Value} {base : Heap}
def spLed (K : Fg) : Sp := fun vs H Q _ => ∃ p l us ts c hg rc, vs = [.ref p, .ref l] ∧ ProgAt K H p (CF.steps c) ∧ Made c hg rc ∧ H l = some (.lst us) ∧ Paired (TrAt H) us ts ∧ RetL c rc ts ∧ us.length ≤ 10000 ∧ ∀ H', Same H H' → Q (.bl true) H'
theorem ok_l_led_right (T : TX K mg) : Fx P w K mg base 12 (d_l_led_right.ad K) (spLed K) := by
  refine fx_mk T fd_l_led_right rfl sc_l_led_right bd_l_led_right (fun vs H Q E h => ?_) (fun cdv A outer s H vs Q E hr h => ?_)
  · obtain ⟨p, l, us, ts, c, hg, rc, rfl, _⟩ := h
    rfl
  · obtain ⟨p, l, us, ts, c, hg, rc, rfl, hp, md, hl, hus, ret, hlen, q⟩ := h
    have hu1 := hu_of hr
    have hu64 := hr.units
    have hu2 := Nat.lt_of_le_of_lt (Nat.add_le_add_left (by decide : 2 ≤ 64) _) hr.units
    refine ⟨_, (pss_cons (ps_par (i := 5) (j := 6) rfl sc_l_led_right.nd rfl rfl (by decide) rfl rfl (pa_cons (pe_callTy (call_dictT rfl hu2) (by rfl) (T.r "dict") ty_dict (pa_cons (pe_lc (g := (gTup K 3 (gCons (gName 2) (gCons (gName 3) (gCons (gName 4) gNil))))) (own := [("_law_x", 2), ("_law_y", 3), ("_law_many", 4)]) rfl sc_l_led_right.nd (pi_list (pv 1)) (blkOk_by (own := [("_law_x", 2), ("_law_y", 3), ("_law_many", 4)]) (N := n_l_led_right) (sc := defScope s_l_led_right) (by decide +kernel)) (fun _ _ _ _ _ => (pg_tup rfl (pgs_cons (pg_name (i := 2) sc_l_led_right.nd rfl (.inl rfl)) (pgs_cons (pg_name (i := 3) sc_l_led_right.nd rfl (.inl rfl)) (pgs_cons (pg_name (i := 4) sc_l_led_right.nd rfl (.inl rfl)) pgs_nil))))) (fun _ _ _ _ _ => pts_nil) (fun _ _ _ _ _ => (pe_tup (pa_cons (pe_tup (pa_cons (pv 2) (pa_cons (pv 3) pa_nil))) (pa_cons (pv 4) pa_nil))))) pa_nil)) (pa_cons (pe_un (un_invO (T.sp "Program" "__invert__") (ok_Program_invert T).raw (hr.mono (by decide)) pass0) (pv 0)) pa_nil)) rfl) (pss_cons (ps_for PassesOwn.never rfl (pi_list (pv 1)) (pg_tup rfl (pgs_cons (pg_name (i := 2) sc_l_led_right.nd rfl (.inl rfl)) (pgs_cons (pg_name (i := 3) sc_l_led_right.nd rfl (.inl rfl)) (pgs_cons (pg_name (i := 4) sc_l_led_right.nd rfl (.inl rfl)) pgs_nil)))) (pss_cons (ps_set (i := 7) sc_l_led_right.nd rfl (.inl rfl) (StX.pe_callO (pv 0) ⟨(T.sp "Program" "__call__").1, (T.sp "Program" "__call__").2.1, (T.sp "Program" "__call__").2.2⟩ (ok_Program_call T).raw (hr.mono (by decide)) pass0 (pa_cons (pv 2) (pa_cons (pv 3) pa_nil)))) (pss_cons (ps_if (PW.pt (pw_or (pt_cmpR op_ne (pe_dget2 hu1 (pv 5) (pv 7) pe_non ⟨by rfl, by rfl, by rfl, by rfl⟩) (pv 4) (nomark _)) (pw_or1 (pt_cmpR (op_neD hu64) (pe_f (ok_fate T) (T.g "fate") hr (by decide) (by rfl) (pa_cons (pv 0) (pa_cons (pv 2) (pa_cons (pv 3) pa_nil)))) (pe_tup (pa_cons pe_str (pa_cons (pv 4) pa_nil))) (nomark _))))) (pss_one (ps_ret pe_bl)) pss_nil) (pss_one (ps_if (pt_cmpR op_ne (pe_dget2 hu1 (pv 5) (StX.pe_callO (pv 6) ⟨(T.sp "Program" "__call__").1, (T.sp "Program" "__call__").2.1, (T.sp "Program" "__call__").2.2⟩ (ok_Program_call T).raw (hr.mono (by decide)) pass0 (pa_cons (pv 2) (pa_cons (pv 3) pa_nil))) pe_non ⟨by rfl, by rfl, by rfl, by rfl⟩) (pv 4) (nomark _)) (pss_one (ps_ret pe_bl)) pss_nil))))) (pss_one (ps_ret pe_bl)))), ?_⟩
    have f := md.sm.fit
    have lus := paired_len hus
    refine ⟨_, rfl, l, rfl, ⟨_, SqL.of hl⟩, fun D hD => ?_⟩
    refine lc_all (walk_list (xs := us)) (R := fun i H v => ∃ e : PrD, v = .ref e.p ∧ PrAt H e ∧ ∃ z : Tr, ts[i]? = some z ∧ e.k = keyT z ∧ e.v = .int (z.2.2 : Nat)) hD (fun H' s => SqL.of (s _ _ hl)) yat_same (fun i H H' v fx h => ?_) (Nat.le_trans hlen (by decide)) (fun i v H3 H' Q' hi s hY hq => ?_) (fun H3 acc s3 hacc hal hav => ?_)
    · obtain ⟨e, e1, ⟨e2, e3⟩, e4⟩ := h
      exact ⟨e, e1, ⟨fx _ _ rfl e2, fx _ _ rfl e3⟩, e4⟩
    · obtain ⟨rfl, hx1⟩ := hY
      obtain ⟨⟨x, y, n⟩, e, pp, rfl, hpp⟩ := paired_get hus hx1
      refine ⟨pp, _, rfl, SqT.of (s _ _ hpp), rfl, _, _, rfl, _, _, rfl, _, _, rfl, rfl, rfl, ?_⟩
      refine ⟨_, rfl, _, rfl, by show 2 ≤ sizeLine; decide, fun b hb => ⟨_, rfl, by show 2 ≤ sizeLine; decide, fun pr hpr => ?_⟩⟩
      have sb := same_upd (o := .tup [.int x, .int y]) hb
      exact hq _ _ (Same.of_upd sb (none_back sb hpr)) ⟨⟨pr, b, [.inl x, .inl y], .int (n : Nat)⟩, rfl, ⟨upd_same, (upd_ne (ne_new upd_same hpr)).trans upd_same⟩, _, e, rfl, rfl⟩
    obtain ⟨es, el, rfl, hes⟩ := list_choose (f := fun e : PrD => .ref e.p) (S := fun i e => PrAt H3 e ∧ ∃ z : Tr, ts[i]? = some z ∧ e.k = keyT z ∧ e.v = .int (z.2.2 : Nat)) hav
    have esl : es.length = ts.length := by rw [el, hal, lus]
    have ekv : es.map (fun e => (e.k, e.v)) = kvT ts := by
      apply List.ext_getElem?
      intro j
      unfold kvT
      rw [List.getElem?_map, List.getElem?_map]
      cases e1 : es[j]? with
      | none =>
        rw [List.getElem?_eq_none_iff] at e1
        rw [List.getElem?_eq_none (by omega)]
        rfl
      | some e =>
        obtain ⟨_, z, e2, e3, e4⟩ := hes j e e1
        rw [e2]
        show some (e.k, e.v) = _
        rw [e3, e4]
        rfl
    have ek : es.map (·.k) = ts.map keyT := by
      have := congrArg (List.map Prod.fst) ekv
      unfold kvT at this
      rw [List.map_map, List.map_map] at this
      exact this
    have nd : (es.map (·.k)).Nodup := by
      rw [ek]
      have := ret.nd
      rw [List.nodup_iff_pairwise_ne, List.pairwise_map] at this ⊢
      refine this.imp fun {a b} h z => h ?_
      unfold keyT at z
      have : a.1 = b.1 ∧ a.2.1 = b.2.1 := by simpa using z
      exact Prod.ext this.1 this.2
    refine ⟨D, es, rfl, hacc, fun e he => ?_, nd, fun dd hdd => ?_⟩
    · obtain ⟨j, hj⟩ := List.getElem?_of_mem he
      exact (hes j e hj).1
    rw [ekv]
    have s4 := same_upd (o := .dT (kvT ts)) hdd
    have s04 := Same.tr s3 s4
    obtain ⟨dp, tp, usp, hp1, hp2, hp3⟩ := id hp
    have su := md.sm.stepU
    refine ⟨_, rfl, p, dp, _, rfl, s04 _ _ hp1, p, c.steps, rfl, hp.keep (Same.fix s04), fun s hs => ⟨(su s hs).u, (su s hs).os⟩, by rw [CF.len_steps]; have := f.len; omega, fun H5 bk s5 hbk => ⟨_, _, rfl, ?_⟩⟩
    have s05 := Same.tr s04 s5
    have hd5 := s5 _ _ (upd_same (H := H3) (a := dd) (o := .dT (kvT ts)))
    obtain ⟨db, tb, usb, hb1, _⟩ := id hbk
    refine ⟨_, rfl, l, rfl, ⟨_, SqL.of (s05 _ _ hl)⟩, for_list (xs := us) (fun i σ H' => ∃ y2 y3 y4 y7, σ = [some (.ref p), some (.ref l), y2, y3, y4, some (.ref dd), some (.ref bk), y7] ∧ Same H5 H')
      ⟨none, none, none, none, rfl, Same.rfl'⟩ (fun i σ H' _ h => ?_) (fun i v σ H' hv hP => ?_) (fun σ H' hP => ?_)⟩
    · obtain ⟨_, _, _, _, _, s⟩ := h
      exact SqL.of (s _ _ (s05 _ _ hl))
    · obtain ⟨y2, y3, y4, y7, rfl, s⟩ := hP
      obtain ⟨⟨x, y, n⟩, e, pp, rfl, hpp⟩ := paired_get hus hv
      have hz := List.mem_of_getElem? e
      have per : Per c.pass (x, y) n := ret.per _ hz
      obtain ⟨bx, by'⟩ := md.box ret hz
      have bx' : ab x ≤ 100 := bx
      have by'' : ab y ≤ 100 := by'
      have big : (100 : Int) ≤ 2 ^ 610 := by decide +kernel
      have inj := f.ok.inj
      have s6 : Same H H' := Same.tr s05 s
      refine ⟨pp, _, rfl, SqT.of (s6 _ _ hpp), rfl, _, _, rfl, _, _, rfl, _, _, rfl, rfl, ?_⟩
      obtain ⟨okr, _⟩ := md.sm.okc (x, y) (by show ab x ≤ _; omega) (by show ab y ≤ _; omega)
      refine ⟨_, rfl, p, rfl, _, rfl, _, rfl, .inr ⟨dp, _, s6 _ _ hp1⟩, p, c.steps, (x, y), rfl, hp.keep (Same.fix s6), okr, fun H7 hr7 s7 hh => ?_⟩
      rw [runs_pass f.ok.ne] at hh
      have per2 : Per c.pass (c.pass (x, y)) n := (Per.pass inj rfl).mp per
      have in2 := md.inList ret per2
      have hd7 := s7 _ _ (s _ _ hd5)
      refine ⟨_, rfl, dd, rfl, .inr ⟨_, .inl hd7⟩, _, rfl, _, DGet.t (k := [Sum.inl (c.pass (x, y)).1, Sum.inl (c.pass (x, y)).2]) hd7 hh, ?_⟩
      rw [valV_mem ret.nd in2]
      refine ⟨_, rfl, rfl, _, rfl, iteE (by simp) ?_⟩
      -- the fate
      have s67 := Same.tr s6 s7
      refine ⟨_, rfl, _, rfl, _, rfl, p, c, hg, _, x, y, rfl, hp.keep (Same.fix s67), f, md.h, md.ends bx' by'', md.sm.okc, (Sm.of (n := 8) (by unfold Bt; rw [ab_nat] at by''; omega) (by decide) (by decide)).l, fun H8 fu fr s8 hf hfa => ?_⟩
      obtain rfl := fate_per f.ok md.h.high per hf
      refine ⟨_, rfl, by show 2 ≤ sizeLine; decide, fun z hz2 => ?_⟩
      have s9 := same_upd (o := .tup [.str "back", .int (n : Nat)]) hz2
      refine ⟨.tuple [.str "back", .int (n : Nat)], .tuple [.str "back", .int (n : Nat)], .tup (SqT.of (s9 _ _ hfa)) (.cons (.str _) (.cons (.int _) .nil)), .tup (SqT.of upd_same) (.cons (.str _) (.cons (.int _) .nil)), shp n, shp n, _, rfl, iteE ?_ ?_⟩
      · show (!(("back" : Str) == "back" && (((n : Nat) : Int) == ((n : Nat) : Int) && true))) = false
        simp
      -- back
      have s09 := Same.tr s67 (Same.tr s8 s9)
      have s59 := Same.tr (Same.tr s s7) (Same.tr s8 s9)
      have hd9 := s59 _ _ hd5
      have ebk : runs (c.steps.reverse.map undo) (x, y) = orb c.pass (n - 1) (x, y) := by
        have e1 : (x, y) = c.pass (orb c.pass (n - 1) (x, y)) := by
          have z : orb c.pass ((n - 1) + 1) (x, y) = (x, y) := by rw [show n - 1 + 1 = n by have := per.1; omega]; exact per.2.1
          exact z.symm
        conv => lhs; rw [e1, ← runs_pass f.ok.ne]
        exact runs_undo (fun s hs => (su s hs).und) _
      have per3 : Per c.pass (orb c.pass (n - 1) (x, y)) n := by
        have e1 : c.pass (orb c.pass (n - 1) (x, y)) = (x, y) := by
          have z : orb c.pass ((n - 1) + 1) (x, y) = (x, y) := by rw [show n - 1 + 1 = n by have := per.1; omega]; exact per.2.1
          exact z
        exact (Per.pass inj e1).mpr per
      have in3 := md.inList ret per3
      refine ⟨_, rfl, dd, rfl, .inr ⟨_, .inl hd9⟩, ?_⟩
      refine ⟨_, rfl, bk, rfl, _, rfl, _, rfl, .inr ⟨db, _, s59 _ _ hb1⟩, bk, _, (x, y), rfl, hbk.keep (Same.fix s59), md.sm.back bx' by'', fun H10 hr10 s10 hh10 => ?_⟩
      rw [ebk] at hh10
      refine ⟨_, DGet.t (k := [Sum.inl (orb c.pass (n - 1) (x, y)).1, Sum.inl (orb c.pass (n - 1) (x, y)).2]) (s10 _ _ hd9) hh10, ?_⟩
      rw [valV_mem ret.nd in3]
      exact ⟨_, rfl, rfl, _, rfl, iteE (by simp) ⟨_, _, _, _, rfl, Same.tr s59 s10⟩⟩
    · obtain ⟨y2, y3, y4, y7, rfl, s⟩ := hP
      exact q _ (Same.tr s05 s)
end
end K5
set_option Elab.async false
set_option linter.all false
set_option maxRecDepth 100000
set_option maxHeartbeats 4000000
namespace K5
open PySem PySem.Spec PyProof.Rows L2
def xyD (z : Tr) : PyData := .tuple [.int z.1, .int z.2.1]
def XyAt (H : Hp) (v : V) (z : Tr) : Prop := ∃ p, v = .ref p ∧ H p = some (.tup [.int z.1, .int z.2.1])
theorem XyAt.keep {H H' : Hp} {v : V} {z : Tr} (h : XyAt H v z) (k : Fixes H H') : XyAt H' v z := by
  obtain ⟨p, e, h⟩ := h
  exact ⟨p, e, k _ _ rfl h⟩
theorem dp_xys {K : Fg} {H : Hp} : ∀ {us : List V} {ts : List Tr}, Paired (XyAt H) us ts → DpAll K H us (ts.map xyD)
  | [], [], .nil => .nil
  | _ :: _, _ :: _, .cons ⟨p, e, h⟩ r => by
    subst e
    exact .cons (.tup (SqT.of h) (.cons (.int _) (.cons (.int _) .nil))) (dp_xys r)
theorem lay_xys : ∀ ts : List Tr, PyData.canLayAll0 (ts.map xyD) = true
  | [] => rfl
  | z :: ts => by simp [PyData.canLayAll0, PyData.canLay0, xyD, lay_xys ts]
theorem dep_xys : ∀ ts : List Tr, PyData.depthAll (ts.map xyD) ≤ 1
  | [] => by simp [PyData.depthAll]
  | z :: ts => by
    have := dep_xys ts
    simp [PyData.depthAll, PyData.depth, xyD]
    omega
theorem shp_xys (ts : List Tr) : SeqAt.shaped (.list (ts.map xyD)) = true := by
  have h1 := lay_xys ts
  have h2 := dep_xys ts
  simp [SeqAt.shaped, PyData.canLay0, PyData.depth, h1]
  omega
theorem any_xys {ts : List Tr} {x y : Int} : ((ts.map xyD).any fun z => PyData.eqv z (.tuple [.int x, .int y])) = true ↔ ∃ n, (x, y, n) ∈ ts := by
  rw [List.any_eq_true]
  constructor
  · rintro ⟨d, hd, e⟩
    obtain ⟨z, hz, rfl⟩ := List.mem_map.mp hd
    have e' : (z.1 == x && (z.2.1 == y && true)) = true := e
    have e2 : z.1 = x ∧ z.2.1 = y := by simpa using e'
    exact ⟨z.2.2, by rw [← e2.1, ← e2.2]; exact hz⟩
  · rintro ⟨n, h⟩
    refine ⟨xyD (x, y, n), List.mem_map_of_mem h, ?_⟩
    show (x == x && (y == y && true)) = true
    simp
theorem cut_mem {xs : List V} {lo hi : Option Int} {j : Nat} {v : V} (h : (cutV xs lo hi)[j]? = some v) : v ∈ xs := by
  have h1 := List.mem_of_getElem? h
  unfold cutV at h1
  exact List.mem_of_mem_drop (List.mem_of_mem_take h1)
theorem paired_mem {α : Type} {R : V → α → Prop} {vs : List V} {ss : List α} (h : Paired R vs ss) {v : V} (hv : v ∈ vs) : ∃ s ∈ ss, R v s := by
  obtain ⟨j, hj⟩ := List.getElem?_of_mem hv
  obtain ⟨s, e, r⟩ := paired_get h hj
  exact ⟨s, List.mem_of_getElem? e, r⟩
theorem FateAt.wd {H : Hp} {t : Addr} {r : Fate} (h : FateAt H t r) : ∃ (s : Str) (n : Nat), H t = some (.tup [.str s, .int (n : Nat)]) ∧ (s = "back" ↔ ∃ m, r = .back m) ∧ (s = "away" ↔ ∃ m, r = .away m) := by
  cases r with
  | back n => exact ⟨"back", n, h, ⟨fun _ => ⟨n, rfl⟩, fun _ => rfl⟩, ⟨fun z => absurd z (by decide), fun ⟨m, z⟩ => by cases z⟩⟩
  | away n => exact ⟨"away", n, h, ⟨fun z => absurd z (by decide), fun ⟨m, z⟩ => by cases z⟩, ⟨fun _ => ⟨n, rfl⟩, fun _ => rfl⟩⟩
theorem sev_not {c k : CF} {m : Nat} (hp : ∀ p, k.pass p = orb c.pass m p) (hm : 1 ≤ m) {p : Pt} (h : ∀ n, ¬ Per c.pass p n) : ∀ n, ¬ Per k.pass p n := fun n hn => by
  have e : orb c.pass (m * n) p = p := by
    rw [← orb_orb, show orb c.pass m = k.pass from (funext hp).symm]
    exact hn.2.1
  have : 1 ≤ m * n := Nat.mul_pos hm hn.1
  obtain ⟨j, hj⟩ := per_of this e
  exact h j hj
theorem sl_small {x : Int} (h : ab x ≤ 100) : Sl x := (Sm.of (n := 8) (by unfold Bt; rw [ab_nat] at h; omega) (by decide) (by decide)).l
theorem ab_le {x b : Int} (h1 : -b ≤ x) (h2 : x ≤ b) : ab x ≤ b := by rcases ab_cases x with k | k <;> omega
section
variable {P : Program} {w : World} {K : Fg} {mg : Str → Option Value} {base : Heap}
def spLaw (K : Fg) : Sp := fun vs H Q _ => ∃ (a : Addr) (ns : List Int), vs = [.ref a] ∧ SqL K H a (ns.map V.int) ∧ ns.length ≤ 63 ∧ ∀ H', Q (.bl true) H'
theorem fn_mk {k : Nat} {d : FD} {fd : FuncData} {N ps : List Str} {sp : Sp} (F : FunD K d.name d.qual (defArgs d.st) (defBody d.st) (defScope d.st) [] [] (d.ad K) fd) (S : FnScope N ps (defScope d.st))
    (len : ∀ vs H Q E, sp vs H Q E → vs.length = ps.length)
    (body : ∀ (cdv : Value) (A : Around) (outer : List Env) (s : Shared) (H : Hp) (vs : List V) (Q : VK) (E : XK), Room k (A.deeper (envOfC d.qual (defScope d.st) s.heap.objs.size (d.ad K) cdv)) → sp vs H Q E →
      ∃ t, PSs (cxOf CX0 P w K mg base N d.qual (defScope d.st) (d.ad K) cdv A outer s H E).nox (defBody d.st) t ∧ t { nx := fun _ H' => Q .non H', rt := Q } (start N vs) H) : FnOk P w K mg base CX0 (k + 1) (d.ad K) fd ps sp :=
  F.ok S len fun cdv A outer s H vs Q E hr h => by
    obtain ⟨t, ht, hq⟩ := body cdv A outer s H vs Q E hr h
    exact ⟨t, ht.nox, hq⟩
theorem law_ok (T : TX K mg) {fd : FuncData} (F : FunD K d_law.name d_law.qual (defArgs d_law.st) (defBody d_law.st) (defScope d_law.st) [] [] (d_law.ad K) fd) : FnOk P w K mg base CX0 13 (d_law.ad K) fd ["_law_script"] (spLaw K) := by
  refine fn_mk F sc_law (fun vs H Q E h => ?_) (fun cdv A outer s H vs Q E hr h => ?_)
  · obtain ⟨a, ns, rfl, _⟩ := h
    rfl
  · obtain ⟨a, ns, rfl, ha, hn, q⟩ := h
    have hu64 := hr.units
    have hu65 := Nat.lt_of_le_of_lt (Nat.add_le_add_left (by decide : 65 ≤ 16 * 12 + 200) _) (by have := hr.un; rw [Nat.add_assoc] at this; exact this)
    refine ⟨_, (pss_cons (ps_set (i := 1) sc_law.nd rfl (.inl rfl) (pe_f (ok_l_begun T) (T.g "_law_begun") hr (by decide) (by rfl) (pa_cons (pv 0) pa_nil))) (pss_cons (ps_for PassesOwn.never rfl (pi_range1 (by rfl) (T.r "range") (pa_cons (pe_op op_add pe_int (pe_callB (call_min2 rfl) (by rfl) (T.r "min") bi_min (pa_cons (pe_callB call_len_seq (by rfl) (T.r "len") bi_len (pa_cons (pv 0) pa_nil)) (pa_cons pe_int pa_nil)))) pa_nil)) (pg_name (i := 2) sc_law.nd rfl (.inl rfl)) (pss_cons (ps_set (i := 3) sc_law.nd rfl (.inl rfl) (pe_f (ok_l_small_core T) (T.g "_law_small_core") hr (by decide) (by rfl) (pa_cons (pv 1) pa_nil))) (pss_cons (ps_par (i := 4) (j := 5) rfl sc_law.nd rfl rfl (by decide) rfl rfl (pa_cons (pe_f (ok_l_sizes T) (T.g "_law_sizes") hr (by decide) (by rfl) (pa_cons (pv 3) pa_nil)) (pa_cons (pe_f (ok_l_program_of T) (T.g "_law_program_of") hr (by decide) (by rfl) (pa_cons (pv 3) pa_nil)) pa_nil)) rfl) (pss_cons (ps_if (pt_cmpR op_gt (pe_f (ok_l_box T) (T.g "_law_box") hr (by decide) (by rfl) (pa_cons (pv 4) pa_nil)) pe_int (nomark _)) (pss_one ps_continue) pss_nil) (pss_cons (ps_set (i := 6) sc_law.nd rfl (.inl rfl) (pe_f (ok_returning T) (T.g "returning") hr (by decide) (by rfl) (pa_cons (pv 5) pa_nil))) (pss_cons (ps_if (pt_not (pt_val (pe_f (ok_l_led_right T) (T.g "_law_led_right") hr (by decide) (by rfl) (pa_cons (pv 5) (pa_cons (pv 6) pa_nil))))) (pss_one (ps_ret pe_bl)) pss_nil) (pss_cons (ps_par (i := 10) (j := 11) rfl sc_law.nd rfl rfl (by decide) rfl rfl (pa_cons (pe_new (ok_Wedge_init T) (T.m "Wedge") (T.g "Wedge") hr (by decide) (by rfl) (pa_cons (pv 5) pa_nil)) (pa_cons (pe_lc (g := (gTup K 3 (gCons (gName 7) (gCons (gName 8) (gCons (gName 9) gNil))))) (own := [("_law_x", 7), ("_law_y", 8), ("_law_many", 9)]) rfl sc_law.nd (pi_list (pv 6)) (blkOk_by (own := [("_law_x", 7), ("_law_y", 8), ("_law_many", 9)]) (N := n_law) (sc := defScope s_law) (by decide +kernel)) (fun _ _ _ _ _ => (pg_tup rfl (pgs_cons (pg_name (i := 7) sc_law.nd rfl (.inl rfl)) (pgs_cons (pg_name (i := 8) sc_law.nd rfl (.inl rfl)) (pgs_cons (pg_name (i := 9) sc_law.nd rfl (.inl rfl)) pgs_nil))))) (fun _ _ _ _ _ => pts_nil) (fun _ _ _ _ _ => (pe_tup (pa_cons (pv 7) (pa_cons (pv 8) pa_nil))))) pa_nil)) rfl) (pss_cons (ps_set (i := 12) sc_law.nd rfl (.inl rfl) (pe_pr (ok_Wedge_reach T) (T.c "Wedge") (T.pr "Wedge" "reach") hr (by decide) (pv 10) rfl)) (pss_cons (ps_for PassesOwn.never rfl (pi_range1 (by rfl) (T.r "range") (pa_cons pe_int pa_nil)) (pg_name (i := 13) sc_law.nd rfl (.inl rfl)) (pss_cons (ps_par (i := 7) (j := 8) rfl sc_law.nd rfl rfl (by decide) rfl rfl (pa_cons (pe_f (ok_l_number T) (T.g "_law_number") hr (by decide) (by rfl) (pa_cons (pv 1) (pa_cons pe_int pa_nil))) (pa_cons (pe_f (ok_l_pick T) (T.g "_law_pick") hr (by decide) (by rfl) (pa_cons (pv 1) (pa_cons (pe_lst (pa_cons (pe_f (ok_l_number T) (T.g "_law_number") hr (by decide) (by rfl) (pa_cons (pv 1) (pa_cons pe_int pa_nil))) (pa_cons (pv 12) (pa_cons (pe_op op_sub pe_int (pv 12)) (pa_cons (pe_op op_add (pv 12) pe_int) pa_nil))))) pa_nil))) pa_nil)) rfl) (pss_one (ps_if (pt_cmpR op_ne (pe_cmpR op_eq (pe_ix ix_tup (pe_f (ok_fate T) (T.g "fate") hr (by decide) (by rfl) (pa_cons (pv 5) (pa_cons (pv 7) (pa_cons (pv 8) pa_nil)))) pe_int (fun _ _ => rfl)) pe_str (nomark _)) (pe_cmpR (op_inD hu65) (pe_tup (pa_cons (pv 7) (pa_cons (pv 8) pa_nil))) (pv 11) (by with_unfolding_all rfl)) (nomark _)) (pss_one (ps_ret pe_bl)) pss_nil)))) (pss_cons (ps_set (i := 9) sc_law.nd rfl (.inl rfl) (pe_op op_add pe_int (pe_f (ok_l_take T) (T.g "_law_take") hr (by decide) (by rfl) (pa_cons (pv 1) (pa_cons pe_int pa_nil))))) (pss_cons (ps_set (i := 14) sc_law.nd rfl (.inl rfl) (pe_f (ok_plain T) (T.g "plain") hr (by decide) (by rfl) (pa_cons (pe_me (ok_Program_passes T) (T.c "Program") (T.me "Program" "passes") hr (by decide) (pv 5) (pa_cons (pv 9) pa_nil)) pa_nil))) (pss_cons (ps_if (pt_cmpR op_notBl (pe_f (ok_is_core T) (T.g "is_core") hr (by decide) (by rfl) (pa_cons (pv 14) pa_nil)) pe_bl (nomark _)) (pss_one (ps_ret pe_bl)) pss_nil) (pss_cons (ps_for PassesOwn.never rfl (pi_list (pe_slice sl_list (pv 6) po_none (po_some pe_int))) (pg_tup rfl (pgs_cons (pg_name (i := 7) sc_law.nd rfl (.inl rfl)) (pgs_cons (pg_name (i := 8) sc_law.nd rfl (.inl rfl)) (pgs_cons (pg_name (i := 15) sc_law.nd rfl (.inl rfl)) pgs_nil)))) (pss_one (ps_if (pt_cmpR (op_neD hu64) (pe_f (ok_fate T) (T.g "fate") hr (by decide) (by rfl) (pa_cons (pv 14) (pa_cons (pv 7) (pa_cons (pv 8) pa_nil)))) (pe_tup (pa_cons pe_str (pa_cons (pe_op op_fdivW (pv 15) (pe_f (ok_l_gcd T) (T.g "_law_gcd") hr (by decide) (by rfl) (pa_cons (pv 15) (pa_cons (pv 9) pa_nil)))) pa_nil))) (nomark _)) (pss_one (ps_ret pe_bl)) pss_nil))) (pss_one (ps_for PassesOwn.never rfl (pi_list (pe_lst (pa_cons (pe_tup (pa_cons (pv 12) (pa_cons (pv 12) pa_nil))) (pa_cons (pe_tup (pa_cons pe_int (pa_cons (pe_op op_add pe_int (pv 12)) pa_nil))) (pa_cons (pe_tup (pa_cons (pe_op op_add (pv 12) pe_int) (pa_cons pe_int pa_nil))) pa_nil))))) (pg_name (i := 16) sc_law.nd rfl (.inl rfl)) (pss_one (ps_if (PW.pt (pw_or (pt_cmpR op_ne (pe_ix ix_tup (pe_f (ok_fate T) (T.g "fate") hr (by decide) (by rfl) (pa_cons (pv 14) (pa_cons (pe_ix ix_tup (pv 16) pe_int (fun _ _ => rfl)) (pa_cons (pe_ix ix_tup (pv 16) pe_int (fun _ _ => rfl)) pa_nil)))) pe_int (fun _ _ => rfl)) pe_str (nomark _)) (pw_or1 (pt_cmpR op_ne (pe_ix ix_tup (pe_f (ok_fate T) (T.g "fate") hr (by decide) (by rfl) (pa_cons (pv 5) (pa_cons (pe_ix ix_tup (pv 16) pe_int (fun _ _ => rfl)) (pa_cons (pe_ix ix_tup (pv 16) pe_int (fun _ _ => rfl)) pa_nil)))) pe_int (fun _ _ => rfl)) pe_str (nomark _))))) (pss_one (ps_ret pe_bl)) pss_nil))))))))))))))))) (pss_one (ps_ret pe_bl)))), ?_⟩
    refine ⟨_, rfl, a, ns, rfl, ha, hn, fun H1 d wl cl s1 st1 => ?_⟩
    refine ⟨_, rfl, a, _, rfl, .inl (s1.seq ha), _, _, rfl, _, _, rfl, rfl, _, rfl, ?_, ?_, for_range (fun i σ H' => ∃ y2 y3 y4 y5 y6 y7 y8 y9 y10 y11 y12 y13 y14 y15 y16, σ = [some (.ref a), some (.ref d), y2, y3, y4, y5, y6, y7, y8, y9, y10, y11, y12, y13, y14, y15, y16] ∧ StAt H' d wl cl (1000 - 400 * i))
      ⟨none, none, none, none, none, none, none, none, none, none, none, none, none, none, none, rfl, st1.less (by decide)⟩ (fun i σ H' hi hP => ?_) (fun σ H' _ => q _)⟩
    · split <;> omega
    · split <;> omega
    obtain ⟨y2, y3, y4, y5, y6, y7, y8, y9, y10, y11, y12, y13, y14, y15, y16, rfl, st⟩ := hP
    have hi2 : i < 2 := by
      split at hi <;> omega
    -- a core
    refine ⟨_, rfl, d, wl, cl, 1000 - 400 * i - 40, rfl, st.less (by omega), fun H2 ls us c x2 st2 hls lsw hraw hsm => ?_⟩
    refine ⟨_, rfl, ls, us, c, wl, rfl, hls, hraw, hsm, fun H3 tz hg' rc' s3 mh mr htz => ?_⟩
    refine ⟨_, rfl, ls, us, c, wl, rfl, s3 _ _ hls, Paired.mapP hraw fun v q h => h.same s3, hsm, fun H4 p s4 hp => ⟨_, _, rfl, ?_⟩⟩
    obtain ⟨hg, rc, md⟩ := hsm.made
    obtain rfl := md.h.uniq mh
    obtain rfl := max_app md.h md.r mr
    have le := md.le
    have ge := md.ge
    have hpos := md.pos
    have s24 := Same.tr s3 s4
    have st4 := st2.same s24
    refine ⟨_, rfl, tz, hg, rc', rfl, s4 _ _ htz, by omega, by omega, _, _, rfl, rfl, _, rfl, ite2 (fun hb => ?_) (fun hb => ?_)⟩
    · exact ⟨_, _, _, _, _, _, _, _, _, _, _, _, _, _, _, rfl, st4.less (by omega)⟩
    -- the points that come back
    have f := hsm.fit
    refine ⟨_, rfl, p, c, hg, rc', _, rfl, hp, f, md.h, md.r, by omega, le, fun x y h1 h2 => md.ends (by omega) (by omega), hsm.okc, fun H5 lr us5 ts s5 hlr hts ret hlen nlr => ?_⟩
    have st5 := st4.same s5
    have ldr := st4.ne nlr
    refine ⟨_, rfl, _, rfl, p, lr, us5, ts, c, hg, rc', rfl, hp.keep (Same.fix s5), md, hlr, hts, ret, hlen, fun H6 s6 => ⟨_, rfl, iteF ?_⟩⟩
    have s56 := Same.tr s5 s6
    have hp6 := hp.keep (Same.fix s56)
    refine ⟨_, rfl, fun wd dx nx nd ne => ⟨wd, dx, p, c, rfl, upd_same, hp6.keep (Same.fix (same_mk nx nd)), f, fun H7 hg2 rc2 k h1 h2 h3 => ⟨rfl, ?_⟩⟩⟩
    have s7 : Same H6 H7 := Same.made nx nd fun b o e nb => k b o nb e
    obtain rfl := md.h.uniq h1
    obtain rfl := md.r.uniq h2
    have s57 := Same.tr s6 s7
    have hlr7 := s57 _ _ hlr
    refine ⟨_, rfl, lr, rfl, ⟨_, SqL.of hlr7⟩, fun D hD => ?_⟩
    refine lc_all (walk_list (xs := us5)) (R := fun i H v => ∃ z : Tr, ts[i]? = some z ∧ XyAt H v z) hD (fun H' s => SqL.of (s _ _ hlr7)) yat_same (fun i H H' v fx h => ?_) (Nat.le_trans hlen (by decide)) (fun i v H8 H' Q' hi s hY hq => ?_) (fun H8 acc s8 hacc hal hav => ⟨_, _, rfl, ?_⟩)
    · obtain ⟨z, e, h⟩ := h
      exact ⟨z, e, h.keep fx⟩
    · obtain ⟨rfl, hx1⟩ := hY
      obtain ⟨⟨x, y, n⟩, e, pp, rfl, hpp⟩ := paired_get hts hx1
      refine ⟨pp, _, rfl, SqT.of (s _ _ (s57 _ _ hpp)), rfl, _, _, rfl, _, _, rfl, _, _, rfl, rfl, rfl, ?_⟩
      exact ⟨_, rfl, _, rfl, by show 2 ≤ sizeLine; decide, fun b hb => hq _ _ (same_upd hb) ⟨_, e, b, rfl, upd_same⟩⟩
    have hkn : Paired (XyAt H8) acc ts := paired_of (by rw [hal, paired_len hts]) hav
    have s58 := Same.tr s57 s8
    have st8 := st5.same s58
    have ldD := (st5.same s57).ne hD
    obtain ⟨dw, h3w⟩ := s8 _ _ h3.choose_spec |> fun z => (⟨_, z⟩ : ∃ dx, H8 wd = some (.ins (glA "Wedge" K) dx _))
    refine ⟨_, rfl, wd, dw, _, rfl, h3w, wd, p, hg, rc', rfl, ⟨dw, h3w⟩, ?_⟩
    have hp8 := hp6.keep (Same.fix (Same.tr s7 s8))
    have hlr8 := s58 _ _ hlr
    have hts8 : Paired (TrAt H8) us5 ts := Paired.mapP hts fun v q h => h.keep (Same.fix s58)
    -- single points
    refine ⟨8, rfl, by decide, by decide, for_range (n := 8) (fun j σ H' => ∃ y7 y8 y13, σ = [some (.ref a), some (.ref d), some (.int (0 + i)), some (.ref ls), some (.ref tz), some (.ref p), some (.ref lr), y7, y8, y9, some (.ref wd), some (.ref D), some (.int rc'), y13, y14, y15, y16] ∧ SameX d wl H8 H' ∧ StAt H' d wl cl (1000 - 400 * i - 40 - 7 * j))
      ⟨y7, y8, y13, rfl, SameX.rf, st8⟩ (fun j σ H' hj hP => ?_) (fun σ H' hP => ?_)⟩
    · obtain ⟨z7, z8, z13, rfl, x9, st9⟩ := hP
      refine ⟨_, rfl, d, wl, cl, 1000 - 400 * i - 40 - 7 * j - 3, 40, rfl, st9.less (by omega), by decide, by decide, fun H10 x x10 st10 hx1 hx2 => ?_⟩
      refine ⟨_, rfl, _, rfl, d, wl, cl, 1000 - 400 * i - 40 - 7 * j - 6, 40, rfl, st10.less (by omega), by decide, by decide, fun H11 y0 x11 st11 hy1 hy2 => ?_⟩
      refine ⟨_, rfl, _, rfl, _, _, rfl, rfl, _, rfl, _, _, rfl, rfl, by show 4 ≤ sizeLine; decide, fun l12 hl12 => ?_⟩
      have s12 := same_upd (o := .lst [.int y0, .int rc', .int (0 - rc'), .int (rc' + 7)]) hl12
      refine ⟨d, wl, cl, 1000 - 400 * i - 40 - 7 * j - 7, l12, [.int y0, .int rc', .int (0 - rc'), .int (rc' + 7)], rfl, (st11.same s12).less (by omega), upd_same, by simp, by show 4 ≤ 100; decide, (st11.ne hl12).1, (st11.ne hl12).2.1, fun H13 v x13 st13 hv => ⟨_, _, rfl, ?_⟩⟩
      obtain ⟨y, rfl, hya⟩ : ∃ y : Int, v = .int y ∧ ab y ≤ 100 := by
        simp only [List.mem_cons, List.not_mem_nil, or_false] at hv
        rcases hv with rfl | rfl | rfl | rfl
        · exact ⟨_, rfl, ab_le (by omega) (by omega)⟩
        · exact ⟨_, rfl, ab_le (by omega) (by omega)⟩
        · exact ⟨_, rfl, ab_le (by omega) (by omega)⟩
        · exact ⟨_, rfl, ab_le (by omega) (by omega)⟩
      have hxa : ab x ≤ 100 := ab_le (by omega) (by omega)
      have xx : SameX d wl H8 H13 := SameX.tr x9 (SameX.tr x10 (SameX.tr x11 (SameX.tr (Same.x s12) x13)))
      have fx := SameX.fixS xx st8
      refine ⟨_, rfl, _, rfl, _, rfl, p, c, hg, _, x, y, rfl, hp8.keep fx, f, md.h, md.ends hxa hya, hsm.okc, sl_small hya, fun H14 uf fr s14 hf hfa => ?_⟩
      obtain ⟨sw, nw, hw14, hbk, _⟩ := hfa.wd
      refine ⟨uf, _, _, .str sw, rfl, rfl, SqT.of hw14, rfl, rfl, ?_⟩
      refine ⟨_, rfl, _, rfl, by show 2 ≤ sizeLine; decide, fun t15 ht15 => ?_⟩
      have s15 := same_upd (o := .tup [.int x, .int y]) ht15
      have hk15 : Paired (XyAt (upd H14 t15 (.tup [.int x, .int y]))) acc ts := Paired.mapP hkn fun v q h => (h.keep fx).keep (Same.fix (Same.tr s14 s15))
      have hD15 := s15 _ _ (s14 _ _ (xx _ _ ldD.1 ldD.2.1 hacc))
      refine ⟨_, rfl, .tuple [.int x, .int y], ts.map xyD, .tup (SqT.of upd_same) (.cons (.int _) (.cons (.int _) .nil)), .lst (SqL.of hD15) (dp_xys hk15), rfl, shp_xys ts, rfl, _, rfl, iteE ?_ ?_⟩
      · have key : decide (V.str sw = V.str "back") = ((ts.map xyD).any fun z => PyData.eqv z (.tuple [.int x, .int y])) := by
          rw [Bool.eq_iff_iff, any_xys, decide_eq_true_eq]
          constructor
          · intro e
            obtain ⟨m, rfl⟩ := hbk.mp (V.str.inj e)
            exact ⟨m, md.inList ret (fate_back hf)⟩
          · rintro ⟨n, hm⟩
            have per := ret.per _ hm
            rw [hbk.mpr ⟨n, fate_per f.ok md.h.high per hf⟩]
        show (!decide (V.bl (decide (V.str sw = V.str "back")) = V.bl ((ts.map xyD).any fun z => PyData.eqv z (.tuple [.int x, .int y])))) = false
        rw [key]
        simp
      · exact ⟨_, _, _, rfl, SameX.tr xx (Same.x (Same.tr s14 s15)), (st13.same (Same.tr s14 s15)).less (by omega)⟩
    obtain ⟨z7, z8, z13, rfl, x9, st9⟩ := hP
    -- several passes
    refine ⟨_, rfl, d, wl, cl, 1000 - 400 * i - 40 - 56 - 1, 2, rfl, st9.less (by omega), by decide, by decide, fun H10 g x10 st10 g0 g1 => ⟨_, _, rfl, rfl, ?_⟩⟩
    obtain ⟨m, hm, hm2⟩ : ∃ m : Nat, (2 : Int) + g = (m : Nat) ∧ (m = 2 ∨ m = 3) := ⟨(2 + g).toNat, by omega, by omega⟩
    refine at_nm (σ' := [some (.ref a), some (.ref d), some (.int (0 + i)), some (.ref ls), some (.ref tz), some (.ref p), some (.ref lr), z7, z8, some (.int (m : Nat)), some (.ref wd), some (.ref D), some (.int rc'), z13, y14, y15, y16]) (by rw [← hm]; rfl) ?_
    obtain ⟨kk, sev⟩ := several hsm hm2
    have x810 := SameX.tr x9 x10
    have fx10 := SameX.fixS x810 st8
    have hp10 := hp8.keep fx10
    obtain ⟨dp, tp, usp, hp1, _, _⟩ := id hp10
    have sl2 : c.steps.length ≤ 6 := by rw [CF.len_steps]; have := hsm.len; omega
    refine ⟨_, rfl, p, dp, _, rfl, hp1, rfl, _, rfl, p, c.steps, m, rfl, hp10, by omega, by omega, f.oks, (by intro z; rw [z] at sl2; have := CF.len_steps c; rw [z] at this; simp at this), by omega, fun H11 px s11 hpx => ?_⟩
    refine ⟨px, _, kk, rfl, hpx, ?_, sev.run, sev.fit, fun H12 pk s12 hpk => ?_⟩
    · have : ∀ (n : Nat) (l : List Stp), (List.replicate n l).flatten.length = n * l.length := fun n l => by simp
      rw [this]
      have : m * c.steps.length ≤ 3 * 6 := Nat.mul_le_mul (by omega) sl2
      omega
    have s1012 := Same.tr s11 s12
    refine ⟨_, rfl, pk, kk, rfl, hpk, sev.fit, fun H13 s13 => ⟨true, true, rfl, rfl, _, rfl, iteF ?_⟩⟩
    have s1013 := Same.tr s1012 s13
    have hpk13 := hpk.keep (Same.fix s13)
    have hp13 := hp10.keep (Same.fix s1013)
    have st13 := st10.same s1013
    obtain ⟨hg2, mh2⟩ := exists_max (l := kk.links.map hgt) (by have := sev.fit.ok.lne; simpa using this)
    have big : (1000 : Int) ≤ 2 ^ 610 := by decide +kernel
    have ends2 : ∀ {x y : Int}, ab x ≤ 100 → ab y ≤ 100 → EndsB kk hg2 (x, y) (2 ^ 610) := fun {x y} hx hy =>
      ends_several f.ok md.h.high md.s1 sev.fit.ok sev.pass (B := 100) (by omega) hy (by show ab x ≤ 101; omega) (by omega) (sev.hg _ mh2)
    have hlr10 := x810 _ _ ldr.1 ldr.2.1 hlr8
    have hts13 : Paired (TrAt H13) us5 ts := Paired.mapP hts8 fun v q h => (h.keep fx10).keep (Same.fix s1013)
    refine ⟨_, rfl, _, rfl, lr, us5, rfl, SqL.of (s1013 _ _ hlr10), fun lc hlc => ?_⟩
    have s14 := same_upd (o := .lst (cutV us5 none (some 6))) hlc
    refine ⟨lc, rfl, ⟨_, SqL.of upd_same⟩, for_list (xs := cutV us5 none (some 6)) (fun j σ H' => ∃ y7 y8 y15, σ = [some (.ref a), some (.ref d), some (.int (0 + i)), some (.ref ls), some (.ref tz), some (.ref p), some (.ref lr), y7, y8, some (.int (m : Nat)), some (.ref wd), some (.ref D), some (.int rc'), z13, some (.ref pk), y15, y16] ∧ Same (upd H13 lc (.lst (cutV us5 none (some 6)))) H')
      ⟨z7, z8, y15, rfl, Same.rfl'⟩ (fun j σ H' _ h => ?_) (fun j v σ H' hv hP => ?_) (fun σ H' hP => ?_)⟩
    · obtain ⟨_, _, _, _, s⟩ := h
      exact SqL.of (s _ _ upd_same)
    · obtain ⟨w7, w8, w15, rfl, s15⟩ := hP
      have s1315 := Same.tr s14 s15
      obtain ⟨⟨x, y, n⟩, hz, pp, rfl, hpp⟩ := paired_mem hts13 (cut_mem hv)
      have per : Per c.pass (x, y) n := ret.per _ hz
      obtain ⟨bx, by'⟩ := md.box ret hz
      have bx' : ab x ≤ 100 := bx
      have by'' : ab y ≤ 100 := by'
      refine ⟨pp, _, rfl, SqT.of (s1315 _ _ hpp), rfl, _, _, rfl, _, _, rfl, _, _, rfl, rfl, ?_⟩
      refine ⟨_, rfl, _, rfl, _, rfl, pk, kk, hg2, _, x, y, rfl, hpk13.keep (Same.fix s1315), sev.fit, mh2, ends2 bx' by'', sev.okc, sl_small by'', fun H16 fu fr s16 hf hfa => ?_⟩
      have per2 : Per kk.pass (x, y) (n / Nat.gcd n m) := per.many (by omega) sev.pass
      obtain rfl := fate_per sev.fit.ok (HG.high mh2) per2 hf
      have gpos : 0 < Nat.gcd n m := Nat.gcd_pos_of_pos_right n (by omega)
      have gle : Nat.gcd n m ≤ 3 := Nat.le_trans (Nat.le_of_dvd (by omega) (Nat.gcd_dvd_right n m)) (by omega)
      refine ⟨_, rfl, _, rfl, _, rfl, n, m, rfl, _, _, rfl, rfl, ⟨by omega, Nat.lt_trans (Bt.log (n := 2) (by unfold Bt; rw [Int.natAbs_natCast]; omega) (by decide)) (by decide)⟩, by show 2 ≤ sizeLine; decide, fun z hz2 => ?_⟩
      have s17 := same_upd (o := .tup [.str "back", .int ((n : Int) / (Nat.gcd n m : Nat))]) hz2
      have eq : (n : Int) / ((Nat.gcd n m : Nat) : Int) = ((n / Nat.gcd n m : Nat) : Int) := rfl
      refine ⟨.tuple [.str "back", .int ((n / Nat.gcd n m : Nat) : Int)], .tuple [.str "back", .int ((n / Nat.gcd n m : Nat) : Int)], .tup (SqT.of (s17 _ _ hfa)) (.cons (.str _) (.cons (.int _) .nil)), .tup (SqT.of upd_same) (.cons (.str _) (.cons (.int _) .nil)), shp _, shp _, _, rfl, iteE ?_ ?_⟩
      · show (!(("back" : Str) == "back" && ((((n / Nat.gcd n m : Nat) : Int)) == ((n / Nat.gcd n m : Nat) : Int) && true))) = false
        simp
      · exact ⟨_, _, _, rfl, Same.tr s15 (Same.tr s16 s17)⟩
    obtain ⟨w7, w8, w15, rfl, s15⟩ := hP
    have s1315 := Same.tr s14 s15
    -- high points
    refine ⟨_, rfl, _, rfl, by show 2 ≤ sizeLine; decide, fun t1 ht1 => ⟨_, rfl, _, _, rfl, rfl, by show 2 ≤ sizeLine; decide, fun t2 ht2 => ⟨_, rfl, _, _, rfl, rfl, by show 2 ≤ sizeLine; decide, fun t3 ht3 => ⟨by show 3 ≤ sizeLine; decide, fun l4 hl4 => ?_⟩⟩⟩⟩
    have a1 := same_upd (o := .tup [.int rc', .int rc']) ht1
    have a2 := same_upd (o := .tup [.int 3, .int (1 + rc')]) ht2
    have a3 := same_upd (o := .tup [.int (rc' + 1), .int 0]) ht3
    have a4 := same_upd (o := .lst [.ref t1, .ref t2, .ref t3]) hl4
    have b3 := Same.tr a3 a4
    have b2 := Same.tr a2 b3
    have b1 := Same.tr a1 b2
    have st16 := (st13.same s1315).same b1
    refine ⟨l4, rfl, ⟨_, SqL.of upd_same⟩, for_list (xs := [.ref t1, .ref t2, .ref t3]) (fun j σ H16 => ∃ y16, σ = [some (.ref a), some (.ref d), some (.int (0 + i)), some (.ref ls), some (.ref tz), some (.ref p), some (.ref lr), w7, w8, some (.int (m : Nat)), some (.ref wd), some (.ref D), some (.int rc'), z13, some (.ref pk), w15, y16] ∧ Same H' H16 ∧ H16 t1 = some (.tup [.int rc', .int rc']) ∧ H16 t2 = some (.tup [.int 3, .int (1 + rc')]) ∧ H16 t3 = some (.tup [.int (rc' + 1), .int 0]) ∧ H16 l4 = some (.lst [.ref t1, .ref t2, .ref t3]) ∧ StAt H16 d wl cl (1000 - 400 * i - 97))
      ⟨_, rfl, b1, b2 _ _ upd_same, b3 _ _ upd_same, a4 _ _ upd_same, upd_same, st16.less (by omega)⟩ (fun j σ H16 _ h => ?_) (fun j v σ H16 hv hP => ?_) (fun σ H16 hP => ?_)⟩
    · obtain ⟨_, _, _, _, _, _, h, _⟩ := h
      exact SqL.of h
    · obtain ⟨w16, rfl, s16, k1, k2, k3, k4, st16⟩ := hP
      have s1316 := Same.tr s1315 s16
      obtain ⟨tt, x, y, rfl, htt, hx, hy, hno⟩ : ∃ (tt : Addr) (x y : Int), v = .ref tt ∧ H16 tt = some (.tup [.int x, .int y]) ∧ ab x ≤ 100 ∧ ab y ≤ 100 ∧ ∀ n, ¬ Per c.pass (x, y) n := by
        match j, hv with
        | 0, hv =>
          refine ⟨t1, rc', rc', (Option.some.inj hv).symm, k1, ab_le (by omega) (by omega), ab_le (by omega) (by omega), fun n hn => ?_⟩
          have := (md.low hn).1
          rcases ab_cases rc' with z | z <;> (simp only at this; omega)
        | 1, hv =>
          refine ⟨t2, 3, 1 + rc', (Option.some.inj hv).symm, k2, ab_le (by omega) (by omega), ab_le (by omega) (by omega), fun n hn => ?_⟩
          have := (md.low hn).1
          rcases ab_cases (1 + rc') with z | z <;> (simp only at this; omega)
        | 2, hv =>
          refine ⟨t3, rc' + 1, 0, (Option.some.inj hv).symm, k3, ab_le (by omega) (by omega), ab_le (by omega) (by omega), fun n hn => ?_⟩
          have := (md.low hn).2
          rcases ab_cases (rc' + 1) with z | z <;> (simp only at this; omega)
        | j + 3, hv => simp at hv
      have ht := SqT.of (K := K) htt
      refine ⟨_, rfl, _, rfl, tt, _, _, _, rfl, rfl, ht, rfl, _, rfl, tt, _, _, _, rfl, rfl, ht, rfl, pk, kk, hg2, _, x, y, rfl, hpk13.keep (Same.fix s1316), sev.fit, mh2, ends2 hx hy, sev.okc, sl_small hy, fun H17 fu fr s17 hf hfa => ?_⟩
      obtain ⟨n1, rfl⟩ := fate_away (sev_not sev.pass (by omega) hno) hf
      refine ⟨fu, _, _, _, rfl, rfl, SqT.of hfa, rfl, rfl, _, rfl, iteE (by simp) ?_⟩
      have ht17 := SqT.of (K := K) (s17 _ _ htt)
      refine ⟨_, rfl, _, rfl, tt, _, _, _, rfl, rfl, ht17, rfl, _, rfl, tt, _, _, _, rfl, rfl, ht17, rfl, p, c, hg, _, x, y, rfl, hp13.keep (Same.fix (Same.tr s1316 s17)), f, md.h, md.ends hx hy, hsm.okc, sl_small hy, fun H18 fu2 fr2 s18 hf2 hfa2 => ?_⟩
      obtain ⟨n2, rfl⟩ := fate_away hno hf2
      have s1618 := Same.tr s17 s18
      exact ⟨fu2, _, _, _, rfl, rfl, SqT.of hfa2, rfl, rfl, _, rfl, iteE (by simp) ⟨_, rfl, Same.tr s16 s1618, s1618 _ _ k1, s1618 _ _ k2, s1618 _ _ k3, s1618 _ _ k4, st16.same s1618⟩⟩
    · obtain ⟨w16, rfl, _, _, _, _, _, st16⟩ := hP
      exact ⟨_, _, _, _, _, _, _, _, _, _, _, _, _, _, _, rfl, st16.less (by omega)⟩
theorem law_facts {h : Heap} {f : Addr} (X : K.In h) (G : h.Ns mainGlobals mg) (hfa : mg ("law" : Str) = some (.ref f)) (c : obK K = vaK) :
    ∃ fd : FuncData, (∀ (s : Shared) (v : Value), BindsTo s fd ⟨[v], []⟩ [("_law_script", v)]) ∧ ∀ base : Heap, FnOk P w K mg base CX0 13 f fd ["_law_script"] (spLaw K) := by
  have T := tx_of X G c
  obtain ⟨fd, F⟩ := T.fn _ d_law fd_law
  have e := hfa.symm.trans (T.g "law")
  cases e
  have b := FunD.bindsA (ps := ["_law_script"]) F bd_law
  exact ⟨fd, fun s v => b s [v] rfl, fun base => law_ok T F⟩
end
end K5
set_option Elab.async false
set_option maxRecDepth 100000
set_option maxHeartbeats 0
namespace K5
open PySem PySem.Spec PyProof.Rows L2
theorem run5 (w : World) : HandSHeadRun.RunEq R5 q5 hookK ob5 20000 loose w := by
  intro os
  kernel_rfl
end K5
set_option Elab.async false
set_option linter.all false
set_option maxRecDepth 100000
set_option maxHeartbeats 0
open PySem PySem.W PySem.Calls PyProof.Rows
theorem PySem.Challenge.cw_crossadds_k54_whole_fates_and_passes_holds : PySem.Challenge.rw_crossadds_k54_whole_fates_and_passes.Holds := by
  w_on; o_law
  refine HandSHeadRun.head_any (r := OpenLaw.row PySem.Challenge.rw_crossadds_k54_whole_fates_and_passes) (q := K5.q5) (H := K5.hookK) (ob := K5.ob5) (M := 20000) (loose := K5.loose) (d := HandSHeadRun.topDef (OpenLaw.row PySem.Challenge.rw_crossadds_k54_whole_fates_and_passes).prog 73) (kwd := []) K5.ob5_eq
    (by kernel_rfl) (fun s => by kernel_rfl) K5.run5 (by kernel_rfl) (by kernel_rfl) (by kernel_rfl) (by rfl) (by first | assumption | decide +kernel) (by decide +kernel) ⟨rfl, rfl, rfl, rfl, rfl, by decide +kernel⟩ ?hw ?hc
  case hw => w_witness2
  case hc =>
    refine L2.walk_ofE (l := PySem.Challenge.rw_crossadds_k54_whole_fates_and_passes) (n := 63) (k := 13) (x := "_law_script") (CX := L2.CX0) rfl (by decide) (by kernel_rfl) ⟨rfl, by decide, by decide⟩ ?F (fun _ _ _ _ z => z)
    intro w mg fa h Y G hmg0
    obtain ⟨K, KX, c⟩ := Y
    have hmg : mg ("law" : PySem.Str) = some (.ref fa) := by
      have e : (HandSHeadRun.topDef (OpenLaw.row PySem.Challenge.rw_crossadds_k54_whole_fates_and_passes).prog 73).name = ("law" : PySem.Str) := by kernel_rfl
      rw [← e]
      exact hmg0
    obtain ⟨fd, hb, hF⟩ := K5.law_facts (P := (PySem.Challenge.rw_crossadds_k54_whole_fates_and_passes).prog) (w := w) KX G hmg c
    exact ⟨K, fd, K5.spLaw K, KX, hb, fun H a ns hl _ hS => ⟨a, ns, rfl, hS, hl, fun _ => rfl⟩, fun base _ _ => hF base⟩
