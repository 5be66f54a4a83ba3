import PyProof.Rows.All
import Wide.All
import OpenK.AllK
import Wide.FinOn
import HandS.ForMost
import HandS.Flow
import HandS.Conv
import HandS.SortInts
import HandS.SortKw
import HandS.Wide
import HandS.Walk
import HandS.Lambda
import HandS.EndTab
import KE.GoesMore
import KE.DataMinMax
import PySem.Challenge.RW_meshworks_k50_whole_least_papers
set_option linter.all false
/-! Spans of rows of whole numbers by linear functionals: plain Lean. -/
namespace Mw
abbrev Vec := Nat → Int
def cmb (a : Int) (x : Vec) (b : Int) (y : Vec) : Vec := fun k => a * x k + b * y k
def Lin (f : Vec → Int) : Prop := ∀ a x b y, f (cmb a x b y) = a * f x + b * f y
/-- v is a sum of what G has, each times a fraction: each linear form that is 0 on G is 0 at v -/
def Spd (G : Vec → Prop) (v : Vec) : Prop := ∀ f, Lin f → (∀ g, G g → f g = 0) → f v = 0
theorem Spd.mem {G : Vec → Prop} {v : Vec} (h : G v) : Spd G v := fun f _ k => k v h
theorem Spd.mono {G G' : Vec → Prop} {v : Vec} (h : ∀ g, G g → G' g) (s : Spd G v) : Spd G' v := fun f l k => s f l fun g hg => k g (h g hg)
theorem Spd.trans {G G' : Vec → Prop} {v : Vec} (s : Spd G v) (h : ∀ g, G g → Spd G' g) : Spd G' v := fun f l k => s f l fun g hg => h g hg f l k
/-- a linear map carries sums to sums -/
theorem Spd.map {G G' : Vec → Prop} {v : Vec} (T : Vec → Vec) (hT : ∀ a x b y, T (cmb a x b y) = cmb a (T x) b (T y)) (s : Spd G v) (h : ∀ g, G g → Spd G' (T g)) : Spd G' (T v) := fun f l k =>
  s (fun x => f (T x)) (fun a x b y => by show f (T (cmb a x b y)) = _; rw [hT]; exact l a (T x) b (T y)) fun g hg => h g hg f l k
theorem Lin.zero {f : Vec → Int} (l : Lin f) : f (fun _ => 0) = 0 := by
  have h := l 0 (fun _ => 0) 0 (fun _ => 0)
  have e : cmb 0 (fun _ => (0 : Int)) 0 (fun _ => 0) = fun _ => 0 := by funext k; simp [cmb]
  rw [e] at h
  simpa using h
theorem Lin.smul {f : Vec → Int} (l : Lin f) (a : Int) (x : Vec) : f (fun k => a * x k) = a * f x := by
  have h := l a x 0 x
  have e : cmb a x 0 x = fun k => a * x k := by funext k; simp [cmb]
  rw [e] at h
  simpa using h
theorem lin_at (k : Nat) : Lin fun x => x k := fun _ _ _ _ => rfl
theorem lin_cmb {f g : Vec → Int} (hf : Lin f) (hg : Lin g) (c d : Int) : Lin fun x => c * f x + d * g x := fun a x b y => by
  show c * f (cmb a x b y) + d * g (cmb a x b y) = a * (c * f x + d * g x) + b * (c * f y + d * g y)
  rw [hf a x b y, hg a x b y]
  simp only [Int.mul_add, Int.mul_left_comm c, Int.mul_left_comm d]
  omega
theorem lin_zero : Lin fun _ => 0 := fun a x b y => by simp

/-! ### rows as lists -/
def vec (row : List Int) : Vec := fun k => row.getD k 0
def elim (p : Nat) (b r : List Int) : List Int := (List.range r.length).map fun k => b.getD p 0 * r.getD k 0 - r.getD p 0 * b.getD k 0
theorem elim_length (p : Nat) (b r : List Int) : (elim p b r).length = r.length := by simp [elim]
theorem vec_elim {p : Nat} {b r : List Int} (h : b.length = r.length) : vec (elim p b r) = cmb (vec b p) (vec r) (-(vec r p)) (vec b) := by
  funext k
  show (elim p b r).getD k 0 = vec b p * vec r k + -(vec r p) * vec b k
  by_cases hk : k < r.length
  · have e : (elim p b r)[k]? = some (b.getD p 0 * r.getD k 0 - r.getD p 0 * b.getD k 0) := by
      unfold elim
      rw [List.getElem?_map, List.getElem?_range hk]
      rfl
    (rw [List.getD_eq_getElem?_getD, e])
    show b.getD p 0 * r.getD k 0 - r.getD p 0 * b.getD k 0 = b.getD p 0 * r.getD k 0 + -(r.getD p 0) * b.getD k 0
    rw [Int.neg_mul]
    omega
  · have e1 : (elim p b r).getD k 0 = 0 := by
      rw [List.getD_eq_getElem?_getD, List.getElem?_eq_none (by rw [elim_length]; omega)]
      rfl
    have e2 : vec r k = 0 := by
      show r.getD k 0 = 0
      (rw [List.getD_eq_getElem?_getD, List.getElem?_eq_none (by omega)])
      rfl
    have e3 : vec b k = 0 := by
      show b.getD k 0 = 0
      (rw [List.getD_eq_getElem?_getD, List.getElem?_eq_none (by omega)])
      rfl
    rw [e1, e2, e3]
    simp

/-- the greatest part of a row, and the row divided by it -/
def gcdL (row : List Int) : Nat := row.foldl (fun a x => Nat.gcd a x.natAbs) 0
def lowered (row : List Int) : List Int := if gcdL row = 0 then row else row.map fun x => x / (gcdL row : Int)
theorem gcdL_from : ∀ (row : List Int) (a : Nat), (row.foldl (fun a x => Nat.gcd a x.natAbs) a ∣ a) ∧ ∀ x ∈ row, row.foldl (fun a x => Nat.gcd a x.natAbs) a ∣ x.natAbs
  | [], a => ⟨Nat.dvd_refl a, fun x h => absurd h (by simp)⟩
  | y :: r, a => by
    obtain ⟨h1, h2⟩ := gcdL_from r (Nat.gcd a y.natAbs)
    refine ⟨Nat.dvd_trans h1 (Nat.gcd_dvd_left _ _), fun x hx => ?_⟩
    (rcases List.mem_cons.mp hx with e | hx)
    · rw [e]
      exact Nat.dvd_trans h1 (Nat.gcd_dvd_right _ _)
    · exact h2 x hx
theorem gcdL_dvd {row : List Int} {x : Int} (h : x ∈ row) : (gcdL row : Int) ∣ x := Int.natAbs_dvd_natAbs.mp (by rw [Int.natAbs_natCast]; exact (gcdL_from row 0).2 x h)
theorem gcdL_zero {row : List Int} (h : gcdL row = 0) {x : Int} (hx : x ∈ row) : x = 0 := by
  have q := (gcdL_from row 0).2 x hx
  have q' : gcdL row ∣ x.natAbs := q
  rw [h] at q'
  have := Nat.eq_zero_of_zero_dvd q'
  omega
theorem lowered_length (row : List Int) : (lowered row).length = row.length := by
  unfold lowered
  split <;> simp
theorem getD_mem_or (row : List Int) (k : Nat) : row.getD k 0 = 0 ∨ row.getD k 0 ∈ row := by
  (rw [List.getD_eq_getElem?_getD])
  cases e : row[k]? with
  | none => exact .inl rfl
  | some x => exact .inr (List.mem_of_getElem? e)
/-- the row is a positive number times the lowered one -/
theorem lowered_scale (row : List Int) : ∃ g : Int, 0 < g ∧ ∀ k, vec row k = g * vec (lowered row) k := by
  unfold lowered
  by_cases h : gcdL row = 0
  · rw [if_pos h]
    exact ⟨1, by decide, fun k => by omega⟩
  · rw [if_neg h]
    refine ⟨(gcdL row : Int), by omega, fun k => ?_⟩
    show row.getD k 0 = _ * (row.map fun x => x / (gcdL row : Int)).getD k 0
    (rw [List.getD_eq_getElem?_getD, List.getD_eq_getElem?_getD, List.getElem?_map])
    cases e : row[k]? with
    | none => simp
    | some x =>
      show x = (gcdL row : Int) * (x / (gcdL row : Int))
      exact (Int.mul_ediv_cancel' (gcdL_dvd (List.mem_of_getElem? e))).symm
theorem lowered_zero (row : List Int) (k : Nat) : vec (lowered row) k = 0 ↔ vec row k = 0 := by
  obtain ⟨g, hg, e⟩ := lowered_scale row
  rw [e k]
  constructor
  · intro h
    rw [h]
    simp
  · intro h
    rcases Int.mul_eq_zero.mp h with q | q
    · omega
    · exact q
theorem lowered_abs (row : List Int) (k : Nat) : (vec (lowered row) k).natAbs ≤ (vec row k).natAbs := by
  obtain ⟨g, hg, e⟩ := lowered_scale row
  rw [e k, Int.natAbs_mul]
  exact Nat.le_mul_of_pos_left _ (by omega)

/-! ### reducing by a span -/
abbrev Span := List (Nat × List Int)
def redStep (r : List Int) (pb : Nat × List Int) : List Int := if r.getD pb.1 0 ≠ 0 then lowered (elim pb.1 pb.2 r) else r
def restOf (span : Span) (row : List Int) : List Int := span.foldl redStep row
theorem redStep_length (r : List Int) (pb : Nat × List Int) : (redStep r pb).length = r.length := by
  unfold redStep
  split
  · rw [lowered_length, elim_length]
  · rfl
theorem restOf_length : ∀ (span : Span) (row : List Int), (restOf span row).length = row.length
  | [], _ => rfl
  | pb :: sp, row => by
    show (restOf sp (redStep row pb)).length = _
    rw [restOf_length sp, redStep_length]
theorem restOf_snoc (span : Span) (pb : Nat × List Int) (row : List Int) : restOf (span ++ [pb]) row = redStep (restOf span row) pb := by
  unfold restOf
  rw [List.foldl_append]
  rfl
/-- one step, by a scale: s * new = c * old - d * base, c and s not 0 -/
theorem redStep_scale {n : Nat} {r : List Int} {pb : Nat × List Int} (hr : r.length = n) (hb : pb.2.length = n) (hp : vec pb.2 pb.1 ≠ 0) :
    ∃ g c d : Int, g ≠ 0 ∧ c ≠ 0 ∧ (∀ k, g * vec (redStep r pb) k = c * vec r k + d * vec pb.2 k) ∧ vec (redStep r pb) pb.1 = 0 := by
  unfold redStep
  by_cases h : r.getD pb.1 0 ≠ 0
  · rw [if_pos h]
    obtain ⟨g, hg, e⟩ := lowered_scale (elim pb.1 pb.2 r)
    have ev := vec_elim (p := pb.1) (b := pb.2) (r := r) (by omega)
    refine ⟨g, vec pb.2 pb.1, -(vec r pb.1), by omega, hp, fun k => ?_, ?_⟩
    · rw [← e k, ev]
      rfl
    · rw [lowered_zero, ev]
      show vec pb.2 pb.1 * vec r pb.1 + -(vec r pb.1) * vec pb.2 pb.1 = 0
      rw [Int.neg_mul, Int.mul_comm]
      omega
  · rw [if_neg h]
    refine ⟨1, 1, 0, by decide, by decide, fun k => by simp, ?_⟩
    show r.getD pb.1 0 = 0
    exact Decidable.byContradiction h

structure Tri (n : Nat) (span : Span) : Prop where
  len : ∀ pb ∈ span, pb.2.length = n
  piv : ∀ pb ∈ span, vec pb.2 pb.1 ≠ 0
  tri : ∀ (i j : Nat) (a b : Nat × List Int), i < j → span[i]? = some a → span[j]? = some b → vec b.2 a.1 = 0
theorem Tri.nil {n : Nat} : Tri n [] := ⟨fun _ h => absurd h (by simp), fun _ h => absurd h (by simp), fun _ _ _ _ _ h => by simp at h⟩
theorem Tri.pre {n : Nat} {span : Span} {pb : Nat × List Int} (t : Tri n (span ++ [pb])) : Tri n span :=
  ⟨fun q h => t.len q (List.mem_append_left _ h), fun q h => t.piv q (List.mem_append_left _ h), fun i j a b hij h1 h2 =>
    t.tri i j a b hij (by rw [List.getElem?_append_left (List.getElem?_eq_some_iff.mp h1).1]; exact h1) (by rw [List.getElem?_append_left (List.getElem?_eq_some_iff.mp h2).1]; exact h2)⟩
theorem Tri.last {n : Nat} {span : Span} {pb : Nat × List Int} (t : Tri n (span ++ [pb])) : ∀ a ∈ span, vec pb.2 a.1 = 0 := fun a h => by
  obtain ⟨i, hi, e⟩ := List.getElem_of_mem h
  refine t.tri i span.length a pb hi ?_ ?_
  · rw [List.getElem?_append_left hi, List.getElem?_eq_getElem hi, e]
  · simp
theorem Tri.snoc {n : Nat} {span : Span} {pb : Nat × List Int} (t : Tri n span) (h1 : pb.2.length = n) (h2 : vec pb.2 pb.1 ≠ 0) (h3 : ∀ a ∈ span, vec pb.2 a.1 = 0) : Tri n (span ++ [pb]) := by
  refine ⟨fun q h => ?_, fun q h => ?_, fun i j a b hij e1 e2 => ?_⟩
  · (rcases List.mem_append.mp h with h | h)
    · exact t.len q h
    · rw [List.mem_singleton.mp h]
      exact h1
  · (rcases List.mem_append.mp h with h | h)
    · exact t.piv q h
    · rw [List.mem_singleton.mp h]
      exact h2
  · have hj := (List.getElem?_eq_some_iff.mp e2).1
    rw [List.length_append, List.length_singleton] at hj
    have hi : i < span.length := by omega
    rw [List.getElem?_append_left hi] at e1
    by_cases hj2 : j < span.length
    · rw [List.getElem?_append_left hj2] at e2
      exact t.tri i j a b hij e1 e2
    · have ej : j = span.length := by omega
      subst ej
      simp at e2
      subst e2
      exact h3 a (List.mem_of_getElem? e1)
/-- induction from the right -/
theorem snoc_rec {α : Type} {P : List α → Prop} (h0 : P []) (hs : ∀ l a, P l → P (l ++ [a])) (l : List α) : P l := by
  have : ∀ m : List α, P m.reverse := fun m => by
    induction m with
    | nil => exact h0
    | cons a m ih =>
      rw [List.reverse_cons]
      exact hs _ _ ih
  have q := this l.reverse
  rwa [List.reverse_reverse] at q
theorem rest_piv {n : Nat} {span : Span} {row : List Int} (t : Tri n span) (hr : row.length = n) : ∀ pb ∈ span, vec (restOf span row) pb.1 = 0 := by
  induction span using snoc_rec with
  | h0 => intro pb h; exact absurd h (by simp)
  | hs sp a ih =>
    intro pb h
    rw [restOf_snoc]
    have ha : a ∈ sp ++ [a] := List.mem_append_right _ (List.mem_singleton.mpr rfl)
    obtain ⟨g, c, d, hg, hc, e, z⟩ := redStep_scale (r := restOf sp row) (pb := a) (n := n) (by rw [restOf_length]; exact hr) (t.len a ha) (t.piv a ha)
    (rcases List.mem_append.mp h with h | h)
    · have q := ih t.pre pb h
      have q2 := t.last pb h
      have q3 := e pb.1
      rw [q, q2] at q3
      rcases Int.mul_eq_zero.mp (show g * vec (redStep (restOf sp row) a) pb.1 = 0 by rw [q3]; simp) with z | z
      · exact absurd z hg
      · exact z
    · rw [List.mem_singleton.mp h]
      exact z
/-- a form that is 0 on the bases is 0 at the rest just where it is 0 at the row -/
theorem rest_form {n : Nat} {span : Span} {row : List Int} (t : Tri n span) (hr : row.length = n) {f : Vec → Int} (l : Lin f) (hf : ∀ pb ∈ span, f (vec pb.2) = 0) :
    f (vec (restOf span row)) = 0 ↔ f (vec row) = 0 := by
  induction span using snoc_rec with
  | h0 => exact Iff.rfl
  | hs sp a ih =>
    have ha : a ∈ sp ++ [a] := List.mem_append_right _ (List.mem_singleton.mpr rfl)
    rw [restOf_snoc, ← ih t.pre fun pb h => hf pb (List.mem_append_left _ h)]
    obtain ⟨g, c, d, hg, hc, e, z⟩ := redStep_scale (r := restOf sp row) (pb := a) (n := n) (by rw [restOf_length]; exact hr) (t.len a ha) (t.piv a ha)
    have e1 : (fun k => g * vec (redStep (restOf sp row) a) k) = cmb c (vec (restOf sp row)) d (vec a.2) := by
      funext k
      exact e k
    have e2 : g * f (vec (redStep (restOf sp row) a)) = c * f (vec (restOf sp row)) := by
      rw [← l.smul, e1, l c _ d _, hf a ha]
      simp
    constructor
    · intro h
      rw [h] at e2
      rcases Int.mul_eq_zero.mp (show c * f (vec (restOf sp row)) = 0 by rw [← e2]; simp) with z | z
      · exact absurd z hc
      · exact z
    · intro h
      rw [h] at e2
      rcases Int.mul_eq_zero.mp (show g * f (vec (redStep (restOf sp row) a)) = 0 by rw [e2]; simp) with z | z
      · exact absurd z hg
      · exact z
def stepV (x : Vec) (pb : Nat × List Int) : Vec := cmb (vec pb.2 pb.1) x (-(x pb.1)) (vec pb.2)
def redV (span : Span) (x : Vec) : Vec := span.foldl stepV x
theorem redV_snoc (span : Span) (pb : Nat × List Int) (x : Vec) : redV (span ++ [pb]) x = stepV (redV span x) pb := by
  unfold redV
  rw [List.foldl_append]
  rfl
theorem redV_lin (span : Span) (a : Int) (x : Vec) (b : Int) (y : Vec) : redV span (cmb a x b y) = cmb a (redV span x) b (redV span y) := by
  induction span using snoc_rec with
  | h0 => rfl
  | hs sp q ih =>
    rw [redV_snoc, redV_snoc, redV_snoc, ih]
    funext k
    simp only [stepV, cmb]
    generalize redV sp x k = u
    generalize redV sp y k = v
    generalize redV sp x q.1 = u1
    generalize redV sp y q.1 = v1
    generalize vec q.2 q.1 = c
    generalize vec q.2 k = d
    simp only [Int.mul_add, Int.add_mul, Int.neg_mul, Int.neg_add, Int.mul_neg, Int.mul_assoc, Int.mul_left_comm c]
    omega
theorem redV_zero {n : Nat} {span : Span} (t : Tri n span) : ∀ pb ∈ span, redV span (vec pb.2) = fun _ => 0 := by
  induction span using snoc_rec with
  | h0 => intro pb h; exact absurd h (by simp)
  | hs sp a ih =>
    intro pb h
    rw [redV_snoc]
    (rcases List.mem_append.mp h with h | h)
    · rw [ih t.pre pb h]
      funext k
      simp [stepV, cmb]
    · rw [List.mem_singleton.mp h]
      -- the elder steps take a's base to a multiple of itself
      have key : ∀ sp' : Span, (∀ b ∈ sp', vec a.2 b.1 = 0) → ∃ c : Int, redV sp' (vec a.2) = fun k => c * vec a.2 k := fun sp' => by
        induction sp' using snoc_rec with
        | h0 => intro _; exact ⟨1, by funext k; show vec a.2 k = 1 * vec a.2 k; omega⟩
        | hs s2 b ih2 =>
          intro hz
          obtain ⟨c, ec⟩ := ih2 fun b' hb' => hz b' (List.mem_append_left _ hb')
          have zb := hz b (List.mem_append_right _ (List.mem_singleton.mpr rfl))
          refine ⟨vec b.2 b.1 * c, ?_⟩
          rw [redV_snoc, ec]
          funext k
          simp only [stepV, cmb]
          rw [zb, Int.mul_zero, Int.neg_zero, Int.zero_mul, Int.add_zero, Int.mul_assoc]
      obtain ⟨c, ec⟩ := key sp t.last
      rw [ec]
      funext k
      simp only [stepV, cmb]
      rw [Int.neg_mul, Int.mul_left_comm, Int.mul_assoc]
      omega
theorem redV_rest {n : Nat} {span : Span} (t : Tri n span) (x : Vec) (hx : ∀ pb ∈ span, x pb.1 = 0) : ∃ c : Int, c ≠ 0 ∧ redV span x = fun k => c * x k := by
  induction span using snoc_rec with
  | h0 => exact ⟨1, by decide, by funext k; show x k = 1 * x k; omega⟩
  | hs sp a ih =>
    obtain ⟨c, hc, ec⟩ := ih t.pre fun pb h => hx pb (List.mem_append_left _ h)
    have ha : a ∈ sp ++ [a] := List.mem_append_right _ (List.mem_singleton.mpr rfl)
    refine ⟨vec a.2 a.1 * c, fun z => ?_, ?_⟩
    · rcases Int.mul_eq_zero.mp z with z | z
      · exact t.piv a ha z
      · exact hc z
    · rw [redV_snoc, ec]
      funext k
      simp only [stepV, cmb]
      rw [hx a ha, Int.mul_zero, Int.neg_zero, Int.zero_mul, Int.add_zero, Int.mul_assoc]
def bases (span : Span) : Vec → Prop := fun v => ∃ pb ∈ span, v = vec pb.2
/-- the test: the rest is 0 everywhere just where the row is in the span -/
theorem rest_zero_iff {n : Nat} {span : Span} {row : List Int} (t : Tri n span) (hr : row.length = n) : (∀ k, vec (restOf span row) k = 0) ↔ Spd (bases span) (vec row) := by
  constructor
  · intro h f l hf
    rw [← rest_form t hr l fun pb hp => hf _ ⟨pb, hp, rfl⟩]
    have e : vec (restOf span row) = fun _ => 0 := by funext k; exact h k
    rw [e]
    exact l.zero
  · intro h k
    have l : Lin fun x => redV span x k := fun a x b y => by
      show redV span (cmb a x b y) k = _
      rw [redV_lin]
      rfl
    have q := h _ l fun g ⟨pb, hp, e⟩ => by
      show redV span g k = 0
      rw [e, redV_zero t pb hp]
    rw [← rest_form t hr l fun pb hp => by show redV span (vec pb.2) k = 0; rw [redV_zero t pb hp]] at q
    obtain ⟨c, hc, ec⟩ := redV_rest t (vec (restOf span row)) (rest_piv t hr)
    have q' : redV span (vec (restOf span row)) k = 0 := q
    rw [ec] at q'
    rcases Int.mul_eq_zero.mp q' with z | z
    · exact absurd z hc
    · exact z
/-- a span of what G has -/
structure GS (n : Nat) (span : Span) (G : Vec → Prop) : Prop where
  tri : Tri n span
  lt : ∀ pb ∈ span, pb.1 < n
  eqv : ∀ f, Lin f → ((∀ pb ∈ span, f (vec pb.2) = 0) ↔ ∀ g, G g → f g = 0)
theorem GS.sp {n : Nat} {span : Span} {G : Vec → Prop} (h : GS n span G) (v : Vec) : Spd (bases span) v ↔ Spd G v := by
  constructor
  · intro s f l k
    exact s f l fun g ⟨pb, hp, e⟩ => by rw [e]; exact (h.eqv f l).mpr k pb hp
  · intro s f l k
    exact s f l ((h.eqv f l).mp fun pb hp => k _ ⟨pb, hp, rfl⟩)
theorem GS.nil {n : Nat} : GS n [] fun _ => False := ⟨Tri.nil, fun _ h => absurd h (by simp), fun f l => ⟨fun _ _ h => h.elim, fun _ pb h => absurd h (by simp)⟩⟩
theorem GS.test {n : Nat} {span : Span} {G : Vec → Prop} (h : GS n span G) {row : List Int} (hr : row.length = n) : (∀ k, vec (restOf span row) k = 0) ↔ Spd G (vec row) := (rest_zero_iff h.tri hr).trans (h.sp _)
/-- the span with a row more: new is a number (not 0) times the rest, q a place where the rest is not 0 -/
theorem GS.more {n : Nat} {span : Span} {G : Vec → Prop} (h : GS n span G) {row new : List Int} {q : Nat} {c d : Int} (hr : row.length = n) (hn : new.length = n) (hc : c ≠ 0) (hd : d ≠ 0)
    (e : ∀ k, c * vec new k = d * vec (restOf span row) k) (hq : vec (restOf span row) q ≠ 0) : GS n (span ++ [(q, new)]) fun v => G v ∨ v = vec row := by
  have zero_of : ∀ k, vec (restOf span row) k = 0 → vec new k = 0 := fun k z => by
    have := e k
    rw [z, Int.mul_zero] at this
    rcases Int.mul_eq_zero.mp this with z | z
    · exact absurd z hc
    · exact z
  have nq : vec new q ≠ 0 := fun z => by
    have := e q
    rw [z, Int.mul_zero] at this
    rcases Int.mul_eq_zero.mp this.symm with z | z
    · exact hd z
    · exact hq z
  refine ⟨h.tri.snoc hn nq fun a ha => zero_of _ (rest_piv h.tri hr a ha), fun pb hp => ?_, fun f l => ?_⟩
  · (rcases List.mem_append.mp hp with hp | hp)
    · exact h.lt pb hp
    · (rw [List.mem_singleton.mp hp])
      refine Decidable.byContradiction fun z => hq ?_
      show (restOf span row).getD q 0 = 0
      rw [List.getD_eq_getElem?_getD, List.getElem?_eq_none (by rw [restOf_length, hr]; exact Nat.le_of_not_lt z)]
      rfl
  · have fe : c * f (vec new) = d * f (vec (restOf span row)) := by
      rw [← l.smul, ← l.smul]
      congr 1
      funext k
      exact e k
    constructor
    · intro k
      have kb : ∀ pb ∈ span, f (vec pb.2) = 0 := fun pb hp => k pb (List.mem_append_left _ hp)
      have kn : f (vec new) = 0 := k (q, new) (List.mem_append_right _ (List.mem_singleton.mpr rfl))
      rintro g (hg | hg)
      · exact (h.eqv f l).mp kb g hg
      · rw [hg, ← rest_form h.tri hr l kb]
        rw [kn, Int.mul_zero] at fe
        rcases Int.mul_eq_zero.mp fe.symm with z | z
        · exact absurd z hd
        · exact z
    · intro k pb hp
      have kb : ∀ pb ∈ span, f (vec pb.2) = 0 := (h.eqv f l).mpr fun g hg => k g (.inl hg)
      (rcases List.mem_append.mp hp with hp | hp)
      · exact kb pb hp
      · (rw [List.mem_singleton.mp hp])
        have kr := (rest_form h.tri hr l kb).mpr (k _ (.inr rfl))
        rw [kr, Int.mul_zero] at fe
        rcases Int.mul_eq_zero.mp fe with z | z
        · exact absurd z hc
        · exact z
end Mw

set_option linter.all false
/-! Works without rings, what comes of a grain, tail rows: plain Lean. -/
namespace Mw
inductive Rw where
  | mesh (o u v : Nat)
  | crush (t : Nat)
  | bin (n : Nat)
deriving DecidableEq
def Rw.ok (m : Nat) : Rw → Prop
  | .mesh o u v => 1 ≤ o ∧ o ≤ 4 ∧ u < m ∧ v < m
  | .crush t => t < m
  | .bin n => n ≤ 5
def Rw.isCrush : Rw → Bool
  | .crush _ => true
  | _ => false
def Rw.isMesh : Rw → Bool
  | .mesh _ _ _ => true
  | _ => false
structure Good (rows : List Rw) : Prop where
  pos : 1 ≤ rows.length
  few : rows.length ≤ 6
  ok : ∀ r ∈ rows, r.ok rows.length
def stepW (rows : List Rw) (s r : Nat) : Option Nat :=
  match rows[r]? with
  | some (.mesh o u v) => some (if s ≤ o then u else v)
  | some (.crush t) => if s = 1 then some t else none
  | _ => none
def fin (rows : List Rw) (s : Nat) : Nat → Nat → Option Nat
  | 0, _ => none
  | k + 1, r => match stepW rows s r with
    | none => some r
    | some r' => fin rows s k r'
section
variable {rows : List Rw} {s : Nat}
theorem fin_step {k r r' : Nat} (h : stepW rows s r = some r') : fin rows s (k + 1) r = fin rows s k r' := by
  rw [fin, h]
theorem fin_stop {k r : Nat} (h : stepW rows s r = none) : fin rows s (k + 1) r = some r := by
  rw [fin, h]
theorem fin_succ : ∀ {k r e : Nat}, fin rows s k r = some e → fin rows s (k + 1) r = some e
  | 0, r, e, h => by cases h
  | k + 1, r, e, h => by
    cases q : stepW rows s r with
    | none =>
      rw [fin_stop q] at h
      rw [fin_stop q, h]
    | some r' =>
      rw [fin_step q] at h
      rw [fin_step q]
      exact fin_succ h
theorem fin_mono {k k' r e : Nat} (hk : k ≤ k') (h : fin rows s k r = some e) : fin rows s k' r = some e := by
  induction k' with
  | zero =>
    have : k = 0 := by omega
    subst this
    exact h
  | succ n ih =>
    by_cases z : k = n + 1
    · subst z
      exact h
    · exact fin_succ (ih (by omega))
theorem fin_same {k k' r e e' : Nat} (h : fin rows s k r = some e) (h' : fin rows s k' r = some e') : e = e' := by
  have a := fin_mono (Nat.le_max_left k k') h
  have b := fin_mono (Nat.le_max_right k k') h'
  rw [a] at b
  exact Option.some.inj b
theorem fin_end : ∀ {k r e : Nat}, fin rows s k r = some e → stepW rows s e = none
  | 0, r, e, h => by cases h
  | k + 1, r, e, h => by
    cases q : stepW rows s r with
    | none =>
      rw [fin_stop q] at h
      cases h
      exact q
    | some r' =>
      rw [fin_step q] at h
      exact fin_end h
theorem step_lt (g : Good rows) {r r' : Nat} (h : stepW rows s r = some r') : r < rows.length ∧ r' < rows.length := by
  unfold stepW at h
  cases q : rows[r]? with
  | none => rw [q] at h; cases h
  | some x =>
    refine ⟨(List.getElem?_eq_some_iff.mp q).1, ?_⟩
    have hx := g.ok x (List.mem_of_getElem? q)
    rw [q] at h
    cases x with
    | mesh o u v =>
      have e := Option.some.inj h
      unfold Rw.ok at hx
      rw [← e]
      split
      · exact hx.2.2.1
      · exact hx.2.2.2
    | crush t =>
      have h' : (if s = 1 then some t else none) = some r' := h
      unfold Rw.ok at hx
      by_cases z : s = 1
      · rw [if_pos z] at h'
        rw [← Option.some.inj h']
        exact hx
      · rw [if_neg z] at h'
        cases h'
    | bin n => cases h
theorem fin_lt (g : Good rows) : ∀ {k r e : Nat}, r < rows.length → fin rows s k r = some e → e < rows.length
  | 0, r, e, _, h => by cases h
  | k + 1, r, e, hr, h => by
    cases q : stepW rows s r with
    | none =>
      rw [fin_stop q] at h
      cases h
      exact hr
    | some r' =>
      rw [fin_step q] at h
      exact fin_lt g (step_lt g q).2 h
end
def finish (rows : List Rw) (s r : Nat) : Option Nat := fin rows s (rows.length + 1) r
def Loose (rows : List Rw) : Prop := ∀ s r, 1 ≤ s → r < rows.length → ∃ e, finish rows s r = some e
section
variable {rows : List Rw} {s : Nat}
theorem finish_step (L : Loose rows) (g : Good rows) (hs : 1 ≤ s) {r r' : Nat} (h : stepW rows s r = some r') : finish rows s r' = finish rows s r := by
  obtain ⟨h1, h2⟩ := step_lt g h
  obtain ⟨e, he⟩ := L s r hs h1
  obtain ⟨e', he'⟩ := L s r' hs h2
  have q : fin rows s (rows.length + 1 + 1) r = some e' := by
    rw [fin_step h]
    exact he'
  rw [he, he']
  rw [fin_same he q]
theorem finish_stop {r : Nat} (h : stepW rows s r = none) : finish rows s r = some r := fin_stop h
end
/-- what comes of a grain of size s on row r into the bins of a number -/
def wt (p : Nat) (rows : List Rw) (num : Nat) (s r : Nat) : Nat :=
  if s = 0 then 0 else
  match finish rows s r with
  | none => 0
  | some e => match rows[e]? with
    | some (.bin n) => if n = num then s else 0
    | some (.crush t) => if h : 2 ≤ p ∧ 2 ≤ s then (p - s % p) * wt p rows num (s / p) t + (if h2 : s % p = 0 then 0 else s % p * wt p rows num (s / p + 1) t) else 0
    | _ => 0
termination_by s
decreasing_by
  · exact Nat.div_lt_self (by omega) h.1
  · have a := Nat.div_add_mod s p
    have b : 2 * (s / p) ≤ p * (s / p) := Nat.mul_le_mul_right _ h.1
    omega
section
variable {p : Nat} {rows : List Rw} {num s : Nat}
theorem wt_zero {r : Nat} : wt p rows num 0 r = 0 := by
  rw [wt, if_pos rfl]
theorem wt_bin {r e n : Nat} (h : finish rows s r = some e) (he : rows[e]? = some (.bin n)) : wt p rows num s r = if n = num then s else 0 := by
  rw [wt]
  by_cases hs : s = 0
  · rw [if_pos hs, hs]
    split <;> rfl
  · rw [if_neg hs, h]
    dsimp only
    rw [he]
theorem wt_crush {r e t : Nat} (hp : 2 ≤ p) (hs : 2 ≤ s) (h : finish rows s r = some e) (he : rows[e]? = some (.crush t)) :
    wt p rows num s r = (p - s % p) * wt p rows num (s / p) t + s % p * wt p rows num (s / p + 1) t := by
  rw [wt, if_neg (by omega), h]
  dsimp only
  rw [he]
  dsimp only
  rw [dif_pos ⟨hp, hs⟩]
  by_cases z : s % p = 0
  · rw [dif_pos z, z, Nat.zero_mul]
  · rw [dif_neg z]
theorem end_kind (g : Good rows) {r e : Nat} (hr : r < rows.length) (h : finish rows s r = some e) : (∃ n, rows[e]? = some (.bin n) ∧ n ≤ 5) ∨ (s ≠ 1 ∧ ∃ t, rows[e]? = some (.crush t) ∧ t < rows.length) := by
  have hl := fin_lt g hr h
  have hst := fin_end h
  have ho := g.ok rows[e] (List.getElem_mem hl)
  have he : rows[e]? = some rows[e] := List.getElem?_eq_getElem hl
  unfold stepW at hst
  rw [he] at hst
  cases hx : rows[e] with
  | mesh o u v => rw [hx] at hst; cases hst
  | crush t =>
    rw [hx] at hst ho he
    refine .inr ⟨fun z => ?_, t, he, ho⟩
    have hst' : (if s = 1 then some t else none) = none := hst
    rw [if_pos z] at hst'
    cases hst'
  | bin n =>
    rw [hx] at ho he
    exact .inl ⟨n, he, ho⟩
theorem wt_le (hp : 2 ≤ p) (g : Good rows) (L : Loose rows) : ∀ (s r : Nat), r < rows.length → wt p rows num s r ≤ s := by
  intro s
  induction s using Nat.strongRecOn with
  | ind s ih =>
    intro r hr
    by_cases hs : s = 0
    · rw [hs, wt_zero]
      exact Nat.le_refl 0
    · obtain ⟨e, he⟩ := L s r (by omega) hr
      rcases end_kind g hr he with ⟨n, hn, _⟩ | ⟨h1, t, ht, htl⟩
      · rw [wt_bin he hn]
        split <;> omega
      · have h2 : 2 ≤ s := by omega
        rw [wt_crush hp h2 he ht]
        have a := Nat.div_add_mod s p
        have b : 2 * (s / p) ≤ p * (s / p) := Nat.mul_le_mul_right _ hp
        have c := Nat.mod_lt s (show 0 < p by omega)
        have k1 := Nat.mul_le_mul_left (p - s % p) (ih (s / p) (by omega) t htl)
        have k2 : s % p * wt p rows num (s / p + 1) t ≤ s % p * (s / p + 1) := by
          by_cases z : s % p = 0
          · rw [z]
            omega
          · exact Nat.mul_le_mul_left _ (ih (s / p + 1) (by omega) t htl)
        have k3 : (p - s % p) * (s / p) + s % p * (s / p + 1) = s := by
          have e1 : (p - s % p) * (s / p) + s % p * (s / p) = p * (s / p) := by
            rw [← Nat.add_mul]
            congr 1
            omega
          rw [Nat.mul_add]
          omega
        omega
theorem wt_step (g : Good rows) (L : Loose rows) (hs : 1 ≤ s) {r r' : Nat} (h : stepW rows s r = some r') : wt p rows num s r' = wt p rows num s r := by
  rw [wt, wt.eq_1 p rows num s r, finish_step L g hs h]
theorem crush_finish {c t : Nat} (h2 : s ≠ 1) (hc : rows[c]? = some (.crush t)) : finish rows s c = some c := finish_stop (by
  unfold stepW
  rw [hc]
  show (if s = 1 then some t else none) = none
  rw [if_neg h2])
/-- a crusher's weight, by those of its goal -/
theorem wt_at {c t r q : Nat} (hp : 2 ≤ p) (hq : 1 ≤ q) (hr : r ≤ p) (hc : rows[c]? = some (.crush t)) :
    wt p rows num (p * q + r) c = (p - r) * wt p rows num q t + r * wt p rows num (q + 1) t := by
  have hb : 2 * 1 ≤ p * q := Nat.mul_le_mul hp hq
  have h2 : 2 ≤ p * q + r := by omega
  rw [wt_crush hp h2 (crush_finish (by omega) hc) hc]
  by_cases hrp : r < p
  · rw [Nat.mul_add_mod, Nat.mod_eq_of_lt hrp, Nat.mul_add_div (by omega), Nat.div_eq_of_lt hrp]
    rfl
  · have e : r = p := by omega
    have e2 : p * q + r = p * (q + 1) + 0 := by rw [e, Nat.mul_add]; omega
    rw [e2, Nat.mul_add_mod, Nat.mul_add_div (by omega), Nat.mod_eq_of_lt (by omega), Nat.div_eq_of_lt (by omega), e]
    simp
end
/-! ### above the height -/
def Above (h : Nat) (rows : List Rw) : Prop := ∀ o u v, Rw.mesh o u v ∈ rows → o ≤ h
/-- on by meshes alone, as grains above the height go -/
def far (rows : List Rw) : Nat → Nat → Nat
  | 0, r => r
  | k + 1, r => match rows[r]? with
    | some (.mesh _ _ v) => far rows k v
    | _ => r
section
variable {p : Nat} {rows : List Rw} {num s h : Nat}
theorem mesh_step (A : Above h rows) (hs : h < s) {r o u v : Nat} (e : rows[r]? = some (.mesh o u v)) : stepW rows s r = some v := by
  unfold stepW
  rw [e]
  have := A o u v (List.mem_of_getElem? e)
  show some (if s ≤ o then u else v) = some v
  rw [if_neg (by omega)]
theorem far_wt (g : Good rows) (L : Loose rows) (A : Above h rows) (hs : h < s) : ∀ (k r : Nat), wt p rows num s (far rows k r) = wt p rows num s r
  | 0, r => rfl
  | k + 1, r => by
    rw [far]
    split
    · rename_i o u v e
      rw [far_wt g L A hs k v]
      exact wt_step g L (by omega) (mesh_step A hs e)
    · rfl
theorem far_lt (g : Good rows) : ∀ (k : Nat) {r : Nat}, r < rows.length → far rows k r < rows.length
  | 0, r, hr => hr
  | k + 1, r, hr => by
    rw [far]
    split
    · rename_i o u v e
      have := g.ok _ (List.mem_of_getElem? e)
      unfold Rw.ok at this
      exact far_lt g k this.2.2.2
    · exact hr
theorem far_end (A : Above h rows) : ∀ {k r e : Nat}, fin rows (h + 1) k r = some e → ∀ o u v, rows[far rows k r]? ≠ some (.mesh o u v)
  | 0, r, e, hf => by cases hf
  | k + 1, r, e, hf => by
    intro o u v
    rw [far]
    split
    · rename_i o' u' v' e'
      rw [fin_step (mesh_step A (Nat.lt_succ_self h) e')] at hf
      exact far_end A hf o u v
    · rename_i hno
      exact hno o u v
/-- the row to which grains above the height go on from a row -/
def goal (rows : List Rw) (r : Nat) : Nat := far rows (rows.length + 1) r
theorem goal_wt (g : Good rows) (L : Loose rows) (A : Above h rows) (hs : h < s) (r : Nat) : wt p rows num s (goal rows r) = wt p rows num s r := far_wt g L A hs _ r
theorem goal_lt (g : Good rows) {r : Nat} (hr : r < rows.length) : goal rows r < rows.length := far_lt g _ hr
theorem goal_kind (g : Good rows) (L : Loose rows) (A : Above h rows) {r : Nat} (hr : r < rows.length) : (∃ t, rows[goal rows r]? = some (.crush t)) ∨ ∃ n, rows[goal rows r]? = some (.bin n) := by
  obtain ⟨e, he⟩ := L (h + 1) r (by omega) hr
  have q := far_end A he
  have hl := goal_lt g hr
  have hg : rows[goal rows r]? = some rows[goal rows r] := List.getElem?_eq_getElem hl
  cases hx : rows[goal rows r] with
  | mesh o u v =>
    rw [hx] at hg
    exact absurd hg (q o u v)
  | crush t => exact .inl ⟨t, by rw [hg, hx]⟩
  | bin n => exact .inr ⟨n, by rw [hg, hx]⟩
end
/-! ### tail rows -/
def crs (rows : List Rw) : List Nat := (List.range rows.length).filter fun i => match rows[i]? with
  | some (.crush _) => true
  | _ => false
theorem mem_crs {rows : List Rw} {c : Nat} : c ∈ crs rows ↔ ∃ t, rows[c]? = some (.crush t) := by
  unfold crs
  rw [List.mem_filter, List.mem_range]
  constructor
  · rintro ⟨h1, h2⟩
    split at h2
    · rename_i t e
      exact ⟨t, e⟩
    · cases h2
  · rintro ⟨t, e⟩
    exact ⟨(List.getElem?_eq_some_iff.mp e).1, by rw [e]⟩
def two (p : Nat) (rows : List Rw) (num s : Nat) : List Int := (crs rows).flatMap fun c => [(wt p rows num s c : Int), (wt p rows num (s + 1) c : Int)]
def tail (p : Nat) (A B : List Rw) (num s : Nat) : List Int := two p A num s ++ two p B num s ++ [(s : Int), 1]
theorem flat2_length {α β : Type} (f g : α → β) : ∀ l : List α, (l.flatMap fun c => [f c, g c]).length = 2 * l.length
  | [] => rfl
  | a :: l => by
    rw [List.flatMap_cons, List.length_append, flat2_length f g l, List.length_cons]
    simp
    omega
theorem flat2_at {α β : Type} (f g : α → β) : ∀ (l : List α) (i : Nat) (c : α), l[i]? = some c → (l.flatMap fun c => [f c, g c])[2 * i]? = some (f c) ∧ (l.flatMap fun c => [f c, g c])[2 * i + 1]? = some (g c)
  | [], i, c, h => by simp at h
  | a :: l, 0, c, h => by
    have e : a = c := Option.some.inj h
    rw [e]
    exact ⟨rfl, rfl⟩
  | a :: l, i + 1, c, h => by
    have ih := flat2_at f g l i c h
    rw [List.flatMap_cons]
    exact ⟨ih.1, ih.2⟩
theorem two_length {p : Nat} {rows : List Rw} {num s : Nat} : (two p rows num s).length = 2 * (crs rows).length := flat2_length _ _ _
theorem tail_length {p : Nat} {A B : List Rw} {num s : Nat} : (tail p A B num s).length = 2 * (crs A).length + 2 * (crs B).length + 2 := by
  unfold tail
  rw [List.length_append, List.length_append, two_length, two_length]
  rfl
theorem tail_a {p : Nat} {A B : List Rw} {num s i c : Nat} (h : (crs A)[i]? = some c) : (tail p A B num s)[2 * i]? = some (wt p A num s c : Int) ∧ (tail p A B num s)[2 * i + 1]? = some (wt p A num (s + 1) c : Int) := by
  have hi := (List.getElem?_eq_some_iff.mp h).1
  have q := flat2_at (fun c => (wt p A num s c : Int)) (fun c => (wt p A num (s + 1) c : Int)) _ _ _ h
  unfold tail
  rw [List.append_assoc, List.getElem?_append_left (by rw [two_length]; omega), List.getElem?_append_left (by rw [two_length]; omega)]
  exact q
theorem tail_b {p : Nat} {A B : List Rw} {num s i c : Nat} (h : (crs B)[i]? = some c) :
    (tail p A B num s)[2 * (crs A).length + 2 * i]? = some (wt p B num s c : Int) ∧ (tail p A B num s)[2 * (crs A).length + 2 * i + 1]? = some (wt p B num (s + 1) c : Int) := by
  have hi := (List.getElem?_eq_some_iff.mp h).1
  have q := flat2_at (fun c => (wt p B num s c : Int)) (fun c => (wt p B num (s + 1) c : Int)) _ _ _ h
  unfold tail
  have e : ∀ j, (two p A num s ++ two p B num s ++ [(s : Int), 1])[2 * (crs A).length + j]? = (two p B num s ++ [(s : Int), 1])[j]? := fun j => by
    rw [List.append_assoc, List.getElem?_append_right (by rw [two_length]; omega), two_length]
    congr 1
    omega
  rw [e, Nat.add_assoc, e, List.getElem?_append_left (by rw [two_length]; omega), List.getElem?_append_left (by rw [two_length]; omega)]
  exact q
theorem tail_z {p : Nat} {A B : List Rw} {num s : Nat} : (tail p A B num s)[2 * (crs A).length + 2 * (crs B).length]? = some (s : Int) ∧ (tail p A B num s)[2 * (crs A).length + 2 * (crs B).length + 1]? = some 1 := by
  unfold tail
  have e : ∀ j, (two p A num s ++ two p B num s ++ [(s : Int), 1])[2 * (crs A).length + 2 * (crs B).length + j]? = [(s : Int), 1][j]? := fun j => by
    rw [List.getElem?_append_right (by rw [List.length_append, two_length, two_length]; omega), List.length_append, two_length, two_length]
    congr 1
    omega
  exact ⟨e 0, e 1⟩
theorem vec_of {l : List Int} {k : Nat} {v : Int} (h : l[k]? = some v) : vec l k = v := by
  show l.getD k 0 = v
  rw [List.getD_eq_getElem?_getD, h]
  rfl
/-- a thing that is told of tail rows by one linear form, for all sizes above the height -/
def Told (p : Nat) (A B : List Rw) (num h : Nat) (x : Nat → Int) : Prop := ∃ f, Lin f ∧ ∀ s, h < s → x s = f (vec (tail p A B num s))
section
variable {p : Nat} {A B : List Rw} {num h : Nat}
theorem Told.at (k : Nat) {x : Nat → Int} (e : ∀ s, (tail p A B num s)[k]? = some (x s)) : Told p A B num h x := ⟨_, lin_at k, fun s _ => (vec_of (e s)).symm⟩
theorem Told.size : Told p A B num h fun s => (s : Int) := Told.at _ fun _ => tail_z.1
theorem Told.one : Told p A B num h fun _ => 1 := Told.at _ fun _ => tail_z.2
theorem Told.zero : Told p A B num h fun _ => 0 := ⟨_, lin_zero, fun _ _ => rfl⟩
theorem Told.lin {x y : Nat → Int} (hx : Told p A B num h x) (hy : Told p A B num h y) (c d : Int) : Told p A B num h fun s => c * x s + d * y s := by
  obtain ⟨f, lf, ef⟩ := hx
  obtain ⟨g, lg, eg⟩ := hy
  exact ⟨_, lin_cmb lf lg c d, fun s hs => by
    show c * x s + d * y s = _
    rw [ef s hs, eg s hs]⟩
theorem Told.eq {x y : Nat → Int} (hx : Told p A B num h x) (e : ∀ s, h < s → y s = x s) : Told p A B num h y := by
  obtain ⟨f, lf, ef⟩ := hx
  exact ⟨f, lf, fun s hs => by rw [e s hs, ef s hs]⟩
theorem Told.goalX {rows : List Rw} (g : Good rows) (L : Loose rows) (Ab : Above h rows) (hc : ∀ c ∈ crs rows, Told p A B num h (fun s => (wt p rows num s c : Int)) ∧ Told p A B num h fun s => (wt p rows num (s + 1) c : Int)) {t : Nat} (ht : t < rows.length) :
    Told p A B num h (fun s => (wt p rows num s t : Int)) ∧ Told p A B num h fun s => (wt p rows num (s + 1) t : Int) := by
  have e1 : ∀ s, h < s → (wt p rows num s t : Int) = (wt p rows num s (goal rows t) : Int) := fun s hs => by rw [goal_wt g L Ab hs]
  have e2 : ∀ s, h < s → (wt p rows num (s + 1) t : Int) = (wt p rows num (s + 1) (goal rows t) : Int) := fun s hs => by rw [goal_wt g L Ab (by omega)]
  rcases goal_kind g L Ab ht with ⟨u, hu⟩ | ⟨n, hn⟩
  · obtain ⟨k1, k2⟩ := hc _ (mem_crs.mpr ⟨u, hu⟩)
    exact ⟨k1.eq e1, k2.eq e2⟩
  · have st : ∀ s, finish rows s (goal rows t) = some (goal rows t) := fun s => finish_stop (by
      unfold stepW
      rw [hn])
    by_cases z : n = num
    · refine ⟨Told.size.eq fun s hs => ?_, (Told.lin Told.size Told.one 1 1).eq fun s hs => ?_⟩
      · rw [e1 s hs, wt_bin (st s) hn, if_pos z]
      · rw [e2 s hs, wt_bin (st (s + 1)) hn, if_pos z]
        omega
    · refine ⟨Told.zero.eq fun s hs => ?_, Told.zero.eq fun s hs => ?_⟩
      · rw [e1 s hs, wt_bin (st s) hn, if_neg z]
        rfl
      · rw [e2 s hs, wt_bin (st (s + 1)) hn, if_neg z]
        rfl
theorem crs_told_a {c : Nat} (hc : c ∈ crs A) : Told p A B num h (fun s => (wt p A num s c : Int)) ∧ Told p A B num h fun s => (wt p A num (s + 1) c : Int) := by
  obtain ⟨i, hi, e⟩ := List.getElem_of_mem hc
  have q : (crs A)[i]? = some c := by rw [List.getElem?_eq_getElem hi, e]
  exact ⟨Told.at _ fun s => (tail_a q).1, Told.at _ fun s => (tail_a q).2⟩
theorem crs_told_b {c : Nat} (hc : c ∈ crs B) : Told p A B num h (fun s => (wt p B num s c : Int)) ∧ Told p A B num h fun s => (wt p B num (s + 1) c : Int) := by
  obtain ⟨i, hi, e⟩ := List.getElem_of_mem hc
  have q : (crs B)[i]? = some c := by rw [List.getElem?_eq_getElem hi, e]
  exact ⟨Told.at _ fun s => (tail_b q).1, Told.at _ fun s => (tail_b q).2⟩
/-- a crusher at p s + r -/
theorem told_next {rows : List Rw} (hp : 2 ≤ p) (g : Good rows) (L : Loose rows) (Ab : Above h rows) (hc : ∀ c ∈ crs rows, Told p A B num h (fun s => (wt p rows num s c : Int)) ∧ Told p A B num h fun s => (wt p rows num (s + 1) c : Int)) {c r : Nat} (hcc : c ∈ crs rows) (hr : r ≤ p) :
    Told p A B num h fun s => (wt p rows num (p * s + r) c : Int) := by
  obtain ⟨t, ht⟩ := mem_crs.mp hcc
  have htl : t < rows.length := g.ok _ (List.mem_of_getElem? ht)
  obtain ⟨k1, k2⟩ := Told.goalX g L Ab hc htl
  refine (k1.lin k2 ((p - r : Nat) : Int) (r : Int)).eq fun s hs => ?_
  rw [wt_at hp (by omega) hr ht]
  push_cast
  rfl
theorem two_told {rows : List Rw} (hp : 2 ≤ p) (g : Good rows) (L : Loose rows) (Ab : Above h rows) (hc : ∀ c ∈ crs rows, Told p A B num h (fun s => (wt p rows num s c : Int)) ∧ Told p A B num h fun s => (wt p rows num (s + 1) c : Int)) {r : Nat} (hr : r < p) (k : Nat) :
    Told p A B num h fun s => (two p rows num (p * s + r)).getD k 0 := by
  by_cases hk : k < 2 * (crs rows).length
  · have hi : k / 2 < (crs rows).length := by omega
    have q : (crs rows)[k / 2]? = some (crs rows)[k / 2] := List.getElem?_eq_getElem hi
    have hm : (crs rows)[k / 2] ∈ crs rows := List.getElem_mem hi
    rcases Nat.mod_two_eq_zero_or_one k with z | z
    · refine (told_next hp g L Ab hc hm (by omega : r ≤ p)).eq fun s hs => ?_
      have ek : k = 2 * (k / 2) := by omega
      have w := (flat2_at (fun c => (wt p rows num (p * s + r) c : Int)) (fun c => (wt p rows num (p * s + r + 1) c : Int)) _ _ _ q).1
      rw [← ek] at w
      (rw [List.getD_eq_getElem?_getD])
      unfold two
      rw [w]
      rfl
    · refine (told_next hp g L Ab hc hm (by omega : r + 1 ≤ p)).eq fun s hs => ?_
      have ek : k = 2 * (k / 2) + 1 := by omega
      have w := (flat2_at (fun c => (wt p rows num (p * s + r) c : Int)) (fun c => (wt p rows num (p * s + r + 1) c : Int)) _ _ _ q).2
      rw [← ek] at w
      (rw [List.getD_eq_getElem?_getD])
      unfold two
      rw [w]
      rfl
  · refine Told.zero.eq fun s hs => ?_
    rw [List.getD_eq_getElem?_getD, List.getElem?_eq_none (by rw [two_length]; omega)]
    rfl
theorem tail_told (hp : 2 ≤ p) (gA : Good A) (LA : Loose A) (AA : Above h A) (gB : Good B) (LB : Loose B) (AB : Above h B) {r : Nat} (hr : r < p) (k : Nat) : Told p A B num h fun s => vec (tail p A B num (p * s + r)) k := by
  by_cases h1 : k < 2 * (crs A).length
  · refine (two_told hp gA LA AA (fun c hc => crs_told_a hc) hr k).eq fun s hs => ?_
    show (tail p A B num (p * s + r)).getD k 0 = _
    unfold tail
    rw [List.append_assoc, List.getD_eq_getElem?_getD, List.getElem?_append_left (by rw [two_length]; omega), ← List.getD_eq_getElem?_getD]
  · by_cases h2 : k < 2 * (crs A).length + 2 * (crs B).length
    · refine (two_told hp gB LB AB (fun c hc => crs_told_b hc) hr (k - 2 * (crs A).length)).eq fun s hs => ?_
      show (tail p A B num (p * s + r)).getD k 0 = _
      unfold tail
      rw [List.getD_eq_getElem?_getD, List.getElem?_append_left (by rw [List.length_append, two_length, two_length]; omega), List.getElem?_append_right (by rw [two_length]; omega), two_length, ← List.getD_eq_getElem?_getD]
    · by_cases h3 : k = 2 * (crs A).length + 2 * (crs B).length
      · refine (Told.lin Told.size Told.one p r).eq fun s hs => ?_
        rw [h3, vec_of tail_z.1]
        push_cast
        omega
      · by_cases h4 : k = 2 * (crs A).length + 2 * (crs B).length + 1
        · refine Told.one.eq fun s hs => ?_
          rw [h4, vec_of tail_z.2]
        · refine Told.zero.eq fun s hs => ?_
          show (tail p A B num (p * s + r)).getD k 0 = 0
          rw [List.getD_eq_getElem?_getD, List.getElem?_eq_none (by rw [tail_length]; omega)]
          rfl
/-- sums of tail rows go to sums of tail rows -/
theorem tail_map (hp : 2 ≤ p) (gA : Good A) (LA : Loose A) (AA : Above h A) (gB : Good B) (LB : Loose B) (AB : Above h B) {r : Nat} (hr : r < p) :
    ∃ T : Vec → Vec, (∀ a x b y, T (cmb a x b y) = cmb a (T x) b (T y)) ∧ ∀ s, h < s → T (vec (tail p A B num s)) = vec (tail p A B num (p * s + r)) := by
  have q := fun k => tail_told (num := num) hp gA LA AA gB LB AB hr k
  refine ⟨fun x k => Classical.choose (q k) x, fun a x b y => ?_, fun s hs => ?_⟩
  · funext k
    exact (Classical.choose_spec (q k)).1 a x b y
  · funext k
    exact ((Classical.choose_spec (q k)).2 s hs).symm
end
end Mw

set_option linter.all false
/-! The told sizes: the program's loop and the law's loop, in plain Lean. -/
namespace Mw
/-! ### lists -/
theorem len_le_of_sub : ∀ {l m : List Nat}, l.Nodup → (∀ x ∈ l, x ∈ m) → l.length ≤ m.length
  | [], _m, _, _ => Nat.zero_le _
  | a :: l, m, hn, hs => by
    (have hn' := List.nodup_cons.mp hn)
    have ha := hs a (List.mem_cons_self)
    have q := len_le_of_sub (l := l) (m := m.erase a) hn'.2 fun x hx => by
      have ne : x ≠ a := fun e => hn'.1 (e ▸ hx)
      exact (List.mem_erase_of_ne ne).mpr (hs x (List.mem_cons_of_mem _ hx))
    rw [List.length_erase_of_mem ha] at q
    have := List.length_pos_of_mem ha
    rw [List.length_cons]
    omega
theorem nodup_of_lt {l : List Nat} (h : l.Pairwise (· < ·)) : l.Nodup := h.imp fun h => Nat.ne_of_lt h
theorem piv_nodup {n : Nat} {span : Span} (t : Tri n span) : (span.map (·.1)).Nodup := by
  rw [List.Nodup, List.pairwise_iff_getElem]
  intro i j hi hj hij e
  rw [List.length_map] at hi hj
  rw [List.getElem_map, List.getElem_map] at e
  have z := t.tri i j _ _ hij (List.getElem?_eq_getElem hi) (List.getElem?_eq_getElem hj)
  rw [e] at z
  exact t.piv _ (List.getElem_mem hj) z
theorem GS.length_le {n : Nat} {span : Span} {G : Vec → Prop} (h : GS n span G) : span.length ≤ n := by
  have q := len_le_of_sub (l := span.map (·.1)) (m := List.range n) (piv_nodup h.tri) fun x hx => by
    obtain ⟨pb, hp, e⟩ := List.mem_map.mp hx
    rw [← e]
    exact List.mem_range.mpr (h.lt pb hp)
  rwa [List.length_map, List.length_range] at q
theorem vec_lt {row : List Int} {k : Nat} (h : vec row k ≠ 0) : k < row.length := by
  refine Decidable.byContradiction fun z => h ?_
  show row.getD k 0 = 0
  (rw [List.getD_eq_getElem?_getD, List.getElem?_eq_none (by omega)])
  rfl
/-- at most one place of a row is not 0 -/
def Lone (row : List Int) : Prop := ∀ i j, vec row i ≠ 0 → vec row j ≠ 0 → i = j
theorem lone_of {n : Nat} {span : Span} {row : List Int} (t : Tri n span) (hlt : ∀ pb ∈ span, pb.1 < n) (hr : row.length = n) (hz : ∀ pb ∈ span, vec row pb.1 = 0) (hl : n ≤ span.length + 1) : Lone row := by
  intro i j hi hj
  refine Decidable.byContradiction fun ne => ?_
  have nm : ∀ k, vec row k ≠ 0 → k ∉ span.map (·.1) := fun k hk hm => by
    obtain ⟨pb, hp, e⟩ := List.mem_map.mp hm
    rw [← e] at hk
    exact hk (hz pb hp)
  have q := len_le_of_sub (l := i :: j :: span.map (·.1)) (m := List.range n) ?_ ?_
  · rw [List.length_cons, List.length_cons, List.length_map, List.length_range] at q
    omega
  · rw [List.nodup_cons, List.nodup_cons]
    refine ⟨fun hm => ?_, nm j hj, piv_nodup t⟩
    (rcases List.mem_cons.mp hm with e | hm)
    · exact ne e
    · exact nm i hi hm
  · intro x hx
    rw [List.mem_range]
    (rcases List.mem_cons.mp hx with e | hx)
    · rw [e, ← hr]
      exact vec_lt hi
    · rcases List.mem_cons.mp hx with e | hx
      · rw [e, ← hr]
        exact vec_lt hj
      · obtain ⟨pb, hp, e⟩ := List.mem_map.mp hx
        rw [← e]
        exact hlt pb hp
/-! ### how great the numbers are -/
def Wide (b : Nat) (row : List Int) : Prop := ∀ k, (vec row k).natAbs < 2 ^ b
theorem Wide.mono {b c : Nat} {row : List Int} (h : Wide b row) (hb : b ≤ c) : Wide c row := fun k => Nat.lt_of_lt_of_le (h k) (Nat.pow_le_pow_right (by decide) hb)
theorem Wide.lowered {b : Nat} {row : List Int} (h : Wide b row) : Wide b (lowered row) := fun k => Nat.lt_of_le_of_lt (lowered_abs row k) (h k)
theorem Wide.elim {b c p : Nat} {base row : List Int} (hl : base.length = row.length) (h1 : Wide b base) (h2 : Wide c row) : Wide (b + c + 1) (elim p base row) := fun k => by
  rw [vec_elim hl]
  show (vec base p * vec row k + -(vec row p) * vec base k).natAbs < _
  refine Nat.lt_of_le_of_lt (Int.natAbs_add_le _ _) ?_
  rw [Int.natAbs_mul, Int.natAbs_mul, Int.natAbs_neg, Nat.pow_succ, Nat.pow_add]
  have a : (vec base p).natAbs * (vec row k).natAbs < 2 ^ b * 2 ^ c := Nat.mul_lt_mul'' (h1 p) (h2 k)
  have d : (vec row p).natAbs * (vec base k).natAbs < 2 ^ b * 2 ^ c := by
    rw [Nat.mul_comm]
    exact Nat.mul_lt_mul'' (h1 k) (h2 p)
  omega
/-- what dividing a row through asks -/
def LowOk (row : List Int) : Prop := Wide 9000 row ∨ Lone row
structure RunOk (span : Span) (row : List Int) : Prop where
  one : ∀ (j : Nat) (pb : Nat × List Int), span[j]? = some pb → pb.1 < row.length ∧ pb.2.length = row.length ∧ Wide 20000 pb.2 ∧ Wide 20000 (restOf (span.take j) row) ∧ LowOk (elim pb.1 pb.2 (restOf (span.take j) row))
  all : LowOk (restOf span row)
def SpanBd (span : Span) : Prop := ∀ (i : Nat) (pb : Nat × List Int), span[i]? = some pb → Wide (2 ^ (i + 3) - 3) pb.2
theorem take_succ_at {α : Type} {l : List α} {j : Nat} {a : α} (h : l[j]? = some a) : l.take (j + 1) = l.take j ++ [a] := by
  rw [List.take_add_one, h]
  rfl
theorem Tri.take {n : Nat} {span : Span} (t : Tri n span) (j : Nat) : Tri n (span.take j) :=
  ⟨fun q h => t.len q (List.mem_of_mem_take h), fun q h => t.piv q (List.mem_of_mem_take h), fun i k a b hij h1 h2 => by
    rw [List.getElem?_take] at h1 h2
    by_cases hi : i < j
    · by_cases hk : k < j
      · rw [if_pos hi] at h1
        rw [if_pos hk] at h2
        exact t.tri i k a b hij h1 h2
      · rw [if_neg hk] at h2
        cases h2
    · rw [if_neg hi] at h1
      cases h1⟩
theorem pow_arith (j : Nat) : 2 ^ (j + 3) = 8 * 2 ^ j := by
  rw [Nat.pow_add]
  omega
theorem rest_wide {n : Nat} {span : Span} {row : List Int} (t : Tri n span) (hr : row.length = n) (hb : SpanBd span) (hw : Wide (5 + 2 * span.length) row) :
    ∀ j, j ≤ span.length → Wide (2 ^ (j + 3) - 3 + 2 * (span.length - j)) (restOf (span.take j) row)
  | 0, _ => by
    rw [List.take_zero]
    exact hw.mono (by omega)
  | j + 1, hj => by
    have ih := rest_wide t hr hb hw j (by omega)
    have e : span[j]? = some span[j] := List.getElem?_eq_getElem (by omega)
    rw [take_succ_at e, restOf_snoc]
    have p1 := pow_arith j
    have p2 := pow_arith (j + 1)
    have p3 : 2 ^ (j + 1) = 2 * 2 ^ j := by rw [Nat.pow_succ]; omega
    have p4 := Nat.one_le_two_pow (n := j)
    unfold redStep
    split
    · refine Wide.lowered ((Wide.elim ?_ (hb j _ e) ih).mono (by omega))
      rw [restOf_length, hr, t.len _ (List.mem_of_getElem? e)]
    · exact ih.mono (by omega)
theorem pow_le_of {a b : Nat} (h : a ≤ b) : 2 ^ a ≤ 2 ^ b := Nat.pow_le_pow_right (by decide) h
theorem low_all {n : Nat} {span : Span} {r : List Int} (t : Tri n span) (hlt : ∀ pb ∈ span, pb.1 < n) (hn : n ≤ 12) (hL : span.length ≤ n) (hr : r.length = n) {j : Nat} (hj : j ≤ span.length) (hz : ∀ pb ∈ span.take j, vec r pb.1 = 0)
    (hw : Wide (2 ^ (j + 3) - 3 + 2 * (span.length - j)) r) : LowOk r := by
  by_cases h : j ≤ 10
  · refine .inl (hw.mono ?_)
    by_cases h2 : j ≤ 9
    · have := pow_le_of (show j + 3 ≤ 12 by omega)
      have e : 2 ^ 12 = 4096 := by decide
      omega
    · have e2 : j = 10 := by omega
      subst e2
      have e : 2 ^ (10 + 3) = 8192 := by decide
      omega
  · refine .inr (lone_of (t.take j) (fun pb hp => hlt pb (List.mem_of_mem_take hp)) hr hz ?_)
    rw [List.length_take]
    omega
theorem run_ok {n : Nat} {span : Span} {G : Vec → Prop} {row : List Int} (gs : GS n span G) (hn : n ≤ 12) (hr : row.length = n) (hb : SpanBd span) (hw : Wide (5 + 2 * span.length) row) : RunOk span row ∧ Wide (2 ^ (span.length + 3) - 3) (restOf span row) := by
  have t := gs.tri
  have hL := gs.length_le
  have w := rest_wide t hr hb hw
  have big : ∀ j, j ≤ span.length → 2 ^ (j + 3) - 3 + 2 * (span.length - j) ≤ 33000 := fun j hj => by
    have := pow_le_of (show j + 3 ≤ 15 by omega)
    have e : 2 ^ 15 = 32768 := by decide
    omega
  have last := w span.length (Nat.le_refl _)
  rw [List.take_length, Nat.sub_self] at last
  have last' : Wide (2 ^ (span.length + 3) - 3) (restOf span row) := last.mono (by omega)
  have small : ∀ j, j < span.length → 2 ^ (j + 3) - 3 + 2 * (span.length - j) ≤ 20000 := fun j hj => by
    have := pow_le_of (show j + 3 ≤ 14 by omega)
    have e : 2 ^ 14 = 16384 := by decide
    omega
  refine ⟨⟨fun j pb e => ?_, ?_⟩, last'⟩
  · have hj := (List.getElem?_eq_some_iff.mp e).1
    have hm := List.mem_of_getElem? e
    have hl : pb.2.length = (restOf (span.take j) row).length := by rw [restOf_length, hr, t.len pb hm]
    refine ⟨by rw [hr]; exact gs.lt pb hm, by rw [hr]; exact t.len pb hm, (hb j pb e).mono (by have := small j hj; omega), (w j (by omega)).mono (small j hj), ?_⟩
    have p1 := pow_arith j
    have p2 := pow_arith (j + 1)
    have p3 : 2 ^ (j + 1) = 2 * 2 ^ j := by rw [Nat.pow_succ]; omega
    have p4 := Nat.one_le_two_pow (n := j)
    refine low_all (j := j + 1) t gs.lt hn hL (by rw [elim_length, restOf_length, hr]) hj ?_ ((Wide.elim hl (hb j pb e) (w j (by omega))).mono (by omega))
    intro a ha
    have q1 := rest_piv (t.take j) hr
    rw [take_succ_at e] at ha
    rw [vec_elim hl]
    (rcases List.mem_append.mp ha with ha | ha)
    · show vec pb.2 pb.1 * vec (restOf (span.take j) row) a.1 + -(vec (restOf (span.take j) row) pb.1) * vec pb.2 a.1 = 0
      have tl : vec pb.2 a.1 = 0 := by
        obtain ⟨i, hi, ei⟩ := List.getElem_of_mem ha
        rw [List.length_take] at hi
        rw [List.getElem_take] at ei
        exact t.tri i j a pb (by omega) (by rw [List.getElem?_eq_getElem (by omega), ei]) e
      rw [q1 a ha, tl]
      simp
    · (rw [List.mem_singleton.mp ha])
      show vec pb.2 pb.1 * vec (restOf (span.take j) row) pb.1 + -(vec (restOf (span.take j) row) pb.1) * vec pb.2 pb.1 = 0
      rw [Int.neg_mul, Int.mul_comm]
      omega
  · refine low_all (j := span.length) t gs.lt hn hL (by rw [restOf_length, hr]) (Nat.le_refl _) ?_ (last.mono (by omega))
    rw [List.take_length]
    exact rest_piv t hr
/-! ### the first place that is not 0 -/
def fp (row : List Int) : Option Nat := row.findIdx? fun x => x != 0
theorem fp_none {row : List Int} : fp row = none ↔ ∀ k, vec row k = 0 := by
  unfold fp
  rw [List.findIdx?_eq_none_iff]
  constructor
  · intro h k
    rcases getD_mem_or row k with z | z
    · exact z
    · have q := h _ z
      show row.getD k 0 = 0
      simpa using q
  · intro h x hx
    obtain ⟨i, hi, e⟩ := List.getElem_of_mem hx
    have q := h i
    rw [vec_of (List.getElem?_eq_getElem hi), e] at q
    rw [q]
    rfl
theorem fp_some {row : List Int} {q : Nat} (h : fp row = some q) : vec row q ≠ 0 := by
  unfold fp at h
  obtain ⟨hq, h1, _⟩ := List.findIdx?_eq_some_iff_getElem.mp h
  rw [vec_of (List.getElem?_eq_getElem hq)]
  simpa using h1
/-- the program's span with a row more; the law's -/
def widen (span : Span) (row : List Int) : Span := match fp (restOf span row) with
  | none => span
  | some q => span ++ [(q, lowered (restOf span row))]
def widenL (span : Span) (row : List Int) : Span := match fp (restOf span row) with
  | none => span
  | some q => span ++ [(q, restOf span row)]
/-! ### told sizes -/
section
variable {p : Nat} {A B : List Rw} {num h : Nat}
abbrev tv (p : Nat) (A B : List Rw) (num s : Nat) : Vec := vec (tail p A B num s)
def Of (p : Nat) (A B : List Rw) (num : Nat) (F : Nat → Prop) : Vec → Prop := fun v => ∃ t, F t ∧ v = tv p A B num t
def Lower (p : Nat) (A B : List Rw) (num : Nat) (T : List Nat) (s : Nat) : Vec → Prop := Of p A B num fun t => t ∈ T ∧ t < s
structure Paper (p : Nat) (A B : List Rw) (num h : Nat) (T : List Nat) : Prop where
  rise : T.Pairwise (· < ·)
  above : ∀ t ∈ T, h < t
  just : ∀ s, h < s → (s ∈ T ↔ ¬ Spd (Lower p A B num T s) (tv p A B num s))
  small : ∀ (i t : Nat), T[i]? = some t → t + 1 < 2 ^ (5 + 2 * i)
def Dec (p : Nat) (A B : List Rw) (num : Nat) (T : List Nat) (s : Nat) : Prop := s ∈ T ∨ Spd (Lower p A B num T s) (tv p A B num s)
structure Hunt (p : Nat) (A B : List Rw) (num h : Nat) (span : Span) (found waiting : List Nat) : Prop where
  gs : GS (2 * (crs A).length + 2 * (crs B).length + 2) span (Of p A B num (· ∈ found))
  bd : SpanBd span
  len : span.length = found.length
  fr : found.Pairwise (· < ·)
  wr : waiting.Pairwise (· ≤ ·)
  fw : ∀ a ∈ found, ∀ b ∈ waiting, a ≤ b
  fa : ∀ a ∈ found, h < a
  wa : ∀ b ∈ waiting, h < b
  fs : ∀ (i t : Nat), found[i]? = some t → t + 1 < 2 ^ (5 + 2 * i)
  ws : ∀ b ∈ waiting, b + 1 < 2 ^ (5 + 2 * found.length)
  first : ∀ s, h < s → s < p * (h + 1) → s ∈ waiting ∨ Dec p A B num found s
  succ : ∀ t ∈ found, ∀ r, r < p → p * t + r ∈ waiting ∨ Dec p A B num found (p * t + r)
  own : ∀ t ∈ found, ¬ Spd (Lower p A B num found t) (tv p A B num t)
theorem Dec.more {T : List Nat} {s x : Nat} (d : Dec p A B num T s) : Dec p A B num (T ++ [x]) s := by
  rcases d with d | d
  · exact .inl (List.mem_append_left _ d)
  · exact .inr (d.mono fun v ⟨t, ⟨h1, h2⟩, e⟩ => ⟨t, ⟨List.mem_append_left _ h1, h2⟩, e⟩)
theorem hunt_start (hp : 1 ≤ p) (hp3 : p ≤ 3) (hh : h ≤ 4) : Hunt p A B num h [] [] (List.range' (h + 1) (p * (h + 1) - (h + 1))) := by
  have hb : p * (h + 1) ≤ 3 * (h + 1) := Nat.mul_le_mul_right _ hp3
  have hm : ∀ b, b ∈ List.range' (h + 1) (p * (h + 1) - (h + 1)) ↔ h < b ∧ b < p * (h + 1) := fun b => by
    rw [List.mem_range'_1]
    have : 1 * (h + 1) ≤ p * (h + 1) := Nat.mul_le_mul_right _ hp
    omega
  refine ⟨?_, fun i pb e => by simp at e, rfl, List.Pairwise.nil, ?_, fun a ha => absurd ha (by simp), fun a ha => absurd ha (by simp), fun b hb' => ((hm b).mp hb').1, fun i t e => by simp at e, fun b hb' => ?_, fun s h1 h2 => .inl ((hm s).mpr ⟨h1, h2⟩), fun t ht => absurd ht (by simp), fun t ht => absurd ht (by simp)⟩
  · have e : Of p A B num (· ∈ ([] : List Nat)) = fun _ => False := by
      funext v
      refine propext ⟨fun ⟨t, ht, _⟩ => absurd ht (by simp), fun z => z.elim⟩
    rw [e]
    exact GS.nil
  · exact (List.pairwise_lt_range').imp fun h => Nat.le_of_lt h
  · have := ((hm b).mp hb').2
    show b + 1 < 2 ^ 5
    omega
/-- a popped size whose row is a sum -/
theorem Hunt.skip {span : Span} {found waiting : List Nat} {s : Nat} (H : Hunt p A B num h span found (s :: waiting)) (hs : Spd (Of p A B num (· ∈ found)) (tv p A B num s)) : Hunt p A B num h span found waiting := by
  have hw := List.pairwise_cons.mp H.wr
  have d : Dec p A B num found s := by
    by_cases hm : s ∈ found
    · exact .inl hm
    · refine .inr (hs.mono fun v ⟨t, ht, e⟩ => ⟨t, ⟨ht, ?_⟩, e⟩)
      have := H.fw t ht s (List.mem_cons_self)
      have ne : t ≠ s := fun z => hm (z ▸ ht)
      omega
  have drop : ∀ x, x ∈ s :: waiting ∨ Dec p A B num found x → x ∈ waiting ∨ Dec p A B num found x := fun x hx => by
    rcases hx with hx | hx
    · rcases List.mem_cons.mp hx with e | hx
      · rw [e]
        exact .inr d
      · exact .inl hx
    · exact .inr hx
  exact ⟨H.gs, H.bd, H.len, H.fr, hw.2, fun a ha b hb => H.fw a ha b (List.mem_cons_of_mem _ hb), H.fa, fun b hb => H.wa b (List.mem_cons_of_mem _ hb), H.fs, fun b hb => H.ws b (List.mem_cons_of_mem _ hb), fun x h1 h2 => drop x (H.first x h1 h2), fun t ht r hr => drop _ (H.succ t ht r hr), H.own⟩
theorem tail_wide (hp : 2 ≤ p) (gA : Good A) (LA : Loose A) (gB : Good B) (LB : Loose B) {s b : Nat} (hs : s + 1 < 2 ^ b) : Wide b (tail p A B num s) := fun k => by
  rcases getD_mem_or (tail p A B num s) k with z | z
  · show ((tail p A B num s).getD k 0).natAbs < _
    rw [z]
    exact Nat.two_pow_pos b
  · show ((tail p A B num s).getD k 0).natAbs < _
    generalize (tail p A B num s).getD k 0 = x at z
    have two_case : ∀ rows : List Rw, Good rows → Loose rows → x ∈ two p rows num s → x.natAbs < 2 ^ b := fun rows g L hx => by
      unfold two at hx
      obtain ⟨c, hc, hx⟩ := List.mem_flatMap.mp hx
      have hcl := (List.getElem?_eq_some_iff.mp (mem_crs.mp hc).choose_spec).1
      have a1 := wt_le (num := num) hp g L s c hcl
      have a2 := wt_le (num := num) hp g L (s + 1) c hcl
      (rcases List.mem_cons.mp hx with e | hx)
      · rw [e]
        omega
      · rw [List.mem_singleton.mp hx]
        omega
    unfold tail at z
    rcases List.mem_append.mp z with z | z
    · rcases List.mem_append.mp z with z | z
      · exact two_case A gA LA z
      · exact two_case B gB LB z
    · rcases List.mem_cons.mp z with e | z
      · rw [e]
        omega
      · (rw [List.mem_singleton.mp z])
        omega
/-- a popped size whose row is no sum -/
theorem Hunt.take {span : Span} {found waiting : List Nat} {s q : Nat} (hp : 2 ≤ p) (hp3 : p ≤ 3) (hc : (crs A).length + (crs B).length ≤ 5) (gA : Good A) (LA : Loose A) (gB : Good B) (LB : Loose B) (H : Hunt p A B num h span found (s :: waiting))
    (hq : fp (restOf span (tail p A B num s)) = some q) {w' : List Nat} (hm : ∀ x, x ∈ w' ↔ x ∈ waiting ∨ ∃ r, r < p ∧ x = p * s + r) (hw' : w'.Pairwise (· ≤ ·)) :
    Hunt p A B num h (span ++ [(q, lowered (restOf span (tail p A B num s)))]) (found ++ [s]) w' := by
  have hw := List.pairwise_cons.mp H.wr
  have ns : s ∉ found := fun hmm => by
    have e := (H.gs.test (row := tail p A B num s) tail_length).mpr (Spd.mem ⟨s, hmm, rfl⟩) q
    exact fp_some hq e
  have hlt : ∀ t ∈ found, t < s := fun t ht => by
    have := H.fw t ht s (List.mem_cons_self)
    have ne : t ≠ s := fun z => ns (z ▸ ht)
    omega
  have hs := H.wa s (List.mem_cons_self)
  have hss := H.ws s (List.mem_cons_self)
  have hps : 2 * s ≤ p * s := Nat.mul_le_mul_right _ hp
  have hps3 : p * s ≤ 3 * s := Nat.mul_le_mul_right _ hp3
  have rw_ := run_ok H.gs (by omega) (tail_length (num := num) (s := s)) H.bd (tail_wide hp gA LA gB LB (by rw [H.len]; exact hss))
  obtain ⟨g, hg, eg⟩ := lowered_scale (restOf span (tail p A B num s))
  have lowEq : ∀ t, t ∈ found → ∀ v, Lower p A B num (found ++ [s]) t v → Lower p A B num found t v := fun t ht v ⟨x, ⟨h1, h2⟩, e⟩ => by
    rcases List.mem_append.mp h1 with h1 | h1
    · exact ⟨x, ⟨h1, h2⟩, e⟩
    · have := hlt t ht
      rw [List.mem_singleton.mp h1] at h2
      omega
  have hlen : (found ++ [s]).length = found.length + 1 := by rw [List.length_append]; rfl
  have p5 : 2 ^ (5 + 2 * (found.length + 1)) = 4 * 2 ^ (5 + 2 * found.length) := by
    rw [show 5 + 2 * (found.length + 1) = 2 + (5 + 2 * found.length) by omega, Nat.pow_add]
  refine ⟨?_, fun i pb e => ?_, ?_, ?_, hw', fun a ha b hb => ?_, fun a ha => ?_, fun b hb => ?_, fun i t e => ?_, fun b hb => ?_, fun x h1 h2 => ?_, fun t ht r hr => ?_, fun t ht => ?_⟩
  · have e : Of p A B num (· ∈ found ++ [s]) = fun v => Of p A B num (· ∈ found) v ∨ v = vec (tail p A B num s) := by
      funext v
      refine propext ⟨fun ⟨t, ht, e⟩ => ?_, fun hv => ?_⟩
      · rcases List.mem_append.mp ht with ht | ht
        · exact .inl ⟨t, ht, e⟩
        · rw [List.mem_singleton.mp ht] at e
          exact .inr e
      · rcases hv with ⟨t, ht, e⟩ | e
        · exact ⟨t, List.mem_append_left _ ht, e⟩
        · exact ⟨s, List.mem_append_right _ (List.mem_singleton.mpr rfl), e⟩
    rw [e]
    exact H.gs.more (c := g) (d := 1) tail_length (by rw [lowered_length, restOf_length, tail_length]) (by omega) (by decide) (fun k => by rw [← eg k]; omega) (fp_some hq)
  · by_cases hi : i < span.length
    · rw [List.getElem?_append_left hi] at e
      exact H.bd i pb e
    · have hi2 := (List.getElem?_eq_some_iff.mp e).1
      rw [List.length_append, List.length_singleton] at hi2
      have ei : i = span.length := by omega
      subst ei
      simp at e
      rw [← e]
      exact rw_.2.lowered
  · rw [List.length_append, hlen, H.len]
    rfl
  · rw [List.pairwise_append]
    exact ⟨H.fr, List.pairwise_singleton _ _, fun a ha b hb => by rw [List.mem_singleton.mp hb]; exact hlt a ha⟩
  · have hbs : s ≤ b := by
      rcases (hm b).mp hb with hb | ⟨r, hr, e⟩
      · exact hw.1 b hb
      · omega
    (rcases List.mem_append.mp ha with ha | ha)
    · have := hlt a ha
      omega
    · (rw [List.mem_singleton.mp ha])
      exact hbs
  · (rcases List.mem_append.mp ha with ha | ha)
    · exact H.fa a ha
    · (rw [List.mem_singleton.mp ha])
      exact hs
  · rcases (hm b).mp hb with hb | ⟨r, hr, e⟩
    · exact H.wa b (List.mem_cons_of_mem _ hb)
    · omega
  · by_cases hi : i < found.length
    · rw [List.getElem?_append_left hi] at e
      exact H.fs i t e
    · have hi2 := (List.getElem?_eq_some_iff.mp e).1
      rw [hlen] at hi2
      have ei : i = found.length := by omega
      subst ei
      simp at e
      rw [← e]
      exact hss
  · rw [hlen, p5]
    rcases (hm b).mp hb with hb | ⟨r, hr, e⟩
    · have := H.ws b (List.mem_cons_of_mem _ hb)
      omega
    · omega
  · rcases H.first x h1 h2 with hx | hx
    · rcases List.mem_cons.mp hx with e | hx
      · rw [e]
        exact .inr (.inl (List.mem_append_right _ (List.mem_singleton.mpr rfl)))
      · exact .inl ((hm x).mpr (.inl hx))
    · exact .inr hx.more
  · rcases List.mem_append.mp ht with ht | ht
    · rcases H.succ t ht r hr with hx | hx
      · rcases List.mem_cons.mp hx with e | hx
        · rw [e]
          exact .inr (.inl (List.mem_append_right _ (List.mem_singleton.mpr rfl)))
        · exact .inl ((hm _).mpr (.inl hx))
      · exact .inr hx.more
    · rw [List.mem_singleton.mp ht]
      exact .inl ((hm _).mpr (.inr ⟨r, hr, rfl⟩))
  · rcases List.mem_append.mp ht with ht | ht
    · exact fun z => H.own t ht (z.mono (lowEq t ht))
    · rw [List.mem_singleton.mp ht]
      intro z
      refine fp_some hq ((H.gs.test (row := tail p A B num s) tail_length).mpr (z.mono ?_) q)
      rintro v ⟨x, ⟨h1, h2⟩, e⟩
      rcases List.mem_append.mp h1 with h1 | h1
      · exact ⟨x, h1, e⟩
      · rw [List.mem_singleton.mp h1] at h2
        omega
theorem hunt_end {span : Span} {found : List Nat} (hp : 2 ≤ p) (gA : Good A) (LA : Loose A) (AA : Above h A) (gB : Good B) (LB : Loose B) (AB : Above h B) (H : Hunt p A B num h span found []) : Paper p A B num h found := by
  have dec : ∀ s, h < s → Dec p A B num found s := fun s => by
    induction s using Nat.strongRecOn with
    | ind s ih =>
      intro hs
      by_cases h1 : s < p * (h + 1)
      · rcases H.first s hs h1 with z | z
        · exact absurd z (by simp)
        · exact z
      · have hq : h + 1 ≤ s / p := (Nat.le_div_iff_mul_le (by omega)).mpr (by rw [Nat.mul_comm]; omega)
        have hd := Nat.div_add_mod s p
        have hr := Nat.mod_lt s (show 0 < p by omega)
        have hlt : s / p < s := Nat.div_lt_self (by omega) hp
        have es : p * (s / p) + s % p = s := hd
        rcases ih (s / p) hlt (by omega) with hm | hm
        · rcases H.succ _ hm _ hr with z | z
          · exact absurd z (by simp)
          · rw [es] at z
            exact z
        · obtain ⟨T, lT, eT⟩ := tail_map (num := num) hp gA LA AA gB LB AB hr
          refine .inr ?_
          have q := eT (s / p) (by omega)
          rw [es] at q
          show Spd _ (vec (tail p A B num s))
          rw [← q]
          refine Spd.map T lT hm ?_
          rintro v ⟨t, ⟨h2, h3⟩, e⟩
          rw [e, eT t (H.fa t h2)]
          have hlt2 : p * t + s % p < s := by
            have : p * (t + 1) ≤ p * (s / p) := Nat.mul_le_mul_left _ h3
            rw [Nat.mul_add] at this
            omega
          rcases H.succ t h2 _ hr with z | z
          · exact absurd z (by simp)
          · rcases z with z | z
            · exact Spd.mem ⟨_, ⟨z, hlt2⟩, rfl⟩
            · exact z.mono fun v ⟨x, ⟨a, b⟩, e⟩ => ⟨x, ⟨a, by omega⟩, e⟩
  refine ⟨H.fr, H.fa, fun s hs => ⟨fun hm => H.own s hm, fun hn => ?_⟩, H.fs⟩
  rcases dec s hs with z | z
  · exact z
  · exact absurd z hn
/-- the measure of the program's loop -/
def hm (n p : Nat) (span : Span) (waiting : List Nat) : Nat := (n - span.length) * (p + 1) + waiting.length
theorem hm_skip {n p s : Nat} {span : Span} {waiting : List Nat} : hm n p span waiting < hm n p span (s :: waiting) := by
  unfold hm
  rw [List.length_cons]
  omega
theorem hm_take {n p s : Nat} {span : Span} {waiting w' : List Nat} {pb : Nat × List Int} {G : Vec → Prop} (gs : GS n (span ++ [pb]) G) (hl : w'.length = waiting.length + p) : hm n p (span ++ [pb]) w' < hm n p span (s :: waiting) := by
  have q := gs.length_le
  unfold hm
  rw [List.length_append, List.length_singleton] at q ⊢
  rw [List.length_cons, hl]
  have e : n - span.length = (n - (span.length + 1)) + 1 := by omega
  rw [e, Nat.add_mul]
  omega
/-! ### the law's loop -/
/-- the sizes that the law looks at -/
def looked (h : Nat) (T : List Nat) : List Nat := List.range' (h + 1) 20 ++ T.filter fun s => decide (h + 20 < s)
theorem looked_rise {T : List Nat} (P : Paper p A B num h T) : (looked h T).Pairwise (· < ·) := by
  unfold looked
  rw [List.pairwise_append]
  refine ⟨List.pairwise_lt_range', P.rise.filter _, fun a ha b hb => ?_⟩
  rw [List.mem_range'_1] at ha
  have := of_decide_eq_true (List.mem_filter.mp hb).2
  omega
theorem looked_has {T : List Nat} (P : Paper p A B num h T) {t : Nat} (ht : t ∈ T) : t ∈ looked h T := by
  unfold looked
  have := P.above t ht
  by_cases z : h + 20 < t
  · exact List.mem_append_right _ (List.mem_filter.mpr ⟨ht, decide_eq_true z⟩)
  · exact List.mem_append_left _ (List.mem_range'_1.mpr (by omega))
theorem looked_above {T : List Nat} {s : Nat} (hs : s ∈ looked h T) : h < s ∧ (s ≤ h + 20 ∨ s ∈ T) := by
  unfold looked at hs
  rcases List.mem_append.mp hs with z | z
  · rw [List.mem_range'_1] at z
    omega
  · obtain ⟨z1, z2⟩ := List.mem_filter.mp z
    have := of_decide_eq_true z2
    exact ⟨by omega, .inr z1⟩
/-- the law's span behind i sizes -/
structure Seen (p : Nat) (A B : List Rw) (num h : Nat) (T : List Nat) (i : Nat) (span : Span) : Prop where
  gs : GS (2 * (crs A).length + 2 * (crs B).length + 2) span (Of p A B num fun t => t ∈ T ∧ t ∈ (looked h T).take i)
  bd : SpanBd span
  len : span.length = (((looked h T).take i).filter fun t => decide (t ∈ T)).length
theorem seen_start {T : List Nat} : Seen p A B num h T 0 [] := by
  refine ⟨?_, fun i pb e => by simp at e, rfl⟩
  have e : (Of p A B num fun t => t ∈ T ∧ t ∈ (looked h T).take 0) = fun _ => False := by
    funext v
    refine propext ⟨fun ⟨t, ht, _⟩ => absurd ht.2 (by simp), fun z => z.elim⟩
  rw [e]
  exact GS.nil
theorem seen_low {T : List Nat} (P : Paper p A B num h T) {i s : Nat} (hi : (looked h T)[i]? = some s) (t : Nat) : (t ∈ T ∧ t ∈ (looked h T).take i) ↔ (t ∈ T ∧ t < s) := by
  obtain ⟨hl, es⟩ := List.getElem?_eq_some_iff.mp hi
  have pw := List.pairwise_iff_getElem.mp (looked_rise P)
  constructor
  · rintro ⟨h1, h2⟩
    refine ⟨h1, ?_⟩
    obtain ⟨j, hj, e⟩ := List.getElem_of_mem h2
    rw [List.length_take] at hj
    rw [List.getElem_take] at e
    rw [← e, ← es]
    exact pw j i (by omega) hl (by omega)
  · rintro ⟨h1, h2⟩
    refine ⟨h1, ?_⟩
    obtain ⟨j, hj, e⟩ := List.getElem_of_mem (looked_has P h1)
    have hji : j < i := by
      refine Decidable.byContradiction fun z => ?_
      by_cases q : j = i
      · subst q
        omega
      · have := pw i j hl hj (by omega)
        omega
    rw [List.mem_take_iff_getElem]
    exact ⟨j, by omega, e⟩
theorem seen_size {T : List Nat} {span : Span} (P : Paper p A B num h T) (hh : h ≤ 4) {i s : Nat} (S : Seen p A B num h T i span) (hi : (looked h T)[i]? = some s) : s + 1 < 2 ^ (5 + 2 * span.length) := by
  (have hm := List.mem_of_getElem? hi)
  obtain ⟨_, hs | hs⟩ := looked_above hm
  · have : 2 ^ 5 ≤ 2 ^ (5 + 2 * span.length) := pow_le_of (by omega)
    have e : 2 ^ 5 = 32 := by decide
    omega
  · obtain ⟨j, hj, e⟩ := List.getElem_of_mem hs
    have q := P.small j s (by rw [List.getElem?_eq_getElem hj, e])
    have le : j ≤ span.length := by
      rw [S.len]
      have w := len_le_of_sub (l := T.take j) (m := ((looked h T).take i).filter fun t => decide (t ∈ T)) (nodup_of_lt (P.rise.sublist (List.take_sublist _ _))) fun x hx => by
        have hxT := List.mem_of_mem_take hx
        rw [List.mem_filter]
        refine ⟨((seen_low P hi x).mpr ⟨hxT, ?_⟩).2, decide_eq_true hxT⟩
        obtain ⟨k, hk, ek⟩ := List.getElem_of_mem hx
        rw [List.length_take] at hk
        rw [List.getElem_take] at ek
        rw [← ek, ← e]
        exact List.pairwise_iff_getElem.mp P.rise k j (by omega) hj (by omega)
      rw [List.length_take] at w
      omega
    exact Nat.lt_of_lt_of_le q (pow_le_of (by omega))
theorem Seen.next {T : List Nat} {span : Span} (hp : 2 ≤ p) (hc : (crs A).length + (crs B).length ≤ 5) (gA : Good A) (LA : Loose A) (gB : Good B) (LB : Loose B) (P : Paper p A B num h T) (hh : h ≤ 4) {i s : Nat} (S : Seen p A B num h T i span) (hi : (looked h T)[i]? = some s) :
    RunOk span (tail p A B num s) ∧ (fp (restOf span (tail p A B num s)) = none ↔ s ∉ T) ∧ Seen p A B num h T (i + 1) (widenL span (tail p A B num s)) := by
  have hss := seen_size P hh S hi
  (have hm := List.mem_of_getElem? hi)
  have hab := (looked_above hm).1
  have rk := run_ok S.gs (by omega) (tail_length (num := num) (s := s)) S.bd (tail_wide hp gA LA gB LB hss)
  have eqv : (Of p A B num fun t => t ∈ T ∧ t ∈ (looked h T).take i) = Lower p A B num T s := by
    funext v
    exact propext ⟨fun ⟨t, ht, e⟩ => ⟨t, (seen_low P hi t).mp ht, e⟩, fun ⟨t, ht, e⟩ => ⟨t, (seen_low P hi t).mpr ht, e⟩⟩
  have test : fp (restOf span (tail p A B num s)) = none ↔ s ∉ T := by
    rw [fp_none, S.gs.test tail_length, eqv, P.just s hab]
    exact ⟨fun z w => w z, fun z => Classical.not_not.mp z⟩
  refine ⟨rk.1, test, ?_⟩
  have tk := take_succ_at hi
  unfold widenL
  cases hf : fp (restOf span (tail p A B num s)) with
  | none =>
    have nT := test.mp hf
    refine ⟨?_, S.bd, ?_⟩
    · have e : (Of p A B num fun t => t ∈ T ∧ t ∈ (looked h T).take (i + 1)) = Of p A B num fun t => t ∈ T ∧ t ∈ (looked h T).take i := by
        rw [tk]
        funext v
        refine propext ⟨fun ⟨t, ⟨h1, h2⟩, e⟩ => ⟨t, ⟨h1, ?_⟩, e⟩, fun ⟨t, ⟨h1, h2⟩, e⟩ => ⟨t, ⟨h1, List.mem_append_left _ h2⟩, e⟩⟩
        rcases List.mem_append.mp h2 with h2 | h2
        · exact h2
        · exact absurd (List.mem_singleton.mp h2 ▸ h1) nT
      rw [e]
      exact S.gs
    · rw [tk, List.filter_append, S.len, List.length_append]
      simp [nT]
  | some q =>
    have hT : s ∈ T := by
      refine Decidable.byContradiction fun z => ?_
      rw [test.mpr z] at hf
      cases hf
    refine ⟨?_, fun j pb e => ?_, ?_⟩
    · have e : (Of p A B num fun t => t ∈ T ∧ t ∈ (looked h T).take (i + 1)) = fun v => (Of p A B num fun t => t ∈ T ∧ t ∈ (looked h T).take i) v ∨ v = vec (tail p A B num s) := by
        rw [tk]
        funext v
        refine propext ⟨fun ⟨t, ⟨h1, h2⟩, e⟩ => ?_, fun hv => ?_⟩
        · rcases List.mem_append.mp h2 with h2 | h2
          · exact .inl ⟨t, ⟨h1, h2⟩, e⟩
          · rw [List.mem_singleton.mp h2] at e
            exact .inr e
        · rcases hv with ⟨t, ⟨h1, h2⟩, e⟩ | e
          · exact ⟨t, ⟨h1, List.mem_append_left _ h2⟩, e⟩
          · exact ⟨s, ⟨hT, List.mem_append_right _ (List.mem_singleton.mpr rfl)⟩, e⟩
      rw [e]
      exact S.gs.more (c := 1) (d := 1) tail_length (by rw [restOf_length, tail_length]) (by decide) (by decide) (fun k => rfl) (fp_some hf)
    · by_cases hj : j < span.length
      · rw [List.getElem?_append_left hj] at e
        exact S.bd j pb e
      · have hj2 := (List.getElem?_eq_some_iff.mp e).1
        rw [List.length_append, List.length_singleton] at hj2
        have ej : j = span.length := by omega
        subst ej
        simp at e
        rw [← e]
        exact rk.2
    · rw [tk, List.filter_append, List.length_append, List.length_append, S.len]
      simp [hT]
end
end Mw

set_option linter.all false
/-! The law's works: rows without rings, in plain Lean. -/
namespace Mw
/-- any number of steps will do: as many as there are rows are enough -/
theorem fin_few {rows : List Rw} {s : Nat} (g : Good rows) : ∀ (k r e : Nat) (seen : List Nat), seen.Nodup → (∀ w ∈ seen, w < rows.length ∧ fin rows s k w = none) → r < rows.length → fin rows s k r = some e → ∃ m, m + seen.length ≤ rows.length ∧ fin rows s m r = some e
  | 0, r, e, _, _, _, _, h => by cases h
  | k + 1, r, e, seen, hn, hs, hr, h => by
    have down : ∀ w, fin rows s (k + 1) w = none → fin rows s k w = none := fun w hw => by
      cases q : fin rows s k w with
      | none => rfl
      | some e' =>
        rw [fin_succ q] at hw
        cases hw
    cases q : fin rows s k r with
    | some e' =>
      have e2 := fin_same q h
      subst e2
      exact fin_few g k r e' seen hn (fun w hw => ⟨(hs w hw).1, down w (hs w hw).2⟩) hr q
    | none =>
      have nr : r ∉ seen := fun hm => by
        rw [(hs r hm).2] at h
        cases h
      have hn' : (r :: seen).Nodup := List.nodup_cons.mpr ⟨nr, hn⟩
      have hs' : ∀ w ∈ r :: seen, w < rows.length ∧ fin rows s k w = none := fun w hw => by
        rcases List.mem_cons.mp hw with e' | hw
        · rw [e']
          exact ⟨hr, q⟩
        · exact ⟨(hs w hw).1, down w (hs w hw).2⟩
      cases st : stepW rows s r with
      | none =>
        have l := len_le_of_sub (l := r :: seen) (m := List.range rows.length) hn' fun x hx => List.mem_range.mpr (hs' x hx).1
        rw [List.length_cons, List.length_range] at l
        rw [fin_stop st] at h
        refine ⟨1, by omega, ?_⟩
        rw [fin_stop st]
        exact h
      | some r' =>
        rw [fin_step st] at h
        obtain ⟨m, hm, em⟩ := fin_few g k r' e (r :: seen) hn' hs' (step_lt g st).2 h
        rw [List.length_cons] at hm
        refine ⟨m + 1, by omega, ?_⟩
        rw [fin_step st]
        exact em
def LooseX (rows : List Rw) : Prop := ∀ s r, 1 ≤ s → r < rows.length → ∃ k e, fin rows s k r = some e
theorem LooseX.to {rows : List Rw} (g : Good rows) (L : LooseX rows) : Loose rows := fun s r hs hr => by
  obtain ⟨k, e, h⟩ := L s r hs hr
  obtain ⟨m, hm, em⟩ := fin_few g k r e [] List.nodup_nil (fun w hw => absurd hw (by simp)) hr h
  refine ⟨e, fin_mono ?_ em⟩
  rw [List.length_nil] at hm
  omega
theorem Loose.x {rows : List Rw} (L : Loose rows) : LooseX rows := fun s r hs hr => by
  obtain ⟨e, h⟩ := L s r hs hr
  exact ⟨_, e, h⟩
/-! ### a few sizes tell it -/
def opens (rows : List Rw) : List Nat := rows.filterMap fun
  | .mesh o _ _ => some o
  | _ => none
theorem mem_opens {rows : List Rw} {o : Nat} : o ∈ opens rows ↔ ∃ u v, Rw.mesh o u v ∈ rows := by
  unfold opens
  rw [List.mem_filterMap]
  constructor
  · rintro ⟨r, hr, e⟩
    cases r with
    | mesh o' u v =>
      have : o' = o := Option.some.inj e
      rw [← this]
      exact ⟨u, v, hr⟩
    | crush t => cases e
    | bin n => cases e
  · rintro ⟨u, v, h⟩
    exact ⟨_, h, rfl⟩
def sizesL (rows : List Rw) : List Nat := [1] ++ opens rows ++ (opens rows).map (· + 1)
theorem fin_sim {rows : List Rw} {s t : Nat} (hs : s ≠ 1) (hm : ∀ o ∈ opens rows, (s ≤ o ↔ t ≤ o)) : ∀ (k r e : Nat), fin rows t k r = some e → ∃ e', fin rows s k r = some e'
  | 0, r, e, h => by cases h
  | k + 1, r, e, h => by
    cases q : stepW rows s r with
    | none => exact ⟨r, fin_stop q⟩
    | some r' =>
      have q' : stepW rows t r = some r' := by
        unfold stepW at q ⊢
        cases x : rows[r]? with
        | none => rw [x] at q; cases q
        | some y =>
          rw [x] at q
          cases y with
          | mesh o u v =>
            have w := hm o (mem_opens.mpr ⟨u, v, List.mem_of_getElem? x⟩)
            have q2 : some (if s ≤ o then u else v) = some r' := q
            show some (if t ≤ o then u else v) = some r'
            rw [← q2]
            congr 1
            by_cases z : s ≤ o
            · rw [if_pos z, if_pos (w.mp z)]
            · rw [if_neg z, if_neg fun z' => z (w.mpr z')]
          | crush u =>
            have q2 : (if s = 1 then some u else none) = some r' := q
            rw [if_neg hs] at q2
            cases q2
          | bin n => cases q
      rw [fin_step q'] at h
      obtain ⟨e', h'⟩ := fin_sim hs hm k r' e h
      exact ⟨e', by rw [fin_step q]; exact h'⟩
theorem rep_size {s : Nat} (hs : 1 ≤ s) : ∀ os : List Nat, ∃ t, (t = 1 ∨ ∃ o ∈ os, t = o + 1) ∧ t ≤ s ∧ ∀ o ∈ os, o + 1 ≤ s → o + 1 ≤ t
  | [] => ⟨1, .inl rfl, hs, fun o h => absurd h (by simp)⟩
  | a :: os => by
    obtain ⟨t, h1, h2, h3⟩ := rep_size hs os
    by_cases z : a + 1 ≤ s ∧ t < a + 1
    · refine ⟨a + 1, .inr ⟨a, List.mem_cons_self, rfl⟩, z.1, fun o ho hos => ?_⟩
      rcases List.mem_cons.mp ho with e | ho
      · omega
      · have := h3 o ho hos
        omega
    · refine ⟨t, ?_, h2, fun o ho hos => ?_⟩
      · rcases h1 with h1 | ⟨o, ho, e⟩
        · exact .inl h1
        · exact .inr ⟨o, List.mem_cons_of_mem _ ho, e⟩
      · rcases List.mem_cons.mp ho with e | ho
        · omega
        · exact h3 o ho hos
theorem loose_of_sizes {rows : List Rw} (h : ∀ s ∈ sizesL rows, ∀ r, r < rows.length → ∃ e, finish rows s r = some e) : Loose rows := fun s r hs hr => by
  by_cases h1 : s = 1
  · rw [h1]
    exact h 1 (List.mem_append_left _ (List.mem_append_left _ (List.mem_singleton.mpr rfl))) r hr
  · obtain ⟨t, t1, t2, t3⟩ := rep_size hs (opens rows)
    have ht : t ∈ sizesL rows := by
      rcases t1 with t1 | ⟨o, ho, e⟩
      · rw [t1]
        exact List.mem_append_left _ (List.mem_append_left _ (List.mem_singleton.mpr rfl))
      · exact List.mem_append_right _ (List.mem_map.mpr ⟨o, ho, e.symm⟩)
    obtain ⟨e, he⟩ := h t ht r hr
    exact fin_sim h1 (fun o ho => ⟨fun z => by omega, fun z => by
      refine Decidable.byContradiction fun w => ?_
      have := t3 o ho (by omega)
      omega⟩) _ r e he
/-! ### rows that lead on -/
theorem loose_forward {rows : List Rw} (g : Good rows) (h : ∀ s r r', stepW rows s r = some r' → r < r') : Loose rows := by
  refine LooseX.to g fun s r hs hr => ?_
  have : ∀ k r, r < rows.length → rows.length ≤ r + k → ∃ e, fin rows s k r = some e := fun k => by
    induction k with
    | zero =>
      intro r h1 h2
      omega
    | succ k ih =>
      intro r h1 h2
      cases q : stepW rows s r with
      | none => exact ⟨r, fin_stop q⟩
      | some r' =>
        have := h s r r' q
        obtain ⟨e, he⟩ := ih r' (step_lt g q).2 (by omega)
        exact ⟨e, by rw [fin_step q]; exact he⟩
  obtain ⟨e, he⟩ := this rows.length r hr (by omega)
  exact ⟨_, e, he⟩
def fwd (n k : Nat) : Rw → Rw
  | .mesh o u v => .mesh o (k + 1 + u % (n - 1 - k)) (k + 1 + v % (n - 1 - k))
  | .crush t => .crush (k + 1 + t % (n - 1 - k))
  | .bin b => .bin b
def forward (rows : List Rw) : List Rw := (List.range rows.length).map fun k => fwd rows.length k (rows.getD k (.bin 0))
theorem forward_at {rows : List Rw} {k : Nat} {x : Rw} (h : (forward rows)[k]? = some x) : ∃ y, rows[k]? = some y ∧ x = fwd rows.length k y := by
  have hk := (List.getElem?_eq_some_iff.mp h).1
  unfold forward at h hk
  rw [List.length_map, List.length_range] at hk
  rw [List.getElem?_map, List.getElem?_range hk] at h
  refine ⟨rows[k], List.getElem?_eq_getElem hk, ?_⟩
  have e := (Option.some.inj h).symm
  have e2 : rows.getD k (.bin 0) = rows[k] := by
    rw [List.getD_eq_getElem?_getD, List.getElem?_eq_getElem hk]
    rfl
  rw [← e2]
  exact e
theorem forward_length {rows : List Rw} : (forward rows).length = rows.length := by
  unfold forward
  (rw [List.length_map, List.length_range])
/-- few crushers, told by places -/
def crN (rows : List Rw) : Nat := (rows.filter Rw.isCrush).length
theorem crN_eq (rows : List Rw) : (crs rows).length = crN rows := by
  have key : ∀ l : List Rw, ((List.range l.length).filter fun i => match l[i]? with | some (.crush _) => true | _ => false).length = (l.filter Rw.isCrush).length := fun l => by
    induction l using snoc_rec with
    | h0 => rfl
    | hs l a ih =>
      rw [List.length_append, List.length_singleton, List.range_succ, List.filter_append, List.length_append, List.filter_append, List.length_append, ← ih]
      congr 1
      · congr 1
        refine List.filter_congr fun i hi => ?_
        rw [List.getElem?_append_left (List.mem_range.mp hi)]
      · cases a <;> simp [List.filter, Rw.isCrush]
  exact key rows
theorem crN_forward {rows : List Rw} : crN (forward rows) = crN rows := by
  rw [← crN_eq, ← crN_eq]
  unfold crs
  rw [forward_length]
  congr 1
  refine List.filter_congr fun i hi => ?_
  have hi := List.mem_range.mp hi
  have hi' : i < (forward rows).length := by rw [forward_length]; exact hi
  have h1 : (forward rows)[i]? = some (forward rows)[i] := List.getElem?_eq_getElem hi'
  obtain ⟨y, hy, e⟩ := forward_at h1
  rw [h1, hy, e]
  cases y <;> rfl
/-- what the law's first works are like; its greatest opening -/
structure Gen (rows : List Rw) (m top : Nat) : Prop where
  len : rows.length = m
  ok : ∀ r ∈ rows, r.ok m
  low : ∀ o ∈ opens rows, o ≤ top
  cr : crN rows ≤ 2
theorem Gen.good {rows : List Rw} {m top : Nat} (g : Gen rows m top) (h1 : 1 ≤ m) (h2 : m ≤ 6) : Good rows := ⟨by rw [g.len]; exact h1, by rw [g.len]; exact h2, fun r hr => by rw [g.len]; exact g.ok r hr⟩
theorem forward_gen {rows : List Rw} {m top : Nat} (g : Gen rows m top) (hl : ∃ b, rows[m - 1]? = some (.bin b)) : Gen (forward rows) m top := by
  obtain ⟨b, hb⟩ := hl
  refine ⟨by rw [forward_length, g.len], fun r hr => ?_, fun o ho => ?_, by rw [crN_forward]; exact g.cr⟩
  · obtain ⟨k, hk, e⟩ := List.getElem_of_mem hr
    have h1 : (forward rows)[k]? = some r := by rw [List.getElem?_eq_getElem hk, e]
    obtain ⟨y, hy, ey⟩ := forward_at h1
    have hkm := (List.getElem?_eq_some_iff.mp hy).1
    rw [g.len] at hkm ey
    have oy := g.ok y (List.mem_of_getElem? hy)
    by_cases hlast : k = m - 1
    · rw [hlast, hb] at hy
      cases hy
      rw [ey]
      exact oy
    · have pos : 0 < m - 1 - k := by omega
      rw [ey]
      cases y with
      | mesh o u v =>
        have a := Nat.mod_lt u pos
        have c := Nat.mod_lt v pos
        unfold Rw.ok at oy
        exact ⟨oy.1, oy.2.1, by omega, by omega⟩
      | crush t =>
        have a := Nat.mod_lt t pos
        show k + 1 + t % (m - 1 - k) < m
        omega
      | bin n => exact oy
  · obtain ⟨u, v, hm⟩ := mem_opens.mp ho
    obtain ⟨k, hk, e⟩ := List.getElem_of_mem hm
    obtain ⟨y, hy, ey⟩ := forward_at (show (forward rows)[k]? = some (.mesh o u v) by rw [List.getElem?_eq_getElem hk, e])
    cases y with
    | mesh o' u' v' =>
      have : o = o' := by
        unfold fwd at ey
        exact (Rw.mesh.inj ey).1
      rw [this]
      exact g.low o' (mem_opens.mpr ⟨u', v', List.mem_of_getElem? hy⟩)
    | crush t => cases ey
    | bin n => cases ey
theorem forward_loose {rows : List Rw} {m top : Nat} (g : Gen rows m top) (h1 : 1 ≤ m) (h2 : m ≤ 6) (hl : ∃ b, rows[m - 1]? = some (.bin b)) : Loose (forward rows) := by
  refine loose_forward ((forward_gen g hl).good h1 h2) fun s r r' h => ?_
  unfold stepW at h
  cases x : (forward rows)[r]? with
  | none => rw [x] at h; cases h
  | some z =>
    obtain ⟨y, hy, ey⟩ := forward_at x
    rw [x, ey] at h
    cases y with
    | mesh o u v =>
      have e := Option.some.inj h
      rw [← e]
      split <;> omega
    | crush t =>
      have h' : (if s = 1 then some (r + 1 + t % (rows.length - 1 - r)) else none) = some r' := h
      split at h'
      · have := Option.some.inj h'
        omega
      · cases h'
    | bin n => cases h
/-! ### a row more -/
def redir (old new : Nat) : Rw → Rw
  | .mesh o u v => .mesh o (if u = old then new else u) v
  | .crush t => .crush (if t = old then new else t)
  | .bin n => .bin n
def grown (rows : List Rw) (old : Nat) (x : Rw) : List Rw := rows.map (redir old rows.length) ++ [x]
theorem grown_old {rows : List Rw} {old k : Nat} {x y : Rw} (h : rows[k]? = some y) : (grown rows old x)[k]? = some (redir old rows.length y) := by
  have hk := (List.getElem?_eq_some_iff.mp h).1
  unfold grown
  rw [List.getElem?_append_left (by rw [List.length_map]; exact hk), List.getElem?_map, h]
  rfl
theorem grown_new {rows : List Rw} {old : Nat} {x : Rw} : (grown rows old x)[rows.length]? = some x := by
  unfold grown
  rw [List.getElem?_append_right (by rw [List.length_map]; exact Nat.le_refl _), List.length_map, Nat.sub_self]
  rfl
theorem grown_length {rows : List Rw} {old : Nat} {x : Rw} : (grown rows old x).length = rows.length + 1 := by
  unfold grown
  rw [List.length_append, List.length_map]
  rfl
theorem grown_step {rows : List Rw} {s old r : Nat} {x : Rw} (hr : r < rows.length) :
    (stepW rows s r = none ∧ stepW (grown rows old x) s r = none) ∨ ∃ t t', stepW rows s r = some t ∧ stepW (grown rows old x) s r = some t' ∧ (t' = t ∨ (t = old ∧ t' = rows.length)) := by
  have e : rows[r]? = some rows[r] := List.getElem?_eq_getElem hr
  have e2 := grown_old (old := old) (x := x) e
  unfold stepW
  rw [e, e2]
  cases rows[r] with
  | mesh o u v =>
    refine .inr ⟨_, _, rfl, rfl, ?_⟩
    by_cases z : s ≤ o
    · rw [if_pos z, if_pos z]
      by_cases q : u = old
      · rw [if_pos q]
        exact .inr ⟨q, rfl⟩
      · rw [if_neg q]
        exact .inl rfl
    · rw [if_neg z, if_neg z]
      exact .inl rfl
  | crush t =>
    show ((if s = 1 then some t else none) = none ∧ (if s = 1 then some (if t = old then rows.length else t) else none) = none) ∨ ∃ t1 t', (if s = 1 then some t else none) = some t1 ∧ (if s = 1 then some (if t = old then rows.length else t) else none) = some t' ∧ _
    by_cases z : s = 1
    · rw [if_pos z, if_pos z]
      refine .inr ⟨_, _, rfl, rfl, ?_⟩
      by_cases q : t = old
      · rw [if_pos q]
        exact .inr ⟨q, rfl⟩
      · rw [if_neg q]
        exact .inl rfl
    · rw [if_neg z, if_neg z]
      exact .inl ⟨rfl, rfl⟩
  | bin n => exact .inl ⟨rfl, rfl⟩
theorem grown_loose {rows : List Rw} {old : Nat} {x : Rw} (g : Good rows) (L : Loose rows) (gn : Good (grown rows old x)) (ho : old < rows.length) (hx : rows[old]? = some x ∨ ∃ o, x = .mesh o old old) : Loose (grown rows old x) := by
  have main : ∀ s k r e, 1 ≤ s → r < rows.length → fin rows s k r = some e → (∃ k' e', fin (grown rows old x) s k' r = some e') ∧ (r = old → ∃ k' e', fin (grown rows old x) s k' rows.length = some e') := fun s k => by
    induction k with
    | zero =>
      intro r e _ _ h
      cases h
    | succ k ih =>
      intro r e hs hr h
      have first : (∃ k' e', fin (grown rows old x) s k' r = some e') := by
        rcases grown_step (s := s) (old := old) (x := x) hr with ⟨h1, h2⟩ | ⟨t, t', h1, h2, h3⟩
        · exact ⟨1, r, fin_stop h2⟩
        · rw [fin_step h1] at h
          obtain ⟨i1, i2⟩ := ih t e hs (step_lt g h1).2 h
          rcases h3 with h3 | ⟨h3, h4⟩
          · obtain ⟨k', e', q⟩ := i1
            exact ⟨k' + 1, e', by rw [fin_step h2, h3]; exact q⟩
          · obtain ⟨k', e', q⟩ := i2 h3
            exact ⟨k' + 1, e', by rw [fin_step h2, h4]; exact q⟩
      refine ⟨first, fun ro => ?_⟩
      rcases hx with hx | ⟨o, hx⟩
      · -- the new row is the old one again
        cases q : stepW rows s old with
        | none =>
          refine ⟨1, rows.length, fin_stop ?_⟩
          unfold stepW at q ⊢
          rw [hx] at q
          rw [grown_new]
          exact q
        | some t =>
          rw [ro, fin_step q] at h
          obtain ⟨⟨k', e', w⟩, _⟩ := ih t e hs (step_lt g q).2 h
          refine ⟨k' + 1, e', ?_⟩
          rw [fin_step (r' := t)]
          · exact w
          · unfold stepW at q ⊢
            rw [hx] at q
            rw [grown_new]
            exact q
      · obtain ⟨k', e', q⟩ := first
        refine ⟨k' + 1, e', ?_⟩
        rw [fin_step (r' := old)]
        · rw [ro] at q
          exact q
        · unfold stepW
          rw [grown_new, hx]
          show some (if s ≤ o then old else old) = some old
          split <;> rfl
  refine LooseX.to gn fun s r hs hr => ?_
  rw [grown_length] at hr
  by_cases h : r < rows.length
  · obtain ⟨e, he⟩ := L s r hs h
    exact (main s _ r e hs h he).1
  · have er : r = rows.length := by omega
    obtain ⟨e, he⟩ := L s old hs ho
    rw [er]
    exact (main s _ old e hs ho he).2 rfl
theorem grown_good {rows : List Rw} {m old : Nat} {x : Rw} (g : Gen rows m 4) (h1 : 1 ≤ m) (h2 : m ≤ 5) (hx : x.ok m) : Good (grown rows old x) := by
  refine ⟨by rw [grown_length]; omega, by rw [grown_length, g.len]; omega, fun r hr => ?_⟩
  rw [grown_length, g.len]
  unfold grown at hr
  (rcases List.mem_append.mp hr with hr | hr)
  · obtain ⟨y, hy, e⟩ := List.mem_map.mp hr
    have oy := g.ok y hy
    rw [← e, g.len]
    cases y with
    | mesh o u v =>
      unfold Rw.ok at oy
      refine ⟨oy.1, oy.2.1, ?_, by omega⟩
      show (if u = old then m else u) < m + 1
      split <;> omega
    | crush t =>
      have oy' : t < m := oy
      show (if t = old then m else t) < m + 1
      split <;> omega
    | bin n => exact oy
  · (rw [List.mem_singleton.mp hr])
    cases x with
    | mesh o u v =>
      unfold Rw.ok at hx
      exact ⟨hx.1, hx.2.1, by omega, by omega⟩
    | crush t =>
      have hx' : t < m := hx
      show t < m + 1
      omega
    | bin n => exact hx
theorem grown_crN {rows : List Rw} {old : Nat} {x : Rw} : crN (grown rows old x) ≤ crN rows + 1 := by
  unfold crN grown
  rw [List.filter_append, List.length_append]
  have a : ((rows.map (redir old rows.length)).filter Rw.isCrush).length = (rows.filter Rw.isCrush).length := by
    rw [List.filter_map, List.length_map]
    congr 1
    refine List.filter_congr fun y _ => ?_
    cases y <;> rfl
  have b : ([x].filter Rw.isCrush).length ≤ 1 := Nat.le_trans (List.length_filter_le _ _) (Nat.le_refl _)
  omega
/-! ### the rows in another order -/
def ren (names : List Nat) : Rw → Rw
  | .mesh o u v => .mesh o (names.getD u 0) (names.getD v 0)
  | .crush t => .crush (names.getD t 0)
  | .bin n => .bin n
structure Names (names : List Nat) (m : Nat) : Prop where
  len : names.length = m
  nd : names.Nodup
  lt : ∀ x ∈ names, x < m
theorem Names.has {names : List Nat} {m c : Nat} (N : Names names m) (hc : c < m) : c ∈ names := by
  refine Decidable.byContradiction fun z => ?_
  have q := len_le_of_sub (l := c :: names) (m := List.range m) (List.nodup_cons.mpr ⟨z, N.nd⟩) fun x hx => by
    rw [List.mem_range]
    (rcases List.mem_cons.mp hx with e | hx)
    · omega
    · exact N.lt x hx
  rw [List.length_cons, List.length_range, N.len] at q
  omega
theorem Names.at {names : List Nat} {m k : Nat} (N : Names names m) (hk : k < m) : names[k]? = some (names.getD k 0) ∧ names.getD k 0 < m := by
  have h : names[k]? = some (names[k]'(by rw [N.len]; exact hk)) := List.getElem?_eq_getElem (by rw [N.len]; exact hk)
  have e : names.getD k 0 = names[k]'(by rw [N.len]; exact hk) := by
    rw [List.getD_eq_getElem?_getD, h]
    rfl
  rw [e]
  exact ⟨h, N.lt _ (List.getElem_mem _)⟩
/-- made is rows under other names -/
structure Ren (rows made : List Rw) (names : List Nat) : Prop where
  len : made.length = rows.length
  at_ : ∀ (k : Nat) (y : Rw), rows[k]? = some y → made[names.getD k 0]? = some (ren names y)
theorem ren_back {rows made : List Rw} {names : List Nat} {m c : Nat} {x : Rw} (N : Names names m) (hm : rows.length = m) (R : Ren rows made names) (h : made[c]? = some x) : ∃ k y, rows[k]? = some y ∧ names.getD k 0 = c ∧ x = ren names y := by
  have hc := (List.getElem?_eq_some_iff.mp h).1
  rw [R.len, hm] at hc
  obtain ⟨k, hk, e⟩ := List.getElem_of_mem (N.has hc)
  rw [N.len] at hk
  have e2 : names.getD k 0 = c := by
    rw [List.getD_eq_getElem?_getD, List.getElem?_eq_getElem (by rw [N.len]; exact hk), e]
    rfl
  have q : rows[k]? = some (rows[k]'(by rw [hm]; exact hk)) := List.getElem?_eq_getElem (by rw [hm]; exact hk)
  refine ⟨k, _, q, e2, ?_⟩
  have w := R.at_ k _ q
  rw [e2, h] at w
  exact Option.some.inj w
theorem ren_gen {rows made : List Rw} {names : List Nat} {m top : Nat} (N : Names names m) (g : Gen rows m top) (R : Ren rows made names) : Gen made m top := by
  refine ⟨by rw [R.len, g.len], fun r hr => ?_, fun o ho => ?_, ?_⟩
  · obtain ⟨c, hc, e⟩ := List.getElem_of_mem hr
    obtain ⟨k, y, h1, h2, h3⟩ := ren_back N g.len R (show made[c]? = some r by rw [List.getElem?_eq_getElem hc, e])
    have oy := g.ok y (List.mem_of_getElem? h1)
    rw [h3]
    cases y with
    | mesh o u v =>
      unfold Rw.ok at oy
      exact ⟨oy.1, oy.2.1, (N.at oy.2.2.1).2, (N.at oy.2.2.2).2⟩
    | crush t => exact (N.at (show t < m from oy)).2
    | bin n => exact oy
  · obtain ⟨u, v, hm⟩ := mem_opens.mp ho
    obtain ⟨c, hc, e⟩ := List.getElem_of_mem hm
    obtain ⟨k, y, h1, h2, h3⟩ := ren_back N g.len R (show made[c]? = some _ by rw [List.getElem?_eq_getElem hc, e])
    cases y with
    | mesh o' u' v' =>
      have : o = o' := (Rw.mesh.inj h3).1
      rw [this]
      exact g.low o' (mem_opens.mpr ⟨u', v', List.mem_of_getElem? h1⟩)
    | crush t => cases h3
    | bin n => cases h3
  · rw [← crN_eq]
    have q := len_le_of_sub (l := crs made) (m := (crs rows).map fun k => names.getD k 0) (by
      unfold crs
      exact List.nodup_range.sublist (List.filter_sublist)) fun c hc => by
      obtain ⟨t, ht⟩ := mem_crs.mp hc
      obtain ⟨k, y, h1, h2, h3⟩ := ren_back N g.len R ht
      cases y with
      | mesh o u v => cases h3
      | crush t' => exact List.mem_map.mpr ⟨k, mem_crs.mpr ⟨t', h1⟩, h2⟩
      | bin n => cases h3
    rw [List.length_map, crN_eq rows] at q
    have := g.cr
    omega
theorem ren_step {rows made : List Rw} {names : List Nat} {m s r : Nat} (R : Ren rows made names) (hr : r < rows.length) :
    (stepW rows s r = none ∧ stepW made s (names.getD r 0) = none) ∨ ∃ t, stepW rows s r = some t ∧ stepW made s (names.getD r 0) = some (names.getD t 0) := by
  have e : rows[r]? = some rows[r] := List.getElem?_eq_getElem hr
  have e2 := R.at_ r _ e
  unfold stepW
  rw [e, e2]
  cases rows[r] with
  | mesh o u v =>
    refine .inr ⟨_, rfl, ?_⟩
    show some (if s ≤ o then names.getD u 0 else names.getD v 0) = some (names.getD (if s ≤ o then u else v) 0)
    split <;> rfl
  | crush t =>
    show ((if s = 1 then some t else none) = none ∧ (if s = 1 then some (names.getD t 0) else none) = none) ∨ ∃ t1, (if s = 1 then some t else none) = some t1 ∧ (if s = 1 then some (names.getD t 0) else none) = some (names.getD t1 0)
    by_cases z : s = 1
    · rw [if_pos z, if_pos z]
      exact .inr ⟨t, rfl, rfl⟩
    · rw [if_neg z, if_neg z]
      exact .inl ⟨rfl, rfl⟩
  | bin n => exact .inl ⟨rfl, rfl⟩
theorem ren_loose {rows made : List Rw} {names : List Nat} {m top : Nat} (h1 : 1 ≤ m) (h2 : m ≤ 6) (N : Names names m) (g : Gen rows m top) (L : Loose rows) (R : Ren rows made names) : Loose made := by
  have gg := g.good h1 h2
  have main : ∀ s k r e, r < rows.length → fin rows s k r = some e → ∃ e', fin made s k (names.getD r 0) = some e' := fun s k => by
    induction k with
    | zero =>
      intro r e _ h
      cases h
    | succ k ih =>
      intro r e hr h
      rcases ren_step (m := m) (s := s) R hr with ⟨a, b⟩ | ⟨t, a, b⟩
      · exact ⟨_, fin_stop b⟩
      · rw [fin_step a] at h
        obtain ⟨e', q⟩ := ih t e (step_lt gg a).2 h
        exact ⟨e', by rw [fin_step b]; exact q⟩
  refine LooseX.to ((ren_gen N g R).good h1 h2) fun s c hs hc => ?_
  have e : made[c]? = some made[c] := List.getElem?_eq_getElem hc
  obtain ⟨k, y, q1, q2, _⟩ := ren_back N g.len R e
  have hk := (List.getElem?_eq_some_iff.mp q1).1
  obtain ⟨e', he⟩ := L s k hs hk
  obtain ⟨e2, w⟩ := main s _ k e' hk he
  rw [q2] at w
  exact ⟨_, e2, w⟩
end Mw

set_option Elab.async false
set_option linter.all false
set_option maxRecDepth 100000
set_option maxHeartbeats 4000003
/-! Heaps in two layers, what values stand for, comprehensions. -/
namespace Mw
open PySem.Spec PyProof.Rows L2 LamX PySem
/-- what is known (G) stands in the heap (H), and no table of code is among it -/
def Sm (G H : Hp) : Prop := ∀ b o, G b = some o → H b = some o ∧ ∀ ps, o ≠ .tbl ps
theorem Sm.at {G H : Hp} (s : Sm G H) {b : Addr} {o : HO} (h : G b = some o) : H b = some o := (s b o h).1
theorem Sm.none {G H : Hp} (s : Sm G H) {b : Addr} (h : H b = none) : G b = none := by
  cases q : G b with
  | none => rfl
  | some o =>
    rw [s.at q] at h
    cases h
theorem Sm.pre {G G' H : Hp} (g : Same G G') (s : Sm G' H) : Sm G H := fun b o h => s b o (g b o h)
/-- a way from (G, H) to (G', H') -/
structure Sit (T : List (Addr × Str)) (G H G' H' : Hp) : Prop where
  hh : ExtN H H'
  hd : ∀ a, H' a = none → H a = none
  tb : Tabs T H → Tabs T H'
  gg : Same G G'
  gh : Sm G' H'
  nw : ∀ a, G a = none → G' a ≠ none → H a = none
section
variable {T : List (Addr × Str)} {G H G0 H0 G1 H1 G2 H2 : Hp}
theorem Sit.refl (h : Sm G H) : Sit T G H G H := ⟨ExtN.refl H, fun _ h => h, fun h => h, Same.refl G, h, fun a h1 h2 => absurd h1 h2⟩
theorem Sit.trans (a : Sit T G0 H0 G1 H1) (b : Sit T G1 H1 G2 H2) : Sit T G0 H0 G2 H2 :=
  ⟨a.hh.trans b.hh, fun x h => a.hd x (b.hd x h), fun h => b.tb (a.tb h), a.gg.trans b.gg, b.gh, fun x h1 h2 => by
    cases q : G1 x with
    | none => exact a.hd x (b.nw x q h2)
    | some o => exact a.nw x h1 (by rw [q]; exact Option.some_ne_none o)⟩
/-- what became known is forgotten -/
theorem Sit.drop (a : Sit T G0 H0 G1 H1) : Sit T G0 H0 G0 H1 := ⟨a.hh, a.hd, a.tb, Same.refl _, a.gh.pre a.gg, fun x h1 h2 => absurd h1 h2⟩
theorem Sit.sub (a : Sit T G0 H0 G1 H1) (g : Same G0 G2) (g2 : Same G2 G1) : Sit T G0 H0 G2 H1 := ⟨a.hh, a.hd, a.tb, g, a.gh.pre g2, fun x h1 h2 => a.nw x h1 (by
  cases q : G2 x with
  | none => exact absurd q h2
  | some o =>
    rw [g2 x o q]
    exact Option.some_ne_none o)⟩
theorem same_new {H : Hp} {p : Addr} {o : HO} (h : H p = none) : Same H (upd H p o) := fun b u e => by
  rw [upd_ne (ne_of_none e h)]
  exact e
/-- a new object, known from now on -/
theorem Sit.new (s : Sm G H) {p : Addr} {o : HO} (hp : H p = none) (ho : ∀ ps, o ≠ .tbl ps) : Sit T G H (upd G p o) (upd H p o) := by
  refine ⟨ExtN.of (same_new hp), fun a h => ?_, fun t => t.ext (same_new hp), same_new (s.none hp), fun b u e => ?_, fun a h1 h2 => ?_⟩
  · by_cases z : a = p
    · rw [z]
      exact hp
    · rw [upd_ne z] at h
      exact h
  · by_cases z : b = p
    · rw [z, upd_same] at e
      cases e
      rw [z]
      exact ⟨upd_same, ho⟩
    · rw [upd_ne z] at e
      rw [upd_ne z]
      exact s b u e
  · by_cases z : a = p
    · rw [z]
      exact hp
    · rw [upd_ne z] at h2
      exact absurd h1 h2
/-- a new object that will be changed -/
theorem Sit.cell (s : Sm G H) {p : Addr} {o : HO} (hp : H p = none) (ho : ∀ ps, o ≠ .tbl ps) : Sit T G H G (upd H p o) := (Sit.new s hp ho).drop
/-- an object that may be changed: neither a table nor told by a property -/
def Plain : HO → Prop
  | .tbl _ => False
  | .ext _ => False
  | _ => True
/-- a cell stays a cell -/
theorem Sit.kept (a : Sit T G H G1 H1) {l : Addr} {o : HO} (hG : G l = none) (hl : H l = some o) (ho : Plain o) : G1 l = none ∧ H1 l = some o := by
  refine ⟨?_, a.hh l o hl fun ps z => by rw [z] at ho; exact ho⟩
  cases q : G1 l with
  | none => rfl
  | some u =>
    have := a.nw l hG (by rw [q]; exact Option.some_ne_none u)
    rw [hl] at this
    cases this
/-- a cell is changed -/
theorem Sit.mut (a : Sit T G0 H0 G H) {l : Addr} {o u : HO} (h0 : H0 l = none) (hG : G l = none) (hl : H l = some o) (ho : Plain o) : Sit T G0 H0 G (upd H l u) := by
  refine ⟨fun b x e n => ?_, fun b h => ?_, fun t => ?_, a.gg, fun b x e => ?_, a.nw⟩
  · rw [upd_ne (ne_of_none e h0)]
    exact a.hh b x e n
  · by_cases z : b = l
    · rw [z]
      exact h0
    · rw [upd_ne z] at h
      exact a.hd b h
  · intro q hq
    obtain ⟨ps, e1, e2, e3⟩ := a.tb t q hq
    have n1 : q.1 ≠ l := fun z => by
      rw [z, hl] at e1
      cases e1
      exact ho
    refine ⟨ps, by rw [upd_ne n1]; exact e1, e2, fun pos cv hc => ?_⟩
    obtain ⟨c, f1, f2⟩ := e3 pos cv hc
    have n2 : c ≠ l := fun z => by
      rw [z, hl] at f2
      unfold CodeO at f2
      cases f2
      exact ho
    exact ⟨c, f1, by rw [upd_ne n2]; exact f2⟩
  · rw [upd_ne (ne_of_none e hG)]
    exact a.gh b x e
/-- a cell is known from now on -/
theorem Sit.own (a : Sit T G0 H0 G H) {l : Addr} {o : HO} (h0 : H0 l = none) (hG : G l = none) (hl : H l = some o) (ho : Plain o) : Sit T G0 H0 (upd G l o) H := by
  refine ⟨a.hh, a.hd, a.tb, a.gg.trans (same_new hG), fun b x e => ?_, fun b h1 h2 => ?_⟩
  · by_cases z : b = l
    · rw [z, upd_same] at e
      cases e
      rw [z]
      exact ⟨hl, fun ps z => by rw [z] at ho; exact ho⟩
    · rw [upd_ne z] at e
      exact a.gh b x e
  · by_cases z : b = l
    · rw [z]
      exact h0
    · rw [upd_ne z] at h2
      exact a.nw b h1 h2
theorem Sit.fresh (a : Sit T G H G1 H1) {l : Addr} (h : H1 l = none) : H l = none := a.hd l h
end
/-! ### what values stand for -/
abbrev Rel (α : Type) := α → V → Hp → Prop
class Up {α : Type} (R : Rel α) : Prop where
  up : ∀ {x : α} {v : V} {G G' : Hp}, Same G G' → R x v G → R x v G'
def IntR : Rel Int := fun i v _ => v = .int i
def NatR : Rel Nat := fun i v _ => v = .int (i : Int)
def BoolR : Rel Bool := fun b v _ => v = .bl b
/-- a tuple of such values -/
def TupR : Rel (List V) := fun xs v G => ∃ a, v = .ref a ∧ G a = some (.tup xs)
def IntsR : Rel (List Int) := fun xs v G => ∃ a, v = .ref a ∧ G a = some (.lst (xs.map V.int))
structure AllR {α : Type} (R : Rel α) (xs : List α) (vs : List V) (G : Hp) : Prop where
  len : vs.length = xs.length
  at_ : ∀ (i : Nat) (x : α) (v : V), xs[i]? = some x → vs[i]? = some v → R x v G
def LstR {α : Type} (R : Rel α) : Rel (List α) := fun xs v G => ∃ a vs, v = .ref a ∧ G a = some (.lst vs) ∧ AllR R xs vs G
instance : Up IntR := ⟨fun _ h => h⟩
instance : Up NatR := ⟨fun _ h => h⟩
instance : Up BoolR := ⟨fun _ h => h⟩
instance : Up TupR := ⟨fun g ⟨a, e, h⟩ => ⟨a, e, g _ _ h⟩⟩
instance : Up IntsR := ⟨fun g ⟨a, e, h⟩ => ⟨a, e, g _ _ h⟩⟩
section
variable {α : Type} {R : Rel α} {xs : List α} {vs : List V} {G G' : Hp}
theorem AllR.up [Up R] (g : Same G G') (h : AllR R xs vs G) : AllR R xs vs G' := ⟨h.len, fun i x v e1 e2 => Up.up g (h.at_ i x v e1 e2)⟩
instance [Up R] : Up (LstR R) := ⟨fun g ⟨a, vs, e, h, r⟩ => ⟨a, vs, e, g _ _ h, r.up g⟩⟩
theorem AllR.nil : AllR R [] [] G := ⟨rfl, fun i x v e => by simp at e⟩
theorem AllR.snoc (h : AllR R xs vs G) {x : α} {v : V} (r : R x v G) : AllR R (xs ++ [x]) (vs ++ [v]) G := by
  refine ⟨by rw [List.length_append, List.length_append, h.len]; rfl, fun i y u e1 e2 => ?_⟩
  by_cases hi : i < xs.length
  · rw [List.getElem?_append_left hi] at e1
    rw [List.getElem?_append_left (by rw [h.len]; exact hi)] at e2
    exact h.at_ i y u e1 e2
  · have hl := (List.getElem?_eq_some_iff.mp e1).1
    (rw [List.length_append, List.length_singleton] at hl)
    have ei : i = xs.length := by omega
    subst ei
    rw [List.getElem?_append_right (Nat.le_refl _), Nat.sub_self] at e1
    rw [← h.len, List.getElem?_append_right (Nat.le_refl _), Nat.sub_self] at e2
    cases e1
    cases e2
    exact r
theorem AllR.get (h : AllR R xs vs G) {i : Nat} {x : α} (e : xs[i]? = some x) : ∃ v, vs[i]? = some v ∧ R x v G := by
  have hi := (List.getElem?_eq_some_iff.mp e).1
  have hv : vs[i]? = some (vs[i]'(by rw [h.len]; exact hi)) := List.getElem?_eq_getElem (by rw [h.len]; exact hi)
  exact ⟨_, hv, h.at_ i x _ e hv⟩
theorem AllR.back (h : AllR R xs vs G) {i : Nat} {v : V} (e : vs[i]? = some v) : ∃ x, xs[i]? = some x ∧ R x v G := by
  have hi := (List.getElem?_eq_some_iff.mp e).1
  rw [h.len] at hi
  exact ⟨_, List.getElem?_eq_getElem hi, h.at_ i _ v (List.getElem?_eq_getElem hi) e⟩
theorem AllR.app {ys : List α} {us : List V} (h : AllR R xs vs G) (h' : AllR R ys us G) : AllR R (xs ++ ys) (vs ++ us) G := by
  refine ⟨by rw [List.length_append, List.length_append, h.len, h'.len], fun i y u e1 e2 => ?_⟩
  by_cases hi : i < xs.length
  · rw [List.getElem?_append_left hi] at e1
    rw [List.getElem?_append_left (by rw [h.len]; exact hi)] at e2
    exact h.at_ i y u e1 e2
  · rw [List.getElem?_append_right (by omega)] at e1
    rw [List.getElem?_append_right (by rw [h.len]; omega), h.len] at e2
    exact h'.at_ _ y u e1 e2
theorem AllR.set (h : AllR R xs vs G) {j : Nat} {x : α} {v : V} (r : R x v G) : AllR R (xs.set j x) (vs.set j v) G := by
  refine ⟨by rw [List.length_set, List.length_set, h.len], fun i y u e1 e2 => ?_⟩
  rw [List.getElem?_set] at e1 e2
  by_cases hi : j = i
  · rw [if_pos hi] at e1 e2
    split at e1
    · split at e2
      · cases e1
        cases e2
        exact r
      · cases e2
    · cases e1
  · rw [if_neg hi] at e1 e2
    exact h.at_ i y u e1 e2
theorem AllR.drop1 {x : α} {v : V} (h : AllR R (x :: xs) (v :: vs) G) : R x v G ∧ AllR R xs vs G :=
  ⟨h.at_ 0 x v rfl rfl, by have := h.len; simp at this; exact this, fun i y u e1 e2 => h.at_ (i + 1) y u e1 e2⟩
theorem AllR.ints {ns : List Int} {vs : List V} (h : AllR IntR ns vs G) : vs = ns.map V.int := by
  refine List.ext_getElem? fun i => ?_
  rw [List.getElem?_map]
  cases e : ns[i]? with
  | none =>
    show vs[i]? = none
    rw [List.getElem?_eq_none_iff] at e ⊢
    rw [h.len]
    exact e
  | some x =>
    obtain ⟨v, hv, r⟩ := h.get e
    rw [hv, show v = .int x from r]
    rfl
theorem AllR.of_ints {ns : List Int} : AllR IntR ns (ns.map V.int) G := ⟨by rw [List.length_map], fun i x v e1 e2 => by
  rw [List.getElem?_map, e1] at e2
  exact (Option.some.inj e2).symm⟩
theorem LstR.ints {ns : List Int} {v : V} (h : LstR IntR ns v G) : IntsR ns v G := by
  obtain ⟨a, vs, e, h, r⟩ := h
  rw [r.ints] at h
  exact ⟨a, e, h⟩
theorem IntsR.lst {ns : List Int} {v : V} (h : IntsR ns v G) : LstR IntR ns v G := by
  obtain ⟨a, e, h⟩ := h
  exact ⟨a, _, e, h, AllR.of_ints⟩
theorem ints_at {ns : List Int} {i : Nat} {z : Int} (h : ns[i]? = some z) : (ns.map V.int)[i]? = some (.int z) := by
  rw [List.getElem?_map, h]
  rfl
end
/-! ### rows and works -/
def rowV : Rw → List V
  | .mesh o u v => [.str "mesh", .int (o : Int), .int (u : Int), .int (v : Int)]
  | .crush t => [.str "crush", .int (t : Int)]
  | .bin n => [.str "bin", .int (n : Int)]
def RowR : Rel Rw := fun r v G => TupR (rowV r) v G
instance : Up RowR := ⟨fun g h => Up.up (R := TupR) g h⟩
structure Wk where
  p : Nat
  rows : List Rw
def WkR (C : Addr) : Rel Wk := fun W v G => ∃ a dx l vs, v = .ref a ∧ G a = some (.ins C dx [("parts", .int (W.p : Int)), ("rows", .ref l)]) ∧ G l = some (.lst vs) ∧ AllR RowR W.rows vs G
instance {C : Addr} : Up (WkR C) := ⟨fun g ⟨a, dx, l, vs, e, h1, h2, r⟩ => ⟨a, dx, l, vs, e, g _ _ h1, g _ _ h2, r.up g⟩⟩
/-! ### what an expression gives -/
def EvR (T : List (Addr × Str)) {α : Type} (te : TE) (σ : L2.St) (G : Hp) (R : Rel α) (x : α) : Prop := ∀ H, Sm G H → ∀ Q : VK, (∀ v G' H', Sit T G H G' H' → R x v G' → Q v H') → te σ H Q
def EvB (T : List (Addr × Str)) (tt : TT) (σ : L2.St) (G : Hp) (b : Bool) : Prop := ∀ H, Sm G H → ∀ Q : Bool → Hp → Prop, (∀ H', Sit T G H G H' → Q b H') → tt σ H Q
section
variable {T : List (Addr × Str)} {σ : L2.St} {G G1 H H1 : Hp} {te : TE} {tt : TT}
/-- two known parts of one heap, together -/
def both (G1 G2 : Hp) : Hp := fun a => match G1 a with
  | some o => some o
  | none => G2 a
theorem Sit.both {G' H' : Hp} (g : Same G G1) (s : Sm G1 H) (a : Sit T G H G' H') : Sit T G1 H (Mw.both G1 G') H' ∧ Same G' (Mw.both G1 G') := by
  have g2 : Same G' (Mw.both G1 G') := fun b o e => by
    unfold Mw.both
    cases q : G1 b with
    | none => exact e
    | some u =>
      have h1 := a.hh b u (s b u q).1 (s b u q).2
      rw [(a.gh b o e).1] at h1
      exact h1.symm
  refine ⟨⟨a.hh, a.hd, a.tb, fun b o e => by unfold Mw.both; rw [e], fun b o e => ?_, fun b h1 h2 => ?_⟩, g2⟩
  · unfold Mw.both at e
    cases q : G1 b with
    | none =>
      rw [q] at e
      exact a.gh b o e
    | some u =>
      rw [q] at e
      have e : some u = some o := e
      cases e
      exact ⟨a.hh b o (s b o q).1 (s b o q).2, (s b o q).2⟩
  · unfold Mw.both at h2
    rw [h1] at h2
    refine a.nw b ?_ h2
    cases q : G b with
    | none => rfl
    | some u =>
      rw [g b u q] at h1
      cases h1
theorem EvR.up {α : Type} {R : Rel α} [Up R] {x : α} (h : EvR T te σ G R x) (g : Same G G1) : EvR T te σ G1 R x := fun H s Q k =>
  h H (s.pre g) Q fun v G' H' a r => by
    obtain ⟨b1, b2⟩ := Sit.both g s a
    exact k v _ H' b1 (Up.up b2 r)
theorem EvB.up {b : Bool} (h : EvB T tt σ G b) (g : Same G G1) : EvB T tt σ G1 b := fun H s Q k =>
  h H (s.pre g) Q fun H' a => by
    obtain ⟨b1, _⟩ := Sit.both g s a
    exact k H' b1.drop
end
theorem small_line {n : Nat} (h : n ≤ 100000) : n < sizeLine := Nat.lt_of_le_of_lt h (by decide)
theorem small_le {n : Nat} (h : n ≤ 100000) : n ≤ sizeLine := Nat.le_of_lt (small_line h)
/-! ### comprehensions -/
section
variable {T : List (Addr × Str)} {K : PySem.W.Frag} {σ : L2.St} {G H1 : Hp} {g : TG} {tt : TT} {te : TE} {ws : List Nat} {β : Type} {S : Rel β} [Up S] {Q : Addr → Hp → Prop}
theorem comp_it {J : It} {n : Nat} {Gp : Hp → Prop} {Y : Nat → Hp → V → Hp → Prop} (w : Walk J n Gp Y) (val : Nat → V) (τ : Nat → L2.St) (f : Nat → Bool) (ys : Nat → List β) (hGH : Sm G H1) (hn : n ≤ 100000)
    (hp : ∀ H, Sm G H → Gp H) (hy : ∀ i H x H', i < n → Y i H x H' → H' = H ∧ x = val i) (hg : ∀ i, i < n → ∀ H, Sm G H → ∀ Q : L2.St → Hp → Prop, Q (τ i) H → g (val i) (wipe σ ws) H Q) (hw : ∀ i, i < n → wipe (τ i) ws = wipe σ ws)
    (ht : ∀ i, i < n → EvB T tt (τ i) G (f i)) (y0 : ys 0 = []) (he : ∀ i, i < n → f i = true → ∃ y, EvR T te (τ i) G S y ∧ ys (i + 1) = ys i ++ [y]) (hno : ∀ i, i < n → f i = false → ys (i + 1) = ys i)
    (hq : ∀ D G' H', Sit T G H1 G' H' → H1 D = none → LstR S (ys n) (.ref D) G' → Q D H') :
    ∀ D, H1 D = none → ∃ W : Nat → Nat → Hp → Prop, (∃ m, W 0 m (upd H1 D (.lst []))) ∧ ∀ i m H, W i m H →
      (J.stop i H ∧ Q D H) ∨ (J.go i H ∧ ∃ Nx : Hp → Prop, (∀ H', Nx H' → ∃ m', m' < m ∧ W (i + 1) m' H') ∧ ∀ x H', J.yld i H x H' → g x (wipe σ ws) H' fun σ2 H2 => wipe σ2 ws = wipe σ ws ∧ tt σ2 H2 fun b H3 =>
        if b = true then te σ2 H3 fun yv H4 => ∃ acc, H4 D = some (.lst acc) ∧ acc.length < sizeLine ∧ Nx (upd H4 D (.lst (acc ++ [yv]))) else Nx H3) := by
  intro D hD
  have nl : ∀ xs ps, (HO.lst xs) ≠ .tbl ps := fun xs ps z => by cases z
  refine lc_it w (fun i H => ∃ G' acc, Sit T G H1 G' H ∧ G' D = none ∧ H D = some (.lst acc) ∧ AllR S (ys i) acc G' ∧ acc.length ≤ i) ⟨G, [], Sit.cell hGH hD (nl _), hGH.none hD, upd_same, by rw [y0]; exact AllR.nil, Nat.le_refl _⟩
    (fun i H _ ⟨G', acc, a, _⟩ => hp H (a.gh.pre a.gg)) ?_ ?_
  · rintro i x H H' hi ⟨G', acc, a, hG', hl, r, len⟩ hy'
    obtain ⟨rfl, rfl⟩ := hy i H x H' hi hy'
    refine hg i hi H' (a.gh.pre a.gg) _ ⟨hw i hi, ?_⟩
    refine (ht i hi).up a.gg H' a.gh _ fun H3 a3 => ?_
    have k3 := a3.kept hG' hl trivial
    cases hf : f i with
    | true =>
      show te (τ i) H3 fun y H4 => ∃ acc, H4 D = some (.lst acc) ∧ acc.length < sizeLine ∧ _
      obtain ⟨y, ev, ey⟩ := he i hi hf
      refine ev.up (a.trans a3).gg H3 (a.trans a3).gh _ fun v G4 H4 a4 rv => ?_
      have k4 := a4.kept k3.1 k3.2 trivial
      have at4 := (a.trans a3).trans a4
      refine ⟨acc, k4.2, small_line (by omega), G4, acc ++ [v], at4.mut hD k4.1 k4.2 trivial, k4.1, upd_same, ?_, by rw [List.length_append, List.length_singleton]; omega⟩
      rw [ey]
      exact (r.up a4.gg).snoc rv
    | false =>
      show ∃ G' acc, _
      exact ⟨G', acc, a.trans a3, hG', k3.2, by rw [hno i hi hf]; exact r, by omega⟩
  · rintro H ⟨G', acc, a, hG', hl, r, len⟩
    exact hq D (upd G' D (.lst acc)) H (a.own hD hG' hl trivial) hD ⟨D, acc, rfl, upd_same, r.up (same_new hG')⟩
/-- over a range -/
theorem comp_range {lo : Int} {n j : Nat} (f : Nat → Bool) (e : Nat → β) (hGH : Sm G H1) (hn : n ≤ 100000) (hw : ∀ x, wipe ((wipe σ ws).set j (some x)) ws = wipe σ ws)
    (ht : ∀ i, i < n → EvB T tt ((wipe σ ws).set j (some (.int (lo + (i : Int))))) G (f i)) (he : ∀ i, i < n → f i = true → EvR T te ((wipe σ ws).set j (some (.int (lo + (i : Int))))) G S (e i))
    (hq : ∀ D G' H', Sit T G H1 G' H' → H1 D = none → LstR S (((List.range n).filter f).map e) (.ref D) G' → Q D H') :
    ∀ D, H1 D = none → ∃ W : Nat → Nat → Hp → Prop, (∃ m, W 0 m (upd H1 D (.lst []))) ∧ ∀ i m H, W i m H →
      ((Itr lo n).stop i H ∧ Q D H) ∨ ((Itr lo n).go i H ∧ ∃ Nx : Hp → Prop, (∀ H', Nx H' → ∃ m', m' < m ∧ W (i + 1) m' H') ∧ ∀ x H', (Itr lo n).yld i H x H' → gName j x (wipe σ ws) H' fun σ2 H2 => wipe σ2 ws = wipe σ ws ∧ tt σ2 H2 fun b H3 =>
        if b = true then te σ2 H3 fun yv H4 => ∃ acc, H4 D = some (.lst acc) ∧ acc.length < sizeLine ∧ Nx (upd H4 D (.lst (acc ++ [yv]))) else Nx H3) := by
  have er : ∀ i, List.range (i + 1) = List.range i ++ [i] := fun i => List.range_succ
  refine comp_it (T := T) (S := S) (g := gName j) walk_range (fun i => .int (lo + (i : Int))) (fun i => (wipe σ ws).set j (some (.int (lo + (i : Int))))) f (fun i => ((List.range i).filter f).map e) hGH hn (fun _ _ => trivial) (fun i H x H' _ y => y) (fun i _ H _ Q q => q) (fun i _ => hw _) ht rfl
    (fun i hi hf => ⟨e i, he i hi hf, ?_⟩) (fun i hi hf => ?_) hq
  · rw [er, List.filter_append, List.map_append, List.filter_cons, if_pos hf]
    rfl
  · rw [er, List.filter_append, List.map_append, List.filter_cons, if_neg (by rw [hf]; decide)]
    exact List.append_nil _
/-- over a list, the target any -/
theorem comp_listG {α : Type} {R : Rel α} {a : Addr} {xs : List α} {vs : List V} (τ : α → V → L2.St) (f : α → Bool) (e : α → β) (hGH : Sm G H1) (ha : G a = some (.lst vs)) (hr : AllR R xs vs G) (hn : xs.length ≤ 100000)
    (hg : ∀ (i : Nat) (x : α) (v : V), xs[i]? = some x → vs[i]? = some v → R x v G → ∀ H, Sm G H → ∀ Q : L2.St → Hp → Prop, Q (τ x v) H → g v (wipe σ ws) H Q) (hw : ∀ x v, wipe (τ x v) ws = wipe σ ws)
    (ht : ∀ (i : Nat) (x : α) (v : V), xs[i]? = some x → vs[i]? = some v → R x v G → EvB T tt (τ x v) G (f x)) (he : ∀ (i : Nat) (x : α) (v : V), xs[i]? = some x → vs[i]? = some v → R x v G → f x = true → EvR T te (τ x v) G S (e x))
    (hq : ∀ D G' H', Sit T G H1 G' H' → H1 D = none → LstR S ((xs.filter f).map e) (.ref D) G' → Q D H') :
    ∀ D, H1 D = none → ∃ W : Nat → Nat → Hp → Prop, (∃ m, W 0 m (upd H1 D (.lst []))) ∧ ∀ i m H, W i m H →
      ((Itl K a).stop i H ∧ Q D H) ∨ ((Itl K a).go i H ∧ ∃ Nx : Hp → Prop, (∀ H', Nx H' → ∃ m', m' < m ∧ W (i + 1) m' H') ∧ ∀ x H', (Itl K a).yld i H x H' → g x (wipe σ ws) H' fun σ2 H2 => wipe σ2 ws = wipe σ ws ∧ tt σ2 H2 fun b H3 =>
        if b = true then te σ2 H3 fun yv H4 => ∃ acc, H4 D = some (.lst acc) ∧ acc.length < sizeLine ∧ Nx (upd H4 D (.lst (acc ++ [yv]))) else Nx H3) := by
  have at_ : ∀ i, i < vs.length → ∃ x v, xs[i]? = some x ∧ vs[i]? = some v ∧ R x v G := fun i hi => by
    have hv : vs[i]? = some vs[i] := List.getElem?_eq_getElem hi
    obtain ⟨x, hx, r⟩ := hr.back hv
    exact ⟨x, _, hx, hv, r⟩
  -- the i-th item, its state
  let st : Nat → L2.St := fun i => match xs[i]?, vs[i]? with
    | some x, some v => τ x v
    | _, _ => σ
  let ok : Nat → Bool := fun i => match xs[i]? with
    | some x => f x
    | none => false
  have st_at : ∀ (i : Nat) (x : α) (v : V), xs[i]? = some x → vs[i]? = some v → st i = τ x v := fun i x v h1 h2 => by
    show (match xs[i]?, vs[i]? with | some x, some v => τ x v | _, _ => σ) = τ x v
    rw [h1, h2]
  have ok_at : ∀ (i : Nat) (x : α), xs[i]? = some x → ok i = f x := fun i x h1 => by
    show (match xs[i]? with | some x => f x | none => false) = f x
    rw [h1]
  refine comp_it (T := T) (S := S) (g := g) (walk_list (K := K) (a := a) (xs := vs)) (fun i => (vs[i]?).getD .non) st ok (fun i => ((xs.take i).filter f).map e) hGH (by rw [hr.len]; exact hn) (fun H s => SqL.of (s.at ha)) (fun i H x H' hi y => ⟨y.1, ?_⟩) (fun i hi H s Q q => ?_) (fun i hi => ?_) (fun i hi => ?_) rfl (fun i hi hf => ?_) (fun i hi hf => ?_) (fun D G' H' a n r => hq D G' H' a n ?_)
  · rw [y.2]
    rfl
  · obtain ⟨x, v, h1, h2, r⟩ := at_ i hi
    rw [st_at i x v h1 h2] at q
    rw [h2]
    exact hg i x v h1 h2 r H s Q q
  · obtain ⟨x, v, h1, h2, r⟩ := at_ i hi
    rw [st_at i x v h1 h2]
    exact hw x v
  · obtain ⟨x, v, h1, h2, r⟩ := at_ i hi
    rw [st_at i x v h1 h2, ok_at i x h1]
    exact ht i x v h1 h2 r
  · obtain ⟨x, v, h1, h2, r⟩ := at_ i hi
    rw [ok_at i x h1] at hf
    refine ⟨e x, ?_, ?_⟩
    · rw [st_at i x v h1 h2]
      exact he i x v h1 h2 r hf
    · rw [take_succ_at h1, List.filter_append, List.map_append, List.filter_cons, if_pos hf]
      rfl
  · obtain ⟨x, v, h1, h2, r⟩ := at_ i hi
    rw [ok_at i x h1] at hf
    rw [take_succ_at h1, List.filter_append, List.map_append, List.filter_cons, if_neg (by rw [hf]; decide)]
    exact List.append_nil _
  · rw [hr.len, List.take_length] at r
    exact r
/-- over a list, the target a name -/
theorem comp_list {α : Type} {R : Rel α} {a : Addr} {xs : List α} {vs : List V} {j : Nat} (f : α → Bool) (e : α → β) (hGH : Sm G H1) (ha : G a = some (.lst vs)) (hr : AllR R xs vs G) (hn : xs.length ≤ 100000) (hw : ∀ x, wipe ((wipe σ ws).set j (some x)) ws = wipe σ ws)
    (ht : ∀ (i : Nat) (x : α) (v : V), xs[i]? = some x → vs[i]? = some v → R x v G → EvB T tt ((wipe σ ws).set j (some v)) G (f x)) (he : ∀ (i : Nat) (x : α) (v : V), xs[i]? = some x → vs[i]? = some v → R x v G → f x = true → EvR T te ((wipe σ ws).set j (some v)) G S (e x))
    (hq : ∀ D G' H', Sit T G H1 G' H' → H1 D = none → LstR S ((xs.filter f).map e) (.ref D) G' → Q D H') :
    ∀ D, H1 D = none → ∃ W : Nat → Nat → Hp → Prop, (∃ m, W 0 m (upd H1 D (.lst []))) ∧ ∀ i m H, W i m H →
      ((Itl K a).stop i H ∧ Q D H) ∨ ((Itl K a).go i H ∧ ∃ Nx : Hp → Prop, (∀ H', Nx H' → ∃ m', m' < m ∧ W (i + 1) m' H') ∧ ∀ x H', (Itl K a).yld i H x H' → gName j x (wipe σ ws) H' fun σ2 H2 => wipe σ2 ws = wipe σ ws ∧ tt σ2 H2 fun b H3 =>
        if b = true then te σ2 H3 fun yv H4 => ∃ acc, H4 D = some (.lst acc) ∧ acc.length < sizeLine ∧ Nx (upd H4 D (.lst (acc ++ [yv]))) else Nx H3) :=
  comp_listG (T := T) (S := S) (K := K) (fun _ v => (wipe σ ws).set j (some v)) f e hGH ha hr hn (fun i x v _ _ _ H _ Q q => q) (fun _ _ => hw _) ht he hq
theorem eb_yes : EvB T tYes σ G true := fun H s Q k => k H (Sit.refl s)
theorem filter_yes {α β : Type} (e : α → β) (xs : List α) : ((xs.filter fun _ => true).map e) = xs.map e := by
  rw [List.filter_eq_self.mpr fun _ _ => rfl]
end
end Mw

set_option Elab.async false
set_option linter.all false
set_option maxRecDepth 100000
set_option maxHeartbeats 4000003
/-! The text by places, defs by their promises, what the module's names hold. -/
namespace Mw
open PySem.Spec PyProof.Rows L2 LamX PySem
def topS (i : Nat) : Stmt := PySem.Challenge.pw_meshworks_k50_whole_least_papers.main.body.getD i (.Pass ⟨0, 0, 0, 0⟩)
/-- a def of the module that keeps a promise -/
structure Has (P : Program) (w : World) (K : PySem.W.Frag) (mg : Str → Option Value) (base : Heap) (x : Str) (ps : List Str) (k : Nat) (sp : Sp) : Prop where
  ex : ∃ (f : Addr) (fd : FuncData), mg x = some (.ref f) ∧ PySem.W.keepIn K (.ref f) = true ∧ Binds K fd ps [] ∧ FnOk P w K mg base CX0 k f fd ps sp
section
variable {X : Cx} {e : Expr} {es : List Expr} {t : TA} {p pos : Pos}
theorem pe_def {x : Str} {ps : List Str} {k m : Nat} {sp : Sp} (h : Has X.prog X.w X.K X.mg X.base x ps k sp) (hr : Room m X.A) (hk : k ≤ m) (hg : Gl X x) (ha : PA X (e :: es) t) (hdb : (x == ("__debug__" : Str)) = false := by decide)
    (he : starEach (e :: es) X.env = (false, eval e X.env) :: starEach es X.env := by rfl) (hpl : (backTo pos (starEach es X.env)).any (·.1) = false := by rfl) : PE X (.Call (.Name x p) (e :: es) [] pos) (tCall sp [] E0 t) := by
  obtain ⟨f, fd, h1, h2, h3, h4⟩ := h.ex
  exact pe_call h4 (hr.mono hk) hg h1 h2 h3 .nil pass0 ha hdb he hpl
/-- a constant of the module -/
def CstI (mg : Str → Option Value) (x : Str) (i : Int) : Prop := ∃ t, mg x = some (.int i t)
theorem pe_cst {x : Str} {i : Int} (h : CstI X.mg x i) (hg : Gl X x := by rfl) (hd : (x == ("__debug__" : Str)) = false := by decide) : PE X (.Name x pos) (tC (.int i)) := by
  obtain ⟨t, h⟩ := h
  exact pe_glob hg h ⟨t, rfl⟩ hd
end
/-! ### the rules with the written part told -/
section
variable {X : Cx} {e a b : Expr} {es : List Expr} {te ta tb : TE} {t : TA} {p pos : Pos}
theorem ixL (K : PySem.W.Frag) (h : X.K = K := by rfl) : IxR X (rIxL K) := h ▸ ix_list
theorem ixT (K : PySem.W.Frag) (h : X.K = K := by rfl) : IxR X (rIxT K) := h ▸ ix_tup
theorem slL (K : PySem.W.Frag) (h : X.K = K := by rfl) : SlR X (rSlL K) := h ▸ sl_list
theorem fldK (K : PySem.W.Frag) {f : Str} (he : PE X e te) (h : X.K = K := by rfl) (hb : attributeBase e f X.env (eval e X.env) = eval e X.env := by rfl) : PE X (.Attribute e f pos) (tFld K te f) := h ▸ pe_fld he hb
def rLen (K : PySem.W.Frag) : List V → Hp → VK → Prop := fun xs H Q => ∃ p ys, xs = [.ref p] ∧ (SqL K H p ys ∨ SqT K H p ys) ∧ Q (.int ys.length) H
theorem lenK (K : PySem.W.Frag) (h : X.K = K := by rfl) : CallR X (.builtin "len") (rLen K) := h ▸ call_len_seq
theorem eqK (K : PySem.W.Frag) (hu : X.A.units + 64 < cLine) (h : X.K = K := by rfl) : OpR X (compareOp .Eq) (rEqD K) := h ▸ op_eqD hu
theorem neK (K : PySem.W.Frag) (hu : X.A.units + 64 < cLine) (h : X.K = K := by rfl) : OpR X (compareOp .NotEq) (rNeD K) := h ▸ op_neD hu
theorem inK (K : PySem.W.Frag) (h : X.K = K := by rfl) : OpR X (compareOp .In) (rIn K false) := h ▸ op_in_seq
theorem ninK (K : PySem.W.Frag) (h : X.K = K := by rfl) : OpR X (compareOp .NotIn) (rIn K true) := h ▸ op_notIn_seq
theorem itL (K : PySem.W.Frag) {tg : Expr} (hl : PE X e te) (h : X.K = K := by rfl) : PI X tg e (iList K te) := h ▸ pi_list hl
theorem itT (K : PySem.W.Frag) {tg : Expr} (hl : PE X e te) (h : X.K = K := by rfl) : PI X tg e (iTup K te) := h ▸ pi_tup hl
def rListOf (K : PySem.W.Frag) : List V → Hp → VK → Prop := fun xs H Q => ∃ p ys, xs = [.ref p] ∧ (SqL K H p ys ∨ SqT K H p ys) ∧ ∀ l, H l = none → Q (.ref l) (upd H l (.lst ys))
theorem listK (K : PySem.W.Frag) (h : X.K = K := by rfl) : CallR X (.type "list") (rListOf K) := h ▸ call_list_of
theorem maxK (K : PySem.W.Frag) (h : X.K = K := by rfl) (hc : X.calm = true := by rfl) : CallR X (.builtin "max") (rMax K) := h ▸ cr_max hc
theorem sortK (K : PySem.W.Frag) (h : X.K = K := by rfl) : CallR X (.builtin "sorted") (rSortedI K) := h ▸ cr_sortedI
def rDictP (K : PySem.W.Frag) : List V → Hp → VK → Prop := fun xs H Q => ∃ (a : Addr) (ps : List Addr) (kvs : List (Key × V)), xs = [.ref a] ∧ SqL K H a (ps.map V.ref) ∧ Paired (fun p kv => SqT K H p [kV kv.1, kv.2]) ps kvs ∧ ∀ p, H p = none → Q (.ref p) (upd H p (.dK (mergeK [] kvs)))
theorem dictK (K : PySem.W.Frag) (h : X.K = K := by rfl) (hc : X.calm = true := by rfl) : CallR X (.type "dict") (rDictP K) := h ▸ call_dictP hc
theorem indexK (K : PySem.W.Frag) (h : X.K = K := by rfl) : MtR X "list.index" (rIndex K) := h ▸ mt_index
theorem bmK (K : PySem.W.Frag) {o : Expr} {to : TE} {name : Str} {apos cpos : Pos} {Ty id : String} {r : V → List V → Hp → VK → Prop} (pa : PlainAttrs Ty) (slot : Slot Ty name id) (hty : typeOf (.builtin id) = pure (.type "method_descriptor")) (hm : MtR X id r) (ho : PE X o to) (ha : PA X (e :: es) t)
    (h : X.K = K := by rfl) (hbase : attributeBase o name X.env (eval o X.env) = eval o X.env := by rfl)
    (hfew : ((backTo cpos (starEach (e :: es) X.env)).all (fun x => !x.1) && (backToKw cpos (keywordEach [] X.env)).all (fun x => x.1.isSome) && decide ((e :: es).length + ([] : List Keyword).length + (if ([] : List Keyword).isEmpty then 0 else 1) < 30)) = true := by rfl) (hline : (apos.endLine == cpos.line) = true := by rfl) (hs : starEach (e :: es) X.env = (false, eval e X.env) :: starEach es X.env := by rfl) (hplain : (backTo cpos (starEach es X.env)).any (·.1) = false := by rfl) :
    PE X (.Call (.Attribute o name apos) (e :: es) [] cpos) (tBM K Ty r to t) := h ▸ pe_bm pa slot hty hm ho ha hbase hfew hline hs hplain
theorem tgT (K : PySem.W.Frag) {ts : List Expr} {k : Nat} {u : TGs} {n : Nat} (hg : PGs X ts u) (h : X.K = K := by rfl) (hc : X.calm = true := by rfl) (hn : (assignEach ts X.env).length = n := by rfl) (hst : (assignEach ts X.env).findIdx? (·.1) = none := by rfl) : PG X (.Tuple ts k pos) (gTup K n u) := h ▸ pg_tup hc hg hn hst
/-- // by a divisor with which the division is the machine's own -/
def DivOwn (i j : Int) : Prop := 0 < j ∧ Builtin.divisionGoesByPylong i j = false
theorem op_fdivP : OpR X (binaryOp .FloorDiv) (rI DivOwn fun i j => .int (i / j)) := opI fun i j _ _ _ _ _ hc q => by
  (have h1 : (0 : Int) < j := hc.1)
  refine floordiv_int (by omega) ?_ (.inl hc.2)
  rw [Int.fdiv_eq_ediv_of_nonneg i (by omega)]
  exact q
end
/-- what the module's names hold -/
structure TxtM (K : PySem.W.Frag) (mg : Str → Option Value) (C : Addr) : Prop where
  cl : Cls K C
  nP : NoAttr K C "parts"
  nR : NoAttr K C "rows"
  len : mg "len" = none
  range : mg "range" = none
  max : mg "max" = none
  min : mg "min" = none
  abs : mg "abs" = none
  int : mg "int" = none
  sorted : mg "sorted" = none
  dict : mg "dict" = none
  list : mg "list" = none
  enumerate : mg "enumerate" = none
  cMOST_ROWS : CstI mg "MOST_ROWS" 12
  cMOST_PARTS : CstI mg "MOST_PARTS" 9
  cMOST_BIN : CstI mg "MOST_BIN" 5
  cWIDEST_works : CstI mg "WIDEST_works" (10 ^ 60)
  cMOST_CRUSHERS : CstI mg "MOST_CRUSHERS" 4
  cWIDEST_alike : CstI mg "WIDEST_alike" 20
/-! ### readings of a works -/
section
variable {K : PySem.W.Frag} {mg : Str → Option Value} {C : Addr} {G H : Hp} {W : Wk} {v : V} {Q : V → Prop}
theorem rd_rows (Tx : TxtM K mg C) (hW : WkR C W v G) (s : Sm G H) (k : ∀ l vs, G l = some (.lst vs) → AllR RowR W.rows vs G → Q (.ref l)) :
    ∃ a C' dx fs u, v = .ref a ∧ H a = some (.ins C' dx fs) ∧ Cls K C' ∧ NoAttr K C' "rows" ∧ fs.lookup ("rows" : Str) = some u ∧ Q u := by
  obtain ⟨a, dx, l, vs, e, h1, h2, r⟩ := hW
  exact ⟨a, C, dx, _, .ref l, e, s.at h1, Tx.cl, Tx.nR, rfl, k l vs h2 r⟩
theorem rd_parts (Tx : TxtM K mg C) (hW : WkR C W v G) (s : Sm G H) (k : Q (.int (W.p : Int))) :
    ∃ a C' dx fs u, v = .ref a ∧ H a = some (.ins C' dx fs) ∧ Cls K C' ∧ NoAttr K C' "parts" ∧ fs.lookup ("parts" : Str) = some u ∧ Q u := by
  obtain ⟨a, dx, l, vs, e, h1, h2, r⟩ := hW
  exact ⟨a, C, dx, _, _, e, s.at h1, Tx.cl, Tx.nP, rfl, k⟩
end
/-- what a def hands back: a thing told by R; a plain value -/
def Ret (T : List (Addr × Str)) {α : Type} (R : Rel α) (x : α) (G H : Hp) (Q : VK) : Prop := ∀ v G' H', Sit T G H G' H' → R x v G' → Q v H'
def RetV (T : List (Addr × Str)) (v : V) (G H : Hp) (Q : VK) : Prop := ∀ H', Sit T G H G H' → Q v H'
/-! ### new tuples and lists -/
theorem nl {xs : List V} : ∀ ps, (HO.lst xs) ≠ .tbl ps := fun ps z => by cases z
theorem nt {xs : List V} : ∀ ps, (HO.tup xs) ≠ .tbl ps := fun ps z => by cases z
section
variable {T : List (Addr × Str)} {G H G0 H0 : Hp} {p : Addr}
theorem Sit.tup (S : Sit T G0 H0 G H) (xs : List V) (hp : H p = none) : ∃ G', Sit T G0 H0 G' (upd H p (.tup xs)) ∧ Same G G' ∧ G' p = some (.tup xs) := ⟨_, S.trans (Sit.new S.gh hp nt), same_new (S.gh.none hp), upd_same⟩
theorem Sit.lst (S : Sit T G0 H0 G H) (xs : List V) (hp : H p = none) : ∃ G', Sit T G0 H0 G' (upd H p (.lst xs)) ∧ Same G G' ∧ G' p = some (.lst xs) := ⟨_, S.trans (Sit.new S.gh hp nl), same_new (S.gh.none hp), upd_same⟩
theorem Sit.lstc (S : Sit T G0 H0 G H) (xs : List V) (hp : H p = none) : Sit T G0 H0 G (upd H p (.lst xs)) := S.trans (Sit.cell S.gh hp nl)
end
theorem ret_self {T : List (Addr × Str)} {α : Type} {R : Rel α} {x : α} {G H : Hp} {Q : VK} (k : Ret T R x G H Q) (s : Sm G H) {v : V} (r : R x v G) : Q v H := k v G H (Sit.refl s) r
theorem two_all {α : Type} {R : Rel α} {x y : α} {u v : V} {G : Hp} (h1 : R x u G) (h2 : R y v G) : AllR R [x, y] [u, v] G := AllR.snoc (xs := [x]) (vs := [u]) (AllR.snoc (xs := []) (vs := []) AllR.nil h1) h2
theorem one_all {α : Type} {R : Rel α} {x : α} {u : V} {G : Hp} (h1 : R x u G) : AllR R [x] [u] G := AllR.snoc (xs := []) (vs := []) AllR.nil h1
/-- a plain value is what it gives -/
theorem ev_slot {T : List (Addr × Str)} {α : Type} {R : Rel α} {x : α} {σ : L2.St} {G : Hp} {i : Nat} {v : V} (h : σ[i]? = some (some v)) (r : R x v G) : EvR T (tVar i) σ G R x := fun H s Q k => ⟨v, h, k v G H (Sit.refl s) r⟩
theorem sz1 {a : V} : [a].length ≤ sizeLine := by show 1 ≤ sizeLine; decide
theorem sz2 {a b : V} : [a, b].length ≤ sizeLine := by show 2 ≤ sizeLine; decide
theorem sz3 {a b c : V} : [a, b, c].length ≤ sizeLine := by show 3 ≤ sizeLine; decide
theorem sz4 {a b c d : V} : [a, b, c, d].length ≤ sizeLine := by show 4 ≤ sizeLine; decide
/-! ### tests with a known answer -/
theorem ite_yes {p A B : Prop} [Decidable p] (h : p) (a : A) : if decide p = true then A else B := by
  rw [decide_eq_true h]
  exact iteT a
theorem ite_no {p A B : Prop} [Decidable p] (h : ¬ p) (b : B) : if decide p = true then A else B := by
  rw [decide_eq_false h]
  exact iteF b
theorem ite_by {p A B : Prop} [Decidable p] (a : p → A) (b : ¬ p → B) : if decide p = true then A else B := by
  by_cases h : p
  · exact ite_yes h (a h)
  · exact ite_no h (b h)
theorem ite_nyes {p A B : Prop} [Decidable p] (h : ¬ p) (a : A) : if (!decide p) = true then A else B := by
  rw [decide_eq_false h]
  exact iteT a
theorem ite_nno {p A B : Prop} [Decidable p] (h : p) (b : B) : if (!decide p) = true then A else B := by
  rw [decide_eq_true h]
  exact iteF b
theorem ne_mb : V.str "mesh" ≠ V.str "bin" := fun h => absurd (V.str.inj h) (by decide +kernel)
theorem ne_mc : V.str "mesh" ≠ V.str "crush" := fun h => absurd (V.str.inj h) (by decide +kernel)
theorem ne_cb : V.str "crush" ≠ V.str "bin" := fun h => absurd (V.str.inj h) (by decide +kernel)
theorem ne_cm : V.str "crush" ≠ V.str "mesh" := fun h => ne_mc h.symm
theorem ne_bm : V.str "bin" ≠ V.str "mesh" := fun h => ne_mb h.symm
theorem ne_bc : V.str "bin" ≠ V.str "crush" := fun h => ne_cb h.symm
theorem ieq {i j : Int} (h : i = j) : V.int i = V.int j := by rw [h]
theorem ine {i j : Int} (h : i ≠ j) : V.int i ≠ V.int j := fun e => h (V.int.inj e)
/-! ### lists of ints asked -/
theorem inV_ints {i : Int} {ns : List Int} : inV (.int i) (ns.map V.int) = decide (i ∈ ns) := by
  unfold inV
  rw [List.any_map]
  induction ns with
  | nil => rfl
  | cons a l ih =>
    rw [List.any_cons, ih]
    show ((a == i) || decide (i ∈ l)) = decide (i ∈ a :: l)
    by_cases h : a = i
    · subst h
      simp
    · have h' : ¬ i = a := fun e => h e.symm
      simp [h, h']
theorem flat_ints {ns : List Int} : (ns.map V.int).all flatV = true := by
  rw [List.all_map, List.all_eq_true]
  intro x _
  rfl
/-- the numbers of a list as ints -/
def toI (l : List Nat) : List Int := l.map fun n : Nat => (n : Int)
theorem mem_toI {l : List Nat} {n : Nat} : (n : Int) ∈ toI l ↔ n ∈ l := by
  unfold toI
  rw [List.mem_map]
  constructor
  · rintro ⟨a, h, e⟩
    have : a = n := by omega
    rw [← this]
    exact h
  · intro h
    exact ⟨n, h, rfl⟩
theorem toI_snoc (l : List Nat) (n : Nat) : toI (l ++ [n]) = toI l ++ [(n : Int)] := by
  unfold toI
  rw [List.map_append]
  rfl
theorem map_snoc (l : List Int) (n : Int) : (l ++ [n]).map V.int = l.map V.int ++ [V.int n] := by
  rw [List.map_append]
  rfl
def rInI (K : PySem.W.Frag) : R2 := fun x y H Q => ∃ (p : Addr) (ns : List Int) (i : Int), x = .int i ∧ y = .ref p ∧ SqL K H p (ns.map V.int) ∧ Q (.bl (decide (i ∈ ns))) H
def rNinI (K : PySem.W.Frag) : R2 := fun x y H Q => ∃ (p : Addr) (ns : List Int) (i : Int), x = .int i ∧ y = .ref p ∧ SqL K H p (ns.map V.int) ∧ Q (.bl (!decide (i ∈ ns))) H
section
variable {X : Cx}
theorem inI (K : PySem.W.Frag) (h : X.K = K := by rfl) : OpR X (compareOp .In) (rInI K) := fun pins s σ H x y v u Q I rx ry ⟨p, ns, i, ex, ey, hs, q⟩ =>
  inK K h pins s σ H x y v u Q I rx ry ⟨p, _, ey, .inl hs, by rw [ex]; rfl, flat_ints, by
    rw [ex, inV_ints]
    exact q⟩
theorem ninI (K : PySem.W.Frag) (h : X.K = K := by rfl) : OpR X (compareOp .NotIn) (rNinI K) := fun pins s σ H x y v u Q I rx ry ⟨p, ns, i, ex, ey, hs, q⟩ =>
  ninK K h pins s σ H x y v u Q I rx ry ⟨p, _, ey, .inl hs, by rw [ex]; rfl, flat_ints, by
    rw [ex, inV_ints]
    exact q⟩
end
end Mw

set_option Elab.async false
set_option linter.all false
set_option maxRecDepth 100000
set_option maxHeartbeats 4000003
namespace Mw
open PySem.Spec PyProof.Rows L2 LamX PySem
variable {P : Program} {w : World} {K : PySem.W.Frag} {mg : Str → Option Value} {base : Heap} {T : List (Addr × Str)} {C : Addr}
/-! ### pieces_of -/
def NN : Rel (Nat × Nat) := fun x v G => TupR [.int (x.1 : Int), .int (x.2 : Int)] v G
instance : Up NN := ⟨fun g h => Up.up (R := TupR) g h⟩
def pcs (s p : Nat) : List (Nat × Nat) := [(s / p, p - s % p), (s / p + 1, s % p)].filter fun x => decide (0 < x.1 * x.2)
def spPieces (T : List (Addr × Str)) : L2.Sp := fun vs H Q _ => ∃ (G : Hp) (s p : Nat), vs = [.int (s : Int), .int (p : Int)] ∧ Sm G H ∧ 2 ≤ p ∧ p ≤ 9 ∧ s ≤ 1000 ∧ Ret T (LstR NN) (pcs s p) G H Q
abbrev sPiecesOf : Stmt := topS 14
theorem scPiecesOf : FnScope ["size", "parts", "pairs", "pair"] ["size", "parts"] (defScope sPiecesOf) := ⟨rfl, rfl, rfl, by decide +kernel, rfl, by decide +kernel, by decide +kernel⟩
theorem okPiecesOf {f : Addr} {fd : FuncData} (Fn : Fun K "pieces_of" "pieces_of" sPiecesOf f fd) : FnOk P w K mg base CX0 1 f fd ["size", "parts"] (spPieces T) := by
  refine Fn.ok scPiecesOf (fun vs H Q E h => ?_) (fun cdv A outer s H vs Q E hr h => ?_)
  · obtain ⟨G, s, p, rfl, _⟩ := h
    rfl
  · obtain ⟨G, s, p, rfl, hG, h2, h9, hs, k⟩ := h
    refine ⟨_, (pss_cons (ps_set (i := 2) scPiecesOf.nd rfl (by first | exact .inl rfl | exact .inr rfl) (pe_lst (pa_cons (pe_tup (pa_cons (pe_op op_fdiv (pv 0) (pv 1)) (pa_cons (pe_op op_sub (pv 1) (pe_op op_mod (pv 0) (pv 1))) pa_nil))) (pa_cons (pe_tup (pa_cons (pe_op op_add (pe_op op_fdiv (pv 0) (pv 1)) pe_int) (pa_cons (pe_op op_mod (pv 0) (pv 1)) pa_nil))) pa_nil))))
      (pss_one (ps_ret (pe_lc (own := [("pair", 3)]) rfl scPiecesOf.nd (itL K (pv 2)) (blkOk_by (N := ["size", "parts", "pairs", "pair"]) (sc := defScope sPiecesOf) (by decide +kernel)) (fun _ _ _ _ _ => (pg_name (i := 3) scPiecesOf.nd rfl (by first | exact .inl rfl | exact .inr rfl))) (fun _ _ _ _ _ => (pts_one (pt_cmpR op_gt (pe_op op_mul (pe_ix (ixT K) (pv 3) pe_int (fun _ _ => rfl)) (pe_ix (ixT K) (pv 3) pe_int (fun _ _ => rfl))) pe_int (nomark _)))) (fun _ _ _ _ _ => (pv 3)))))), ?_⟩
    have hd : CDiv (s : Int) (p : Int) := ⟨by omega, by show (p : Int) < _; omega⟩
    have hm : (0 : Int) < (p : Int) := by omega
    have S0 := Sit.refl (T := T) hG
    refine ⟨_, rfl, _, rfl, _, _, rfl, rfl, hd, _, rfl, _, rfl, _, rfl, _, _, rfl, rfl, hm, _, _, rfl, rfl, sz2, fun t1 n1 => ?_⟩
    obtain ⟨G1, S1, g1, k1⟩ := S0.tup [V.int ((s : Int) / (p : Int)), V.int ((p : Int) - (s : Int) % (p : Int))] n1
    refine ⟨_, rfl, _, rfl, _, _, rfl, rfl, hd, _, _, rfl, rfl, _, rfl, _, rfl, _, _, rfl, rfl, hm, sz2, fun t2 n2 => ?_⟩
    obtain ⟨G2, S2, g2, k2⟩ := S1.tup [V.int ((s : Int) / (p : Int) + 1), V.int ((s : Int) % (p : Int))] n2
    refine ⟨sz2, fun l n3 => ?_⟩
    obtain ⟨G3, S3, g3, k3⟩ := S2.lst [V.ref t1, V.ref t2] n3
    have e1 : (p : Int) - (s : Int) % (p : Int) = ((p - s % p : Nat) : Int) := by
      have := Nat.mod_lt s (show 0 < p by omega)
      omega
    rw [e1] at k1
    have r1 : NN (s / p, p - s % p) (.ref t1) G1 := ⟨t1, rfl, k1⟩
    have r2 : NN (s / p + 1, s % p) (.ref t2) G2 := ⟨t2, rfl, k2⟩
    have ra := two_all (Up.up (g2.trans g3) r1) (Up.up g3 r2)
    refine ⟨_, rfl, l, rfl, ⟨_, SqL.of (S3.gh.at k3)⟩, comp_list (T := T) (S := NN) (R := NN) (fun x => decide (0 < x.1 * x.2)) (fun x => x) S3.gh k3 ra (Nat.le_of_ble_eq_true rfl) (fun _ => rfl) (fun i x v hx hv r H0 g Q q => ?_) (fun i x v hx hv r _ => ev_slot rfl r) fun D G' H' a n r => k _ G' H' (S3.trans a) (by rw [List.map_id'] at r; exact r)⟩
    obtain ⟨a, rfl, ha⟩ := r
    have hb : x.1 ≤ 1001 := by
      have hm := List.mem_of_getElem? hx
      have := Nat.div_le_self s p
      (rcases List.mem_cons.mp hm with e | hm)
      · rw [e]
        show s / p ≤ 1001
        omega
      · (rw [List.mem_singleton.mp hm])
        show s / p + 1 ≤ 1001
        omega
    refine ⟨_, rfl, a, _, _, _, rfl, rfl, SqT.of (g.at ha), atI_nat (j := 0) rfl, _, rfl, a, _, _, _, rfl, rfl, SqT.of (g.at ha), atI_nat (j := 1) rfl, _, _, rfl, rfl, .inl (by omega), _, _, rfl, rfl, _, rfl, ?_⟩
    have e : decide ((0 : Int) < (x.1 : Int) * (x.2 : Int)) = decide (0 < x.1 * x.2) := by
      rw [← Int.natCast_mul]
      exact decide_eq_decide.mpr Int.natCast_pos
    show Q (decide ((0 : Int) < (x.1 : Int) * (x.2 : Int))) H0
    rw [e]
    exact q H0 (Sit.refl g)
/-! ### goes_on -/
def N3 : Rel (Nat × Nat × Nat) := fun x v G => TupR [.int (x.1 : Int), .int (x.2.1 : Int), .int (x.2.2 : Int)] v G
instance : Up N3 := ⟨fun g h => Up.up (R := TupR) g h⟩
def goesM (W : Wk) (r s : Nat) : List (Nat × Nat × Nat) := match W.rows[r]? with
  | some (.crush t) => (pcs s W.p).map fun x => (t, x.1, x.2)
  | some (.mesh o u v) => [(if s ≤ o then u else v, s, 1)]
  | _ => []
structure WOk (W : Wk) : Prop where
  p2 : 2 ≤ W.p
  p3 : W.p ≤ 3
  good : Good W.rows
def spGoes (T : List (Addr × Str)) (C : Addr) : L2.Sp := fun vs H Q _ => ∃ (G : Hp) (W : Wk) (wv : V) (r s : Nat), vs = [wv, .int (r : Int), .int (s : Int)] ∧ Sm G H ∧ WkR C W wv G ∧ WOk W ∧ r < W.rows.length ∧ s ≤ 1000 ∧ Ret T (LstR N3) (goesM W r s) G H Q
abbrev sGoesOn : Stmt := topS 15
theorem scGoesOn : FnScope ["works", "row", "size", "told", "piece", "many"] ["works", "row", "size"] (defScope sGoesOn) := ⟨rfl, rfl, rfl, by decide +kernel, rfl, by decide +kernel, by decide +kernel⟩
theorem okGoesOn {f : Addr} {fd : FuncData} (Fn : Fun K "goes_on" "goes_on" sGoesOn f fd) (Tx : TxtM K mg C) (hPiecesOf : Has P w K mg base "pieces_of" ["size", "parts"] 1 (spPieces T)) : FnOk P w K mg base CX0 2 f fd ["works", "row", "size"] (spGoes T C) := by
  refine Fn.ok scGoesOn (fun vs H Q E h => ?_) (fun cdv A outer s H vs Q E hr h => ?_)
  · obtain ⟨G, W, wv, r, s, rfl, _⟩ := h
    rfl
  · obtain ⟨G, W, wv, r, s, rfl, hG, hW, ok, hrl, hs, k⟩ := h
    refine ⟨_, (pss_cons (ps_set (i := 3) scGoesOn.nd rfl (by first | exact .inl rfl | exact .inr rfl) (pe_ix (ixL K) (fldK K (pv 0)) (pv 1) (fun _ _ => rfl)))
      (pss_cons (ps_if (pt_cmpR op_eq (pe_ix (ixT K) (pv 3) pe_int (fun _ _ => rfl)) pe_str (nomark _)) (pss_one (ps_ret (pe_lst pa_nil))) pss_nil)
      (pss_cons (ps_if (pt_cmpR op_eq (pe_ix (ixT K) (pv 3) pe_int (fun _ _ => rfl)) pe_str (nomark _)) (pss_one (ps_ret (pe_lc (own := [("piece", 4), ("many", 5)]) rfl scGoesOn.nd (itL K (pe_def hPiecesOf hr (by decide) (by rfl) (pa_cons (pv 2) (pa_cons (fldK K (pv 0)) pa_nil)))) (blkOk_by (N := ["works", "row", "size", "told", "piece", "many"]) (sc := defScope sGoesOn) (by decide +kernel)) (fun _ _ _ _ _ => (tgT K (n := 2) (pgs_cons (pg_name (i := 4) scGoesOn.nd rfl (by first | exact .inl rfl | exact .inr rfl)) (pgs_cons (pg_name (i := 5) scGoesOn.nd rfl (by first | exact .inl rfl | exact .inr rfl)) pgs_nil)))) (fun _ _ _ _ _ => pts_nil) (fun _ _ _ _ _ => (pe_tup (pa_cons (pe_ix (ixT K) (pv 3) pe_int (fun _ _ => rfl)) (pa_cons (pv 4) (pa_cons (pv 5) pa_nil)))))))) pss_nil)
      (pss_cons (ps_if (pt_cmpR op_le (pv 2) (pe_ix (ixT K) (pv 3) pe_int (fun _ _ => rfl)) (nomark _)) (pss_one (ps_ret (pe_lst (pa_cons (pe_tup (pa_cons (pe_ix (ixT K) (pv 3) pe_int (fun _ _ => rfl)) (pa_cons (pv 2) (pa_cons pe_int pa_nil)))) pa_nil)))) pss_nil)
      (pss_one (ps_ret (pe_lst (pa_cons (pe_tup (pa_cons (pe_ix (ixT K) (pv 3) pe_int (fun _ _ => rfl)) (pa_cons (pv 2) (pa_cons pe_int pa_nil)))) pa_nil)))))))), ?_⟩
    have S0 := Sit.refl (T := T) hG
    refine ⟨_, rfl, rd_rows Tx hW hG fun l vs hl ha => ?_⟩
    have er : W.rows[r]? = some W.rows[r] := List.getElem?_eq_getElem hrl
    obtain ⟨v, hv, a, rfl, hrow⟩ := ha.get er
    refine ⟨_, rfl, l, vs, _, _, rfl, rfl, SqL.of (hG.at hl), atI_nat hv, ?_⟩
    have ht := SqT.of (K := K) (hG.at hrow)
    unfold goesM at k
    rw [er] at k
    cases hx : W.rows[r] with
    | bin n =>
      rw [hx] at ht k
      refine ⟨_, rfl, a, _, _, _, rfl, rfl, ht, atI_nat (j := 0) rfl, rfl, _, rfl, ite_yes rfl ⟨Nat.zero_le _, fun o no => ?_⟩⟩
      obtain ⟨G1, S1, g1, k1⟩ := S0.lst [] no
      exact k _ _ _ S1 ⟨o, [], rfl, k1, AllR.nil⟩
    | crush t =>
      rw [hx] at ht k
      refine ⟨_, rfl, a, _, _, _, rfl, rfl, ht, atI_nat (j := 0) rfl, rfl, _, rfl, ite_no ne_cb ?_⟩
      refine ⟨_, rfl, a, _, _, _, rfl, rfl, ht, atI_nat (j := 0) rfl, rfl, _, rfl, ite_yes rfl ?_⟩
      refine ⟨_, rfl, _, rfl, rd_parts Tx hW hG ⟨G, s, W.p, rfl, hG, ok.p2, by have := ok.p3; omega, hs, fun v1 G1 H1 S1 r1 => ?_⟩⟩
      obtain ⟨a1, vs1, rfl, h1, ra1⟩ := r1
      have hlen : (pcs s W.p).length ≤ 100000 := Nat.le_trans (List.length_filter_le _ _) (Nat.le_of_ble_eq_true rfl)
      rw [hx] at hrow
      refine ⟨a1, rfl, ⟨_, SqL.of (S1.gh.at h1)⟩, comp_listG (T := T) (S := N3) (R := NN) (fun x _ => [some wv, some (.int (r : Int)), some (.int (s : Int)), some (.ref a), some (.int (x.1 : Int)), some (.int (x.2 : Int))]) (fun _ => true) (fun x => (t, x.1, x.2)) S1.gh h1 ra1 hlen
        (fun i x v _ _ rv H0 g Q q => ?_) (fun _ _ => rfl) (fun i x v _ _ _ => eb_yes) (fun i x v _ _ rv _ H0 g Q q => ?_) fun D G' H' b n r => k _ G' H' (S1.trans b) (by rw [filter_yes] at r; exact r)⟩
      · obtain ⟨b, rfl, hb⟩ := rv
        exact ⟨b, _, rfl, SqT.of (g.at hb), rfl, _, _, rfl, _, _, rfl, rfl, q⟩
      · refine ⟨_, rfl, a, _, _, _, rfl, rfl, SqT.of (g.at (S1.gg _ _ hrow)), atI_nat (j := 1) rfl, _, rfl, _, rfl, sz3, fun o no => ?_⟩
        obtain ⟨G2, S2, g2, k2⟩ := (Sit.refl (T := T) g).tup [V.int (t : Int), V.int (x.1 : Int), V.int (x.2 : Int)] no
        exact q _ _ _ S2 ⟨o, rfl, k2⟩
    | mesh o u v =>
      rw [hx] at ht k
      refine ⟨_, rfl, a, _, _, _, rfl, rfl, ht, atI_nat (j := 0) rfl, rfl, _, rfl, ite_no ne_mb ?_⟩
      refine ⟨_, rfl, a, _, _, _, rfl, rfl, ht, atI_nat (j := 0) rfl, rfl, _, rfl, ite_no ne_mc ?_⟩
      refine ⟨_, rfl, _, rfl, a, _, _, _, rfl, rfl, ht, atI_nat (j := 1) rfl, _, _, rfl, rfl, _, rfl, ite_by (fun z => ?_) (fun z => ?_)⟩
      · have z : (s : Int) ≤ (o : Int) := z
        refine ⟨_, rfl, a, _, _, _, rfl, rfl, ht, atI_nat (j := 2) rfl, _, rfl, sz3, fun o1 no => ?_⟩
        obtain ⟨G1, S1, g1, k1⟩ := S0.tup [V.int (u : Int), V.int (s : Int), V.int 1] no
        refine ⟨sz1, fun o2 no2 => ?_⟩
        obtain ⟨G2, S2, g2, k2⟩ := S1.lst [V.ref o1] no2
        refine k _ _ _ S2 ⟨o2, _, rfl, k2, one_all ⟨o1, rfl, ?_⟩⟩
        rw [if_pos (by omega)]
        exact g2 _ _ k1
      · have z : ¬ (s : Int) ≤ (o : Int) := z
        refine ⟨_, rfl, a, _, _, _, rfl, rfl, ht, atI_nat (j := 3) rfl, _, rfl, sz3, fun o1 no => ?_⟩
        obtain ⟨G1, S1, g1, k1⟩ := S0.tup [V.int (v : Int), V.int (s : Int), V.int 1] no
        refine ⟨sz1, fun o2 no2 => ?_⟩
        obtain ⟨G2, S2, g2, k2⟩ := S1.lst [V.ref o1] no2
        refine k _ _ _ S2 ⟨o2, _, rfl, k2, one_all ⟨o1, rfl, ?_⟩⟩
        rw [if_neg (by omega)]
        exact g2 _ _ k1
end Mw

set_option Elab.async false
set_option linter.all false
set_option maxRecDepth 100000
set_option maxHeartbeats 4000003
namespace Mw
open PySem.Spec PyProof.Rows L2 LamX PySem
variable {P : Program} {w : World} {K : PySem.W.Frag} {mg : Str → Option Value} {base : Heap} {T : List (Addr × Str)} {C : Addr}
/-! ### where grains go on whole -/
theorem pcs_one {p : Nat} (hp : 2 ≤ p) : pcs 1 p = [(1, 1)] := by
  have h1 : 1 / p = 0 := Nat.div_eq_of_lt (by omega)
  have h2 : 1 % p = 1 := Nat.mod_eq_of_lt (by omega)
  unfold pcs
  rw [h1, h2]
  simp
theorem pcs_lt {s p : Nat} (hp : 2 ≤ p) (hs : 2 ≤ s) {x : Nat × Nat} (h : x ∈ pcs s p) : x.1 < s := by
  unfold pcs at h
  rw [List.mem_filter] at h
  have a := Nat.div_add_mod s p
  have b : 2 * (s / p) ≤ p * (s / p) := Nat.mul_le_mul_right _ hp
  have c := of_decide_eq_true h.2
  rcases List.mem_cons.mp h.1 with e | hm
  · rw [e]
    show s / p < s
    omega
  · have e := List.mem_singleton.mp hm
    rw [e] at c ⊢
    show s / p + 1 < s
    have c' : 0 < (s / p + 1) * (s % p) := c
    have : s % p ≠ 0 := fun z => by
      rw [z] at c'
      simp at c'
    omega
theorem goes_some {W : Wk} (ok : WOk W) {r s r' : Nat} (h : stepW W.rows s r = some r') : goesM W r s = [(r', s, 1)] := by
  unfold stepW at h
  unfold goesM
  cases q : W.rows[r]? with
  | none => rw [q] at h; cases h
  | some x =>
    rw [q] at h
    cases x with
    | mesh o u v =>
      have e := Option.some.inj h
      show [(if s ≤ o then u else v, s, 1)] = _
      rw [e]
    | crush t =>
      have h' : (if s = 1 then some t else none) = some r' := h
      by_cases z : s = 1
      · rw [if_pos z] at h'
        have e := Option.some.inj h'
        show (pcs s W.p).map (fun x => (t, x.1, x.2)) = _
        rw [z, pcs_one ok.p2, e]
        rfl
      · rw [if_neg z] at h'
        cases h'
    | bin n => cases h
theorem goes_none {W : Wk} (ok : WOk W) {r s : Nat} (hs : 1 ≤ s) (h : stepW W.rows s r = none) {x : Nat × Nat × Nat} (hm : x ∈ goesM W r s) : x.2.1 ≠ s := by
  unfold stepW at h
  unfold goesM at hm
  cases q : W.rows[r]? with
  | none =>
    rw [q] at hm
    cases hm
  | some y =>
    rw [q] at h hm
    cases y with
    | mesh o u v => cases h
    | crush t =>
      have h' : (if s = 1 then some t else none) = none := h
      by_cases z : s = 1
      · rw [if_pos z] at h'
        cases h'
      · have hm' : x ∈ (pcs s W.p).map (fun x => (t, x.1, x.2)) := hm
        obtain ⟨y, hy, e⟩ := List.mem_map.mp hm'
        have := pcs_lt ok.p2 (by omega) hy
        rw [← e]
        show y.1 ≠ s
        omega
    | bin n => cases hm
def optV : Option Nat → V
  | some n => .int (n : Int)
  | none => .non
/-- the test by which a grain goes on whole: how it ends -/
theorem rd_whole {W : Wk} (ok : WOk W) {r s : Nat} (hs : 1 ≤ s) {a : Addr} {vs : List V} {G H : Hp} (hl : G a = some (.lst vs)) (ha : AllR N3 (goesM W r s) vs G) (g : Sm G H) {Q : Bool → Hp → Prop}
    (yes : ∀ (r' : Nat) (b : Addr), stepW W.rows s r = some r' → vs = [.ref b] → G b = some (.tup [.int (r' : Int), .int (s : Int), .int 1]) → Q true H) (no : stepW W.rows s r = none → Q false H) (σ : L2.St) {i j : Nat} (hi : σ[i]? = some (some (.ref a))) (hj : σ[j]? = some (some (.int (s : Int)))) :
    tAnd (tTest (tOp rEq (tCB (rLen K) (tCons (tVar i) tNil)) (tC (.int 1)))) (tAnd (tTest (tOp rEq (tOp (rIxT K) (tOp (rIxL K) (tVar i) (tC (.int 0))) (tC (.int 1))) (tVar j))) (tTest (tOp rEq (tOp (rIxT K) (tOp (rIxL K) (tVar i) (tC (.int 0))) (tC (.int 2))) (tC (.int 1))))) σ H Q := by
  have sl := SqL.of (K := K) (g.at hl)
  refine ⟨_, hi, a, vs, rfl, .inl sl, rfl, _, rfl, ?_⟩
  cases q : stepW W.rows s r with
  | some r' =>
    have e := goes_some ok q
    rw [e] at ha
    obtain ⟨v, hv, b, rfl, hb⟩ := ha.get (i := 0) rfl
    have ev : vs = [.ref b] := by
      have hl := ha.len
      cases vs with
      | nil => cases hv
      | cons x t =>
        cases t with
        | nil =>
          cases hv
          rfl
        | cons y t => simp at hl
    subst ev
    have st := SqT.of (K := K) (g.at hb)
    refine ite_yes rfl ⟨_, hi, a, _, _, _, rfl, rfl, sl, atI_nat (j := 0) rfl, b, _, _, _, rfl, rfl, st, atI_nat (j := 1) rfl, _, hj, rfl, _, rfl, ite_yes rfl ⟨_, hi, a, _, _, _, rfl, rfl, sl, atI_nat (j := 0) rfl, b, _, _, _, rfl, rfl, st, atI_nat (j := 2) rfl, rfl, _, rfl, ?_⟩⟩
    show Q (decide (V.int 1 = V.int 1)) H
    rw [decide_eq_true (rfl : V.int 1 = V.int 1)]
    exact yes r' b q rfl hb
  | none =>
    refine ite_by (fun z => ?_) (fun z => (no q))
    have hl1 : vs.length = 1 := by
      have := V.int.inj z
      omega
    have hL : (goesM W r s).length = 1 := by rw [← ha.len]; exact hl1
    obtain ⟨x, hx⟩ : ∃ x, goesM W r s = [x] := by
      cases e : goesM W r s with
      | nil => rw [e] at hL; cases hL
      | cons x t =>
        cases t with
        | nil => exact ⟨x, rfl⟩
        | cons y t => rw [e] at hL; simp at hL
    have hne := goes_none ok hs q (x := x) (by rw [hx]; exact List.mem_singleton.mpr rfl)
    rw [hx] at ha
    obtain ⟨v, hv, b, rfl, hb⟩ := ha.get (i := 0) rfl
    have st := SqT.of (K := K) (g.at hb)
    refine ⟨_, hi, a, _, _, _, rfl, rfl, sl, atI_nat (j := 0) hv, b, _, _, _, rfl, rfl, st, atI_nat (j := 1) rfl, _, hj, rfl, _, rfl, ite_no (ine fun e => hne (by omega)) (no q)⟩
/-! ### whole_to -/
def spWhole (T : List (Addr × Str)) (C : Addr) : L2.Sp := fun vs H Q _ => ∃ (G : Hp) (W : Wk) (wv : V) (r s : Nat), vs = [wv, .int (r : Int), .int (s : Int)] ∧ Sm G H ∧ WkR C W wv G ∧ WOk W ∧ r < W.rows.length ∧ 1 ≤ s ∧ s ≤ 1000 ∧ RetV T (optV (stepW W.rows s r)) G H Q
abbrev sWholeTo : Stmt := topS 17
theorem scWholeTo : FnScope ["works", "row", "size", "told"] ["works", "row", "size"] (defScope sWholeTo) := ⟨rfl, rfl, rfl, by decide +kernel, rfl, by decide +kernel, by decide +kernel⟩
theorem okWholeTo {f : Addr} {fd : FuncData} (Fn : Fun K "whole_to" "whole_to" sWholeTo f fd) (Tx : TxtM K mg C) (hGoesOn : Has P w K mg base "goes_on" ["works", "row", "size"] 2 (spGoes T C)) : FnOk P w K mg base CX0 3 f fd ["works", "row", "size"] (spWhole T C) := by
  refine Fn.ok scWholeTo (fun vs H Q E h => ?_) (fun cdv A outer s H vs Q E hr h => ?_)
  · obtain ⟨G, W, wv, r, s, rfl, _⟩ := h
    rfl
  · obtain ⟨G, W, wv, r, s, rfl, hG, hW, ok, hrl, hs1, hs, k⟩ := h
    refine ⟨_, (pss_cons (ps_set (i := 3) scWholeTo.nd rfl (by first | exact .inl rfl | exact .inr rfl) (pe_def hGoesOn hr (by decide) (by rfl) (pa_cons (pv 0) (pa_cons (pv 1) (pa_cons (pv 2) pa_nil)))))
      (pss_cons (ps_if (PW.pt (pw_and (pt_cmpR op_eq (pe_callB (lenK K) (by rfl) Tx.len PySem.boot_len (pa_cons (pv 3) pa_nil)) pe_int (nomark _)) (pw_and (pt_cmpR op_eq (pe_ix (ixT K) (pe_ix (ixL K) (pv 3) pe_int (fun _ _ => rfl)) pe_int (fun _ _ => rfl)) (pv 2) (nomark _)) (pw_and1 (pt_cmpR op_eq (pe_ix (ixT K) (pe_ix (ixL K) (pv 3) pe_int (fun _ _ => rfl)) pe_int (fun _ _ => rfl)) pe_int (nomark _)))))) (pss_one (ps_ret (pe_ix (ixT K) (pe_ix (ixL K) (pv 3) pe_int (fun _ _ => rfl)) pe_int (fun _ _ => rfl)))) pss_nil)
      (pss_one (ps_ret pe_non)))), ?_⟩
    refine ⟨_, rfl, _, rfl, _, rfl, G, W, wv, r, s, rfl, hG, hW, ok, hrl, hs, fun v1 G1 H1 S1 r1 => ?_⟩
    obtain ⟨a1, vs1, rfl, h1, ra1⟩ := r1
    refine rd_whole (i := 3) (j := 2) ok hs1 h1 ra1 S1.gh (fun r' b e ev hb => ?_) (fun e => ?_) _ rfl rfl
    · subst ev
      refine iteT ⟨_, rfl, a1, _, _, _, rfl, rfl, SqL.of (S1.gh.at h1), atI_nat (j := 0) rfl, b, _, _, _, rfl, rfl, SqT.of (S1.gh.at hb), atI_nat (j := 0) rfl, ?_⟩
      rw [e] at k
      exact k H1 S1.drop
    · rw [e] at k
      exact iteF (k H1 S1.drop)
/-! ### ring_from -/
def spRingFrom (T : List (Addr × Str)) (C : Addr) : L2.Sp := fun vs H Q _ => ∃ (G : Hp) (W : Wk) (wv : V) (r s : Nat), vs = [wv, .int (r : Int), .int (s : Int)] ∧ Sm G H ∧ WkR C W wv G ∧ WOk W ∧ Loose W.rows ∧ r < W.rows.length ∧ 1 ≤ s ∧ s ≤ 1000 ∧ Ret T IntsR [] G H Q
theorem fin_least {rows : List Rw} {s r e : Nat} : ∀ {k : Nat}, fin rows s k r = some e → ∃ m, m + 1 ≤ k ∧ fin rows s (m + 1) r = some e ∧ fin rows s m r = none
  | 0, h => by cases h
  | k + 1, h => by
    cases q : fin rows s k r with
    | none => exact ⟨k, Nat.le_refl _, h, q⟩
    | some e' =>
      rw [fin_same h q]
      obtain ⟨m, h1, h2⟩ := fin_least q
      exact ⟨m, by omega, h2⟩
abbrev sRingFrom : Stmt := topS 18
theorem scRingFrom : FnScope ["works", "row", "size", "way"] ["works", "row", "size"] (defScope sRingFrom) := ⟨rfl, rfl, rfl, by decide +kernel, rfl, by decide +kernel, by decide +kernel⟩
theorem okRingFrom {f : Addr} {fd : FuncData} (Fn : Fun K "ring_from" "ring_from" sRingFrom f fd) (Tx : TxtM K mg C) (hWholeTo : Has P w K mg base "whole_to" ["works", "row", "size"] 3 (spWhole T C)) : FnOk P w K mg base CX0 4 f fd ["works", "row", "size"] (spRingFrom T C) := by
  refine Fn.ok scRingFrom (fun vs H Q E h => ?_) (fun cdv A outer s H vs Q E hr h => ?_)
  · obtain ⟨G, W, wv, r, s, rfl, _⟩ := h
    rfl
  · obtain ⟨G, W, wv, r, s, rfl, hG, hW, ok, hL, hrl, hs1, hs, k⟩ := h
    refine ⟨_, (pss_cons (ps_set (i := 3) scRingFrom.nd rfl (by first | exact .inl rfl | exact .inr rfl) (pe_lst pa_nil))
      (pss_cons (ps_while PassesOwn.never (PW.pt (pw_and (pt_cmpR op_notN (pv 1) pe_non (nomark _)) (pw_and1 (pt_cmpR (ninI K) (pv 1) (pv 3) (by rfl))))) (pss_cons (ps_expr (bmK K PySem.F.plainAttrs_list PySem.F.slot_list_append PySem.F.type_list_append mt_append (pv 3) (pa_cons (pv 1) pa_nil)))
        (pss_one (ps_set (i := 1) scRingFrom.nd rfl (by first | exact .inl rfl | exact .inr rfl) (pe_def hWholeTo hr (by decide) (by rfl) (pa_cons (pv 0) (pa_cons (pv 1) (pa_cons (pv 2) pa_nil))))))))
      (pss_cons (ps_if (pt_cmpR op_isN (pv 1) pe_non (nomark _)) (pss_one (ps_ret (pe_lst pa_nil))) pss_nil)
      (pss_one (ps_ret (pe_slice (slL K) (pv 3) (po_some (bmK K PySem.F.plainAttrs_list PySem.F.slot_list_index PySem.F.type_list_index (indexK K) (pv 3) (pa_cons (pv 1) pa_nil))) po_none)))))), ?_⟩
    have S0 := Sit.refl (T := T) hG
    refine ⟨Nat.zero_le _, fun l nlz => ?_⟩
    have S1 := S0.lstc [] nlz
    obtain ⟨e, he⟩ := hL s r hs1 hrl
    obtain ⟨m0, hm2, hm1, hm0⟩ := fin_least he
    have few := ok.good.few
    refine ⟨fun m σ H1 => ∃ (o : Option Nat) (seen : List Nat), σ = [some wv, some (optV o), some (.int (s : Int)), some (.ref l)] ∧ Sit T G H G H1 ∧ G l = none ∧ H1 l = some (.lst ((toI seen).map V.int)) ∧ seen.length ≤ m0 + 1 - m ∧ m ≤ m0 + 1 ∧
      match o with
      | none => True
      | some r' => r' < W.rows.length ∧ ∃ m' e', m = m' + 1 ∧ fin W.rows s (m' + 1) r' = some e' ∧ fin W.rows s m' r' = none ∧ ∀ x ∈ seen, fin W.rows s (m' + 1) x = none,
      ⟨m0 + 1, some r, [], rfl, S1, hG.none nlz, upd_same, Nat.zero_le _, Nat.le_refl _, hrl, m0, e, rfl, hm1, hm0, fun x hx => absurd hx (by simp)⟩, ?_⟩
    rintro m σ H1 ⟨o, seen, rfl, S2, hGl, hl, hlen, hmm, ho⟩
    cases o with
    | none =>
      (refine ⟨_, rfl, rfl, _, rfl, ?_⟩)
      refine ite_nno rfl ?_
      refine iteF ?_
      refine ⟨_, rfl, rfl, _, rfl, ite_yes rfl ⟨Nat.zero_le _, fun p np => ?_⟩⟩
      obtain ⟨G3, S3, g3, k3⟩ := S2.lst [] np
      exact k _ _ _ S3 ⟨p, rfl, k3⟩
    | some r' =>
      obtain ⟨hr', m', e', rfl, hf1, hf0, hseen⟩ := ho
      have hno : r' ∉ seen := fun hm => by
        rw [hseen r' hm] at hf1
        cases hf1
      refine ⟨_, rfl, rfl, _, rfl, ite_nyes (fun z => by cases z) ?_⟩
      refine ⟨_, rfl, _, rfl, l, _, _, rfl, rfl, SqL.of hl, _, rfl, ite_nyes (fun z => hno (mem_toI.mp z)) ?_⟩
      refine ⟨fun σ' H' => ∃ m1, m1 < m' + 1 ∧ _, fun σ' H' z => z, ?_⟩
      refine ⟨_, rfl, .inl ⟨rfl, _, SqL.of hl⟩, _, rfl, l, _, _, rfl, rfl, hl, small_line (by rw [List.length_map]; unfold toI; rw [List.length_map]; omega), ?_⟩
      have S3 := S2.mut (u := .lst ((toI (seen ++ [r'])).map V.int)) nlz hGl hl trivial
      rw [toI_snoc, map_snoc] at S3
      refine ⟨_, rfl, _, rfl, _, rfl, G, W, wv, r', s, rfl, S3.gh, hW, ok, hr', hs1, hs, fun H4 S4 => ?_⟩
      have k4 := S4.kept hGl upd_same trivial
      have S5 := S3.trans S4
      have hl4 : H4 l = some (.lst ((toI (seen ++ [r'])).map V.int)) := by
        rw [toI_snoc, map_snoc]
        exact k4.2
      have hlen2 : (seen ++ [r']).length ≤ m0 + 1 - m' := by
        (rw [List.length_append, List.length_singleton])
        omega
      cases q : stepW W.rows s r' with
      | none => exact ⟨0, by omega, none, seen ++ [r'], rfl, S5, hGl, hl4, by omega, by omega, trivial⟩
      | some r2 =>
        rw [fin_step q] at hf1
        cases m' with
        | zero => cases hf1
        | succ m2 =>
          refine ⟨m2 + 1, by omega, some r2, seen ++ [r'], rfl, S5, hGl, hl4, by omega, by omega, (step_lt ok.good q).2, m2, e', rfl, hf1, ?_, fun x hx => ?_⟩
          · rw [fin_step q] at hf0
            exact hf0
          · (rcases List.mem_append.mp hx with hx | hx)
            · cases w1 : fin W.rows s (m2 + 1) x with
              | none => rfl
              | some e2 =>
                have := fin_succ w1
                rw [hseen x hx] at this
                cases this
            · rw [List.mem_singleton.mp hx]
              exact hf0
end Mw

set_option Elab.async false
set_option linter.all false
set_option maxRecDepth 100000
set_option maxHeartbeats 4000003
namespace Mw
open PySem.Spec PyProof.Rows L2 LamX PySem
variable {P : Program} {w : World} {K : PySem.W.Frag} {mg : Str → Option Value} {base : Heap} {T : List (Addr × Str)} {C : Addr}
/-! ### rows asked for their kind -/
def openOf : Rw → Nat
  | .mesh o _ _ => o
  | _ => 0
section
variable {σ : L2.St} {G H : Hp} {j : Nat} {r : Rw} {v : V}
theorem row_zero (h : RowR r v G) : ∃ a t, v = .ref a ∧ G a = some (.tup (rowV r)) ∧ (rowV r)[0]? = some (.str t) ∧ decide (V.str t = V.str "mesh") = r.isMesh ∧ decide (V.str t = V.str "crush") = r.isCrush ∧ decide (V.str t = V.str "bin") = !(r.isMesh || r.isCrush) := by
  obtain ⟨a, e, ha⟩ := h
  cases r with
  | mesh o u w => exact ⟨a, _, e, ha, rfl, decide_eq_true rfl, decide_eq_false ne_mc, decide_eq_false ne_mb⟩
  | crush t => exact ⟨a, _, e, ha, rfl, decide_eq_false ne_cm, decide_eq_true rfl, decide_eq_false ne_cb⟩
  | bin n => exact ⟨a, _, e, ha, rfl, decide_eq_false ne_bm, decide_eq_false ne_bc, decide_eq_true rfl⟩
theorem ev_isMesh (hj : σ[j]? = some (some v)) (h : RowR r v G) : EvB T (tTest (tOp rEq (tOp (rIxT K) (tVar j) (tC (.int 0))) (tC (.str "mesh")))) σ G r.isMesh := fun H s Q q => by
  obtain ⟨a, t, rfl, ha, h0, e1, _⟩ := row_zero h
  refine ⟨_, hj, a, _, _, _, rfl, rfl, SqT.of (s.at ha), atI_nat (j := 0) h0, rfl, _, rfl, ?_⟩
  show Q (decide (V.str t = V.str "mesh")) H
  rw [e1]
  exact q H (Sit.refl s)
theorem ev_isCrush (hj : σ[j]? = some (some v)) (h : RowR r v G) : EvB T (tTest (tOp rEq (tOp (rIxT K) (tVar j) (tC (.int 0))) (tC (.str "crush")))) σ G r.isCrush := fun H s Q q => by
  obtain ⟨a, t, rfl, ha, h0, _, e1, _⟩ := row_zero h
  refine ⟨_, hj, a, _, _, _, rfl, rfl, SqT.of (s.at ha), atI_nat (j := 0) h0, rfl, _, rfl, ?_⟩
  show Q (decide (V.str t = V.str "crush")) H
  rw [e1]
  exact q H (Sit.refl s)
theorem ev_open (hj : σ[j]? = some (some v)) (h : RowR r v G) (m : r.isMesh = true) : EvR T (tOp (rIxT K) (tVar j) (tC (.int 1))) σ G NatR (openOf r) := fun H s Q q => by
  obtain ⟨a, rfl, ha⟩ := h
  cases r with
  | mesh o u w => exact ⟨_, hj, a, _, _, _, rfl, rfl, SqT.of (s.at ha), atI_nat (j := 1) rfl, q _ _ _ (Sit.refl s) rfl⟩
  | crush t => cases m
  | bin n => cases m
end
theorem opens_eq (rows : List Rw) : (rows.filter Rw.isMesh).map openOf = opens rows := by
  induction rows with
  | nil => rfl
  | cons r l ih =>
    cases r with
    | mesh o u v => exact congrArg (List.cons o) ih
    | crush t => exact ih
    | bin n => exact ih
theorem opens_len (rows : List Rw) : (opens rows).length ≤ rows.length := by
  rw [← opens_eq, List.length_map]
  exact List.length_filter_le _ _
theorem nats_ints {ns : List Nat} {v : V} {G : Hp} (h : LstR NatR ns v G) : IntsR (toI ns) v G := by
  obtain ⟨a, vs, e, h, r⟩ := h
  refine LstR.ints ⟨a, vs, e, h, ⟨?_, fun i x v e1 e2 => ?_⟩⟩
  · rw [r.len]
    unfold toI
    rw [List.length_map]
  · unfold toI at e1
    rw [List.getElem?_map] at e1
    cases q : ns[i]? with
    | none => rw [q] at e1; cases e1
    | some n =>
      rw [q] at e1
      rw [← Option.some.inj e1]
      exact r.at_ i n v q e2
/-- the openings' list: [row[1] for row in .. if row[0] == "mesh"] -/
theorem comp_opens {σ : L2.St} {G H1 : Hp} {ws : List Nat} {Q : Addr → Hp → Prop} {a : Addr} {rows : List Rw} {vs : List V} {j : Nat} (hGH : Sm G H1) (ha : G a = some (.lst vs)) (hr : AllR RowR rows vs G) (hn : rows.length ≤ 100000)
    (hw : ∀ x, wipe ((wipe σ ws).set j (some x)) ws = wipe σ ws) (hj : ∀ x, ((wipe σ ws).set j (some x))[j]? = some (some x)) (hq : ∀ D G' H', Sit T G H1 G' H' → H1 D = none → IntsR (toI (opens rows)) (.ref D) G' → Q D H') :
    ∀ D, H1 D = none → ∃ W : Nat → Nat → Hp → Prop, (∃ m, W 0 m (upd H1 D (.lst []))) ∧ ∀ i m H, W i m H →
      ((Itl K a).stop i H ∧ Q D H) ∨ ((Itl K a).go i H ∧ ∃ Nx : Hp → Prop, (∀ H', Nx H' → ∃ m', m' < m ∧ W (i + 1) m' H') ∧ ∀ x H', (Itl K a).yld i H x H' → gName j x (wipe σ ws) H' fun σ2 H2 => wipe σ2 ws = wipe σ ws ∧ (tTest (tOp rEq (tOp (rIxT K) (tVar j) (tC (.int 0))) (tC (.str "mesh")))) σ2 H2 fun b H3 =>
        if b = true then (tOp (rIxT K) (tVar j) (tC (.int 1))) σ2 H3 fun yv H4 => ∃ acc, H4 D = some (.lst acc) ∧ acc.length < sizeLine ∧ Nx (upd H4 D (.lst (acc ++ [yv]))) else Nx H3) :=
  comp_list (T := T) (S := NatR) (R := RowR) Rw.isMesh openOf hGH ha hr hn hw (fun i x v _ _ r => ev_isMesh (hj v) r) (fun i x v _ _ r m => ev_open (hj v) r m) fun D G' H' a n r => hq D G' H' a n (by rw [opens_eq] at r; exact nats_ints r)
/-! ### sizes_looked -/
def spSizesLooked (T : List (Addr × Str)) (C : Addr) : L2.Sp := fun vs H Q _ => ∃ (G : Hp) (W : Wk) (wv : V), vs = [wv] ∧ Sm G H ∧ WkR C W wv G ∧ WOk W ∧ ∀ ns : List Int, (∀ x ∈ ns, 1 ≤ x ∧ x ≤ 1000) → ns.length ≤ 1000 → Ret T IntsR ns G H Q
abbrev sSizesLooked : Stmt := topS 19
theorem scSizesLooked : FnScope ["works", "openings", "row", "opening"] ["works"] (defScope sSizesLooked) := ⟨rfl, rfl, rfl, by decide +kernel, rfl, by decide +kernel, by decide +kernel⟩
theorem okSizesLooked {f : Addr} {fd : FuncData} (Fn : Fun K "sizes_looked" "sizes_looked" sSizesLooked f fd) (Tx : TxtM K mg C) : FnOk P w K mg base CX0 1 f fd ["works"] (spSizesLooked T C) := by
  refine Fn.ok scSizesLooked (fun vs H Q E h => ?_) (fun cdv A outer s H vs Q E hr h => ?_)
  · obtain ⟨G, W, wv, rfl, _⟩ := h
    rfl
  · obtain ⟨G, W, wv, rfl, hG, hW, ok, k⟩ := h
    refine ⟨_, (pss_cons (ps_setLc (i := 1) (own := [("row", 2)]) rfl scSizesLooked.nd rfl rfl (sw_true rfl rfl rfl (by decide +kernel)) (itL K (fldK K (pv 0))) (blkOk_by (N := ["works", "openings", "row", "opening"]) (sc := defScope sSizesLooked) (by decide +kernel)) (fun _ _ _ _ _ => (pg_name (i := 2) scSizesLooked.nd rfl (by first | exact .inl rfl | exact .inr rfl))) (fun _ _ _ _ _ => (pts_one (pt_cmpR op_eq (pe_ix (ixT K) (pv 2) pe_int (fun _ _ => rfl)) pe_str (nomark _)))) (fun _ _ _ _ _ => (pe_ix (ixT K) (pv 2) pe_int (fun _ _ => rfl))))
      (pss_one (ps_ret (pe_callB (sortK K) (by rfl) Tx.sorted (by decide +kernel) (pa_cons (pe_op op_cat (pe_op op_cat (pe_lst (pa_cons pe_int pa_nil)) (pv 1)) (pe_lc (own := [("opening", 3)]) rfl scSizesLooked.nd (itL K (pv 1)) (blkOk_by (N := ["works", "openings", "row", "opening"]) (sc := defScope sSizesLooked) (by decide +kernel)) (fun _ _ _ _ _ => (pg_name (i := 3) scSizesLooked.nd rfl (by first | exact .inl rfl | exact .inr rfl))) (fun _ _ _ _ _ => pts_nil) (fun _ _ _ _ _ => (pe_op op_add (pv 3) pe_int)))) pa_nil))))), ?_⟩
    have few := ok.good.few
    refine ⟨_, rfl, rd_rows Tx hW hG fun l vs hl ha => ⟨l, rfl, ⟨_, SqL.of (hG.at hl)⟩, comp_opens (T := T) hG hl ha (by omega) (fun _ => rfl) (fun _ => rfl) fun D G1 H1 S1 n1 r1 => ?_⟩⟩
    obtain ⟨_, e, h1⟩ := r1
    cases e
    have ol := opens_len W.rows
    have tl : (toI (opens W.rows)).length ≤ 6 := by
      unfold toI
      rw [List.length_map]
      omega
    refine ⟨sz1, fun p1 np1 => ?_⟩
    obtain ⟨G2, S2, g2, k2⟩ := S1.lst [.int 1] np1
    refine ⟨_, rfl, p1, D, _, _, rfl, rfl, upd_same, S2.gh.at (g2 _ _ h1), small_le (by rw [List.length_map]; show 1 + _ ≤ _; omega), fun p2 np2 => ?_⟩
    obtain ⟨G3, S3, g3, k3⟩ := S2.lst ([.int 1] ++ (toI (opens W.rows)).map V.int) np2
    refine ⟨_, rfl, D, rfl, ⟨_, SqL.of (S3.gh.at (g3 _ _ (g2 _ _ h1)))⟩, comp_list (T := T) (S := IntR) (R := IntR) (fun _ => true) (fun x => x + 1) S3.gh (g3 _ _ (g2 _ _ h1)) AllR.of_ints (by omega) (fun _ => rfl) (fun i x v _ _ _ => eb_yes) (fun i x v _ _ r _ H0 g Q q => ?_) fun D2 G4 H4 S4 n4 r4 => ?_⟩
    · cases r
      exact ⟨_, rfl, _, _, rfl, rfl, q _ _ _ (Sit.refl g) rfl⟩
    · rw [filter_yes] at r4
      obtain ⟨_, e, h4⟩ := r4.ints
      cases e
      refine ⟨p2, D2, _, _, rfl, rfl, S4.gh.at (S4.gg _ _ k3), S4.gh.at h4, small_le (by rw [List.length_append, List.length_map, List.length_map, List.length_map]; show 1 + _ + _ ≤ _; omega), fun p3 np3 => ?_⟩
      obtain ⟨G5, S5, g5, k5⟩ := (S3.trans S4).lst ([.int 1] ++ (toI (opens W.rows)).map V.int ++ ((toI (opens W.rows)).map fun x => x + 1).map V.int) np3
      have e5 : ([.int 1] ++ (toI (opens W.rows)).map V.int ++ ((toI (opens W.rows)).map fun x => x + 1).map V.int) = ([1] ++ toI (opens W.rows) ++ (toI (opens W.rows)).map fun x => x + 1).map V.int := by
        rw [List.map_append, List.map_append]
        rfl
      rw [e5] at k5
      have bd : ∀ x ∈ toI (opens W.rows), 1 ≤ x ∧ x ≤ 4 := fun x hx => by
        unfold toI at hx
        obtain ⟨o, ho, e⟩ := List.mem_map.mp hx
        obtain ⟨u, v, hm⟩ := mem_opens.mp ho
        have := ok.good.ok _ hm
        unfold Rw.ok at this
        omega
      refine ⟨p3, _, rfl, SqL.of (S5.gh.at k5), fun ns' p6 hp _ np6 => ?_⟩
      obtain ⟨G6, S6, g6, k6⟩ := S5.lst (ns'.map V.int) np6
      refine k ns' (fun x hx => ?_) ?_ _ _ _ S6 ⟨p6, rfl, k6⟩
      · have hm := hp.mem_iff.mp hx
        (rcases List.mem_append.mp hm with hm | hm)
        · (rcases List.mem_append.mp hm with hm | hm)
          · (rw [List.mem_singleton.mp hm])
            decide
          · have := bd x hm
            omega
        · obtain ⟨y, hy, e⟩ := List.mem_map.mp hm
          have := bd y hy
          omega
      · rw [hp.length_eq, List.length_append, List.length_append, List.length_map]
        show 1 + _ + _ ≤ _
        omega
end Mw

set_option Elab.async false
set_option linter.all false
set_option maxRecDepth 100000
set_option maxHeartbeats 4000003
namespace Mw
open PySem.Spec PyProof.Rows L2 LamX PySem
variable {P : Program} {w : World} {K : PySem.W.Frag} {mg : Str → Option Value} {base : Heap} {T : List (Addr × Str)} {C : Addr}
/-! ### ring_of -/
theorem eqv_nil : PyData.eqv (.list []) (.list []) = true := by rfl
theorem iteF' {A B : Prop} {b : Bool} (e : b = false) (h : B) : if b = true then A else B := by
  rw [e]
  exact iteF h
theorem iteT' {A B : Prop} {b : Bool} (e : b = true) (h : A) : if b = true then A else B := by
  rw [e]
  exact iteT h
def spRingOf (T : List (Addr × Str)) (C : Addr) : L2.Sp := fun vs H Q _ => ∃ (G : Hp) (W : Wk) (wv : V), vs = [wv] ∧ Sm G H ∧ WkR C W wv G ∧ WOk W ∧ Loose W.rows ∧ RetV T .non G H Q
abbrev sRingOf : Stmt := topS 20
theorem scRingOf : FnScope ["works", "size", "row", "ring"] ["works"] (defScope sRingOf) := ⟨rfl, rfl, rfl, by decide +kernel, rfl, by decide +kernel, by decide +kernel⟩
theorem okRingOf {f : Addr} {fd : FuncData} (Fn : Fun K "ring_of" "ring_of" sRingOf f fd) (Tx : TxtM K mg C) (hRingFrom : Has P w K mg base "ring_from" ["works", "row", "size"] 4 (spRingFrom T C)) (hSizesLooked : Has P w K mg base "sizes_looked" ["works"] 1 (spSizesLooked T C)) : FnOk P w K mg base CX0 5 f fd ["works"] (spRingOf T C) := by
  refine Fn.ok scRingOf (fun vs H Q E h => ?_) (fun cdv A outer s H vs Q E hr h => ?_)
  · obtain ⟨G, W, wv, rfl, _⟩ := h
    rfl
  · obtain ⟨G, W, wv, rfl, hG, hW, ok, hL, k⟩ := h
    refine ⟨_, (pss_cons (ps_for PassesOwn.never rfl (itL K (pe_def hSizesLooked hr (by decide) (by rfl) (pa_cons (pv 0) pa_nil))) (pg_name (i := 1) scRingOf.nd rfl (by first | exact .inl rfl | exact .inr rfl))
        (pss_one (ps_for PassesOwn.never rfl (pi_range1 (by rfl) Tx.range (pa_cons (pe_callB (lenK K) (by rfl) Tx.len PySem.boot_len (pa_cons (fldK K (pv 0)) pa_nil)) pa_nil)) (pg_name (i := 2) scRingOf.nd rfl (by first | exact .inl rfl | exact .inr rfl))
          (pss_cons (ps_set (i := 3) scRingOf.nd rfl (by first | exact .inl rfl | exact .inr rfl) (pe_def hRingFrom hr (by decide) (by rfl) (pa_cons (pv 0) (pa_cons (pv 2) (pa_cons (pv 1) pa_nil)))))
          (pss_one (ps_if (pt_cmpR (neK K hr.units) (pv 3) (pe_lst pa_nil) (nomark _)) (pss_one (ps_ret (pe_tup (pa_cons (pv 1) (pa_cons (pv 3) pa_nil))))) pss_nil))))))
      (pss_one (ps_ret pe_non))), ?_⟩
    have few := ok.good.few
    refine ⟨_, rfl, G, W, wv, rfl, hG, hW, ok, fun ns hns hnl v1 G1 H1 S1 r1 => ?_⟩
    obtain ⟨a1, rfl, h1⟩ := r1
    refine ⟨a1, rfl, ⟨_, SqL.of (S1.gh.at h1)⟩, for_list (K := K) (a := a1) (xs := ns.map V.int) (fun i σ H' => ∃ y1 y2 y3, σ = [some wv, y1, y2, y3] ∧ Sit T G H G1 H') ⟨none, none, none, rfl, S1⟩ (fun i σ H' _ ⟨_, _, _, _, S⟩ => SqL.of (S.gh.at h1)) ?_ ?_⟩
    · rintro i x σ H2 hx ⟨y1, y2, y3, rfl, S2⟩
      obtain ⟨z, hz, rfl⟩ : ∃ z, ns[i]? = some z ∧ x = .int z := by
        rw [List.getElem?_map] at hx
        cases q : ns[i]? with
        | none => rw [q] at hx; cases hx
        | some z => rw [q] at hx; exact ⟨z, rfl, (Option.some.inj hx).symm⟩
      obtain ⟨hz1, hz2⟩ := hns z (List.mem_of_getElem? hz)
      obtain ⟨sz, rfl⟩ : ∃ sz : Nat, z = (sz : Int) := ⟨z.toNat, by omega⟩
      have hW2 := Up.up (R := WkR C) S2.gg hW
      refine ⟨_, rfl, rd_rows Tx hW2 S2.gh fun l vs hl ha => ⟨l, vs, rfl, .inl (SqL.of (S2.gh.at hl)), _, rfl, by omega, by have := ha.len; omega,
        for_range (lo := 0) (n := ((vs.length : Int)).toNat) (fun j σ H' => ∃ y2 y3, σ = [some wv, some (.int (sz : Int)), y2, y3] ∧ Sit T G H G1 H') ⟨y2, y3, rfl, S2⟩ ?_ ?_⟩⟩
      · rintro j σ H3 hj ⟨y2, y3, rfl, S3⟩
        have hjl : j < W.rows.length := by
          have := ha.len
          omega
        have hW3 := Up.up (R := WkR C) S3.gg hW
        refine ⟨_, rfl, _, rfl, _, rfl, G1, W, wv, j, sz, (by rw [Int.zero_add]; rfl), S3.gh, hW3, ok, hL, hjl, by omega, by omega, fun v4 G4 H4 S4 r4 => ?_⟩
        obtain ⟨a4, rfl, h4⟩ := r4
        refine ⟨_, rfl, Nat.zero_le _, fun p np => ?_⟩
        have S5 := (S3.trans S4).lst [] np
        obtain ⟨G5, S5, g5, k5⟩ := S5
        refine ⟨.list [], .list [], .lst (SqL.of (S5.gh.at (g5 _ _ h4))) .nil, .lst (SqL.of (S5.gh.at k5)) .nil, rfl, rfl, _, rfl, iteF' (by rw [eqv_nil]; rfl) ?_⟩
        exact ⟨_, _, rfl, S5.sub S1.gg (S4.gg.trans g5)⟩
      · rintro σ H3 ⟨y2, y3, rfl, S3⟩
        exact ⟨_, _, _, rfl, S3⟩
    · rintro σ H2 ⟨y1, y2, y3, rfl, S2⟩
      exact k H2 S2.drop
/-! ### good_row, Works(..) -/
theorem putF_two (a b : V) : putF "rows" b (putF "parts" a []) = [(("parts" : Str), a), (("rows" : Str), b)] := by
  show putF "rows" b [(("parts" : Str), a)] = _
  unfold putF
  (rw [if_neg (by decide +kernel)])
  rfl
theorem rowV_len (r : Rw) : (rowV r).length = (match r with | .mesh _ _ _ => 4 | _ => 2) := by
  cases r <;> rfl
def spGoodRow (T : List (Addr × Str)) (K : PySem.W.Frag) : L2.Sp := fun vs H Q _ => ∃ (G : Hp) (r : Rw) (m : Nat) (rv : V), vs = [rv, .int (m : Int)] ∧ Sm G H ∧ RowR r rv G ∧ r.ok m ∧ RetV T (.bl true) G H Q
abbrev sGoodRow : Stmt := topS 12
theorem scGoodRow : FnScope ["row", "many"] ["row", "many"] (defScope sGoodRow) := ⟨rfl, rfl, rfl, by decide +kernel, rfl, by decide +kernel, by decide +kernel⟩
theorem okGoodRow {f : Addr} {fd : FuncData} (Fn : Fun K "good_row" "good_row" sGoodRow f fd) (Tx : TxtM K mg C) : FnOk P w K mg base CX0 1 f fd ["row", "many"] (spGoodRow T K) := by
  refine Fn.ok scGoodRow (fun vs H Q E h => ?_) (fun cdv A outer s H vs Q E hr h => ?_)
  · obtain ⟨G, r, m, rv, rfl, _⟩ := h
    rfl
  · obtain ⟨G, r, m, rv, rfl, hG, ⟨a, rfl, ha⟩, ok, k⟩ := h
    refine ⟨_, (pss_cons (ps_if (PW.pt (pw_and (pt_cmpR op_eq (pe_callB (lenK K) (by rfl) Tx.len PySem.boot_len (pa_cons (pv 0) pa_nil)) pe_int (nomark _)) (pw_and1 (pt_cmpR op_eq (pe_ix (ixT K) (pv 0) pe_int (fun _ _ => rfl)) pe_str (nomark _))))) (pss_one (ps_ret (pe_and (pe_chain op_le op_le pe_int (pe_ix (ixT K) (pv 0) pe_int (fun _ _ => rfl)) (pe_cst Tx.cWIDEST_works)) (pe_and (pe_chain op_le op_lt pe_int (pe_ix (ixT K) (pv 0) pe_int (fun _ _ => rfl)) (pv 1)) (pe_one (pe_chain op_le op_lt pe_int (pe_ix (ixT K) (pv 0) pe_int (fun _ _ => rfl)) (pv 1))))))) pss_nil)
      (pss_cons (ps_if (PW.pt (pw_and (pt_cmpR op_eq (pe_callB (lenK K) (by rfl) Tx.len PySem.boot_len (pa_cons (pv 0) pa_nil)) pe_int (nomark _)) (pw_and1 (pt_cmpR op_eq (pe_ix (ixT K) (pv 0) pe_int (fun _ _ => rfl)) pe_str (nomark _))))) (pss_one (ps_ret (pe_chain op_le op_lt pe_int (pe_ix (ixT K) (pv 0) pe_int (fun _ _ => rfl)) (pv 1)))) pss_nil)
      (pss_one (ps_ret (pe_and (pe_cmpR op_eq (pe_callB (lenK K) (by rfl) Tx.len PySem.boot_len (pa_cons (pv 0) pa_nil)) pe_int (nomark _)) (pe_and (pe_cmpR op_eq (pe_ix (ixT K) (pv 0) pe_int (fun _ _ => rfl)) pe_str (nomark _)) (pe_one (pe_chain op_le op_le pe_int (pe_ix (ixT K) (pv 0) pe_int (fun _ _ => rfl)) (pe_cst Tx.cMOST_BIN))))))))), ?_⟩
    have k := k H (Sit.refl hG)
    have ht := SqT.of (K := K) (hG.at ha)
    refine ⟨_, rfl, a, _, rfl, .inr ht, rfl, _, rfl, ?_⟩
    cases r with
    | mesh o u v =>
      unfold Rw.ok at ok
      refine ite_yes rfl ⟨_, rfl, a, _, _, _, rfl, rfl, ht, atI_nat (j := 0) rfl, rfl, _, rfl, ite_yes rfl ?_⟩
      refine ⟨_, rfl, a, _, _, _, rfl, rfl, ht, atI_nat (j := 1) rfl, _, _, rfl, rfl, _, rfl, ite_yes (by omega) ⟨_, _, rfl, rfl, _, rfl, ite_yes (by omega) ?_⟩⟩
      refine ⟨_, rfl, a, _, _, _, rfl, rfl, ht, atI_nat (j := 2) rfl, _, _, rfl, rfl, _, rfl, ite_yes (by omega) ⟨_, rfl, _, _, rfl, rfl, _, rfl, ite_yes (by omega) ?_⟩⟩
      refine ⟨_, rfl, a, _, _, _, rfl, rfl, ht, atI_nat (j := 3) rfl, _, _, rfl, rfl, _, rfl, ite_yes (by omega) ⟨_, rfl, _, _, rfl, rfl, ?_⟩⟩
      have e : decide ((v : Int) < (m : Int)) = true := decide_eq_true (by omega)
      show Q (.bl (decide ((v : Int) < (m : Int)))) H
      rw [e]
      exact k
    | crush t =>
      have ok : t < m := ok
      refine ite_no (ine (by show (2 : Int) ≠ 4; decide)) ?_
      refine ⟨_, rfl, a, _, rfl, .inr ht, rfl, _, rfl, ite_yes rfl ⟨_, rfl, a, _, _, _, rfl, rfl, ht, atI_nat (j := 0) rfl, rfl, _, rfl, ite_yes rfl ?_⟩⟩
      refine ⟨_, rfl, a, _, _, _, rfl, rfl, ht, atI_nat (j := 1) rfl, _, _, rfl, rfl, _, rfl, ite_yes (by omega) ⟨_, rfl, _, _, rfl, rfl, ?_⟩⟩
      have e : decide ((t : Int) < (m : Int)) = true := decide_eq_true (by omega)
      show Q (.bl (decide ((t : Int) < (m : Int)))) H
      rw [e]
      exact k
    | bin n =>
      have ok : n ≤ 5 := ok
      refine ite_no (ine (by show (2 : Int) ≠ 4; decide)) ?_
      refine ⟨_, rfl, a, _, rfl, .inr ht, rfl, _, rfl, ite_yes rfl ⟨_, rfl, a, _, _, _, rfl, rfl, ht, atI_nat (j := 0) rfl, rfl, _, rfl, ite_no ne_bc ?_⟩⟩
      refine ⟨_, rfl, a, _, rfl, .inr ht, rfl, _, rfl, ite_yes rfl ⟨_, rfl, a, _, _, _, rfl, rfl, ht, atI_nat (j := 0) rfl, rfl, _, rfl, ite_yes rfl ?_⟩⟩
      refine ⟨_, rfl, a, _, _, _, rfl, rfl, ht, atI_nat (j := 1) rfl, _, _, rfl, rfl, _, rfl, ite_yes (by omega) ⟨_, _, rfl, rfl, ?_⟩⟩
      have e : decide ((n : Int) ≤ (5 : Int)) = true := decide_eq_true (by omega)
      show Q (.bl (decide ((n : Int) ≤ (5 : Int)))) H
      rw [e]
      exact k
def spInit (T : List (Addr × Str)) (C : Addr) : L2.Sp := fun vs H Q _ => ∃ (G0 H0 : Hp) (x dx : Addr) (W : Wk) (rv : V), vs = [.ref x, .int (W.p : Int), rv] ∧ H0 x = none ∧ H0 dx = none ∧ dx ≠ x ∧ H = upd (upd H0 dx (.own x)) x (.ins C dx []) ∧ Sm G0 H0 ∧ LstR RowR W.rows rv G0 ∧ WOk W ∧
  ∀ G' H', Sit T G0 H0 G' H' → WkR C W (.ref x) G' → Q .non H'
abbrev sInit : Stmt := inClass (topS 13) 0
theorem scInit : FnScope ["self", "parts", "rows", "row"] ["self", "parts", "rows"] (defScope sInit) := ⟨rfl, rfl, rfl, by decide +kernel, rfl, by decide +kernel, by decide +kernel⟩
theorem okInit {f : Addr} {fd : FuncData} (Fn : Fun K "__init__" "Works.__init__" sInit f fd) (Tx : TxtM K mg C) (hGoodRow : Has P w K mg base "good_row" ["row", "many"] 1 (spGoodRow T K)) : FnOk P w K mg base CX0 2 f fd ["self", "parts", "rows"] (spInit T C) := by
  refine Fn.ok scInit (fun vs H Q E h => ?_) (fun cdv A outer s H vs Q E hr h => ?_)
  · obtain ⟨G0, H0, x, dx, W, rv, rfl, _⟩ := h
    rfl
  · obtain ⟨G0, H0, x, dx, W, rv, rfl, hx, hdx, hne, rfl, hG, hrv, ok, k⟩ := h
    refine ⟨_, (pss_cons (ps_if (PW.pt (pw_or (pt_cmpR op_lt (pv 1) pe_int (nomark _)) (pw_or (pt_cmpR op_gt (pv 1) (pe_cst Tx.cMOST_PARTS) (nomark _)) (pw_or (pt_cmpR op_lt (pe_callB (lenK K) (by rfl) Tx.len PySem.boot_len (pa_cons (pv 2) pa_nil)) pe_int (nomark _)) (pw_or1 (pt_cmpR op_gt (pe_callB (lenK K) (by rfl) Tx.len PySem.boot_len (pa_cons (pv 2) pa_nil)) (pe_cst Tx.cMOST_ROWS) (nomark _))))))) pss_never pss_nil)
      (pss_cons (ps_for PassesOwn.never rfl (itL K (pv 2)) (pg_name (i := 3) scInit.nd rfl (by first | exact .inl rfl | exact .inr rfl))
        (pss_one (ps_if (pt_not (pt_val (pe_def hGoodRow hr (by decide) (by rfl) (pa_cons (pv 3) (pa_cons (pe_callB (lenK K) (by rfl) Tx.len PySem.boot_len (pa_cons (pv 2) pa_nil)) pa_nil))))) pss_never pss_nil)))
      (pss_cons (ps_fld (pv 0) (pv 1) rfl)
      (pss_one (ps_fld (pv 0) (pe_callTy (listK K) (by rfl) Tx.list (by decide +kernel) (pa_cons (pv 2) pa_nil)) rfl))))), ?_⟩
    obtain ⟨a, vs, rfl, ha, hall⟩ := hrv
    have few := ok.good.few
    have pos := ok.good.pos
    have p2 := ok.p2
    have p3 := ok.p3
    have hx1 : upd H0 dx (.own x) x = none := by
      rw [upd_ne (fun z => hne z.symm)]
      exact hx
    have S0 : Sit T G0 H0 G0 (upd (upd H0 dx (.own x)) x (.ins C dx [])) := by
      have a1 := Sit.cell (T := T) (o := .own x) hG hdx (fun ps z => by cases z)
      exact a1.trans (Sit.cell (o := .ins C dx []) a1.gh hx1 (fun ps z => by cases z))
    have hGx := hG.none hx
    have hl := hall.len
    refine ⟨_, rfl, _, _, rfl, rfl, _, rfl, ite_no (by omega) ⟨_, rfl, _, _, rfl, rfl, _, rfl, ite_no (by omega) ⟨_, rfl, a, vs, rfl, .inl (SqL.of (S0.gh.at ha)), _, _, rfl, rfl, _, rfl, ite_no (by omega) ⟨_, rfl, a, vs, rfl, .inl (SqL.of (S0.gh.at ha)), _, _, rfl, rfl, _, rfl, ?_⟩⟩⟩⟩
    have e12 : decide ((12 : Int) < (vs.length : Int)) = false := decide_eq_false (by omega)
    refine iteF' e12 ?_
    refine ⟨_, rfl, a, rfl, ⟨_, SqL.of (S0.gh.at ha)⟩, for_list (K := K) (a := a) (xs := vs) (fun i σ H' => ∃ y, σ = [some (.ref x), some (.int (W.p : Int)), some (.ref a), y] ∧ Sit T G0 H0 G0 H' ∧ H' x = some (.ins C dx [])) ⟨none, rfl, S0, upd_same⟩ (fun i σ H' _ ⟨_, _, S, _⟩ => SqL.of (S.gh.at ha)) ?_ ?_⟩
    · rintro i v σ H2 hv ⟨y, rfl, S2, h2⟩
      obtain ⟨r, hr', rr⟩ := hall.back hv
      refine ⟨_, rfl, _, rfl, a, vs, rfl, .inl (SqL.of (S2.gh.at ha)), G0, r, W.rows.length, v, (by rw [hl]; rfl), S2.gh, rr, ok.good.ok r (List.mem_of_getElem? hr'), fun H3 S3 => ?_⟩
      exact ⟨_, rfl, _, rfl, S2.trans S3, (S3.kept hGx h2 trivial).2⟩
    · rintro σ H2 ⟨y, rfl, S2, h2⟩
      refine ⟨_, rfl, _, rfl, x, C, dx, [], rfl, h2, Tx.cl, Tx.nP, by decide, ?_⟩
      have S3 := S2.mut (u := .ins C dx (putF "parts" (.int (W.p : Int)) [])) hx hGx h2 trivial
      refine ⟨_, rfl, a, vs, rfl, .inl (SqL.of (S3.gh.at ha)), fun l nl => ?_⟩
      obtain ⟨G4, A4, g4, k4⟩ := (Sit.refl (T := T) S3.gh).lst vs nl
      have S4 := S3.trans A4
      obtain ⟨hG4, h4⟩ := A4.kept hGx upd_same trivial
      refine ⟨_, rfl, x, C, dx, _, rfl, h4, Tx.cl, Tx.nR, by show 1 < 1000; decide, ?_⟩
      have S5 := (S4.mut (u := .ins C dx (putF "rows" (.ref l) (putF "parts" (.int (W.p : Int)) []))) hx hG4 h4 trivial).own hx hG4 upd_same trivial
      refine k _ _ S5 ⟨x, dx, l, vs, rfl, ?_, same_new hG4 _ _ k4, hall.up (g4.trans (same_new hG4))⟩
      rw [upd_same, putF_two]
structure MkW (P : Program) (w : World) (K : PySem.W.Frag) (mg : Str → Option Value) (base : Heap) (T : List (Addr × Str)) (C : Addr) : Prop where
  ex : ∃ (f : Addr) (fd : FuncData), Mk K C f ∧ mg "Works" = some (.ref C) ∧ Binds K fd ["self", "parts", "rows"] [] ∧ FnOk P w K mg base CX0 2 f fd ["self", "parts", "rows"] (spInit T C)
theorem pe_mkW {X : Cx} {m : Nat} {e : Expr} {es : List Expr} {p pos : Pos} {t : TA} (h : MkW X.prog X.w X.K X.mg X.base T C) (hr : Room m X.A) (hk : 3 ≤ m) (hg : Gl X "Works") (ha : PA X (e :: es) t)
    (he : starEach (e :: es) X.env = (false, eval e X.env) :: starEach es X.env := by rfl) (hpl : (backTo pos (starEach es X.env)).any (·.1) = false := by rfl) : PE X (.Call (.Name "Works" p) (e :: es) [] pos) (tMake C (spInit T C) [] E0 t) := by
  obtain ⟨f, fd, M, h1, h2, h3⟩ := h.ex
  exact pe_make (p := p) (pos := pos) M h3 (hr.mono hk) hg h1 h2 .nil pass0 ha (by decide) he hpl
theorem rd_mkW {G H : Hp} {W : Wk} {rv : V} {Q : Addr → Hp → Prop} {E : XK} (hG : Sm G H) (hrv : LstR RowR W.rows rv G) (ok : WOk W) (k : ∀ x G' H', Sit T G H G' H' → WkR C W (.ref x) G' → Q x H') :
    ∀ x dx, H x = none → H dx = none → dx ≠ x → spInit T C (.ref x :: ([.int (W.p : Int), rv] ++ [])) (upd (upd H dx (.own x)) x (.ins C dx [])) (fun v H2 => v = .non ∧ Q x H2) E := fun x dx hx hdx hne =>
  ⟨G, H, x, dx, W, rv, rfl, hx, hdx, hne, rfl, hG, hrv, ok, fun G' H' S r => ⟨rfl, k x G' H' S r⟩⟩
end Mw

set_option Elab.async false
set_option linter.all false
set_option maxRecDepth 100000
set_option maxHeartbeats 4000003
namespace Mw
open PySem.Spec PyProof.Rows L2 LamX PySem
variable {P : Program} {w : World} {K : PySem.W.Frag} {mg : Str → Option Value} {base : Heap} {T : List (Addr × Str)} {C : Addr}
/-! ### greatest_part -/
def spInts (T : List (Addr × Str)) (f : List Int → V) : L2.Sp := fun vs H Q _ => ∃ (G : Hp) (row : List Int) (rv : V), vs = [rv] ∧ Sm G H ∧ IntsR row rv G ∧ RetV T (f row) G H Q
theorem gcdL_snoc (l : List Int) (x : Int) : gcdL (l ++ [x]) = Nat.gcd (gcdL l) x.natAbs := by
  unfold gcdL
  rw [List.foldl_append]
  rfl
theorem abs_nat (z : Int) : (if z < 0 then -z else z) = (z.natAbs : Int) := by
  split <;> omega
/-- for number in row: rest = abs(number); while rest > 0: .. : one turn of the while, by slots -/
theorem gcd_step (f r : Nat) : Nat.gcd r (f % r) = Nat.gcd f r := by
  rw [Nat.gcd_comm r, ← Nat.gcd_rec, Nat.gcd_comm]
abbrev sGreatestPart : Stmt := topS 22
theorem scGreatestPart : FnScope ["row", "found", "number", "rest", "kept"] ["row"] (defScope sGreatestPart) := ⟨rfl, rfl, rfl, by decide +kernel, rfl, by decide +kernel, by decide +kernel⟩
theorem okGreatestPart {f : Addr} {fd : FuncData} (Fn : Fun K "greatest_part" "greatest_part" sGreatestPart f fd) (Tx : TxtM K mg C) : FnOk P w K mg base CX0 1 f fd ["row"] (spInts T fun row => .int (gcdL row : Int)) := by
  refine Fn.ok scGreatestPart (fun vs H Q E h => ?_) (fun cdv A outer s H vs Q E hr h => ?_)
  · obtain ⟨G, row, rv, rfl, _⟩ := h
    rfl
  · obtain ⟨G, row, rv, rfl, hG, ⟨a, rfl, ha⟩, k⟩ := h
    refine ⟨_, (pss_cons (ps_set (i := 1) scGreatestPart.nd rfl (by first | exact .inl rfl | exact .inr rfl) pe_int)
      (pss_cons (ps_for PassesOwn.never rfl (itL K (pv 0)) (pg_name (i := 2) scGreatestPart.nd rfl (by first | exact .inl rfl | exact .inr rfl))
        (pss_cons (ps_set (i := 3) scGreatestPart.nd rfl (by first | exact .inl rfl | exact .inr rfl) (pe_callB call_abs (by rfl) Tx.abs (by decide +kernel) (pa_cons (pv 2) pa_nil)))
        (pss_one (ps_while PassesOwn.never (pt_cmpR op_gt (pv 3) pe_int (nomark _)) (pss_cons (ps_set (i := 4) scGreatestPart.nd rfl (by first | exact .inl rfl | exact .inr rfl) (pe_op op_mod (pv 1) (pv 3)))
          (pss_cons (ps_set (i := 1) scGreatestPart.nd rfl (by first | exact .inl rfl | exact .inr rfl) (pv 3))
          (pss_one (ps_set (i := 3) scGreatestPart.nd rfl (by first | exact .inl rfl | exact .inr rfl) (pv 4)))))))))
      (pss_one (ps_ret (pv 1))))), ?_⟩
    have hl := SqL.of (K := K) (hG.at ha)
    refine ⟨_, rfl, a, rfl, ⟨_, hl⟩, for_list (K := K) (a := a) (xs := row.map V.int) (fun i σ H' => ∃ y2 y3 y4, σ = [some (.ref a), some (.int (gcdL (row.take i) : Int)), y2, y3, y4] ∧ H' = H) ⟨none, none, none, rfl, rfl⟩ (fun i σ H' _ ⟨_, _, _, _, e⟩ => by rw [e]; exact hl) ?_ ?_⟩
    · rintro i x σ H2 hx ⟨y2, y3, y4, rfl, rfl⟩
      obtain ⟨z, hz, rfl⟩ : ∃ z, row[i]? = some z ∧ x = .int z := by
        rw [List.getElem?_map] at hx
        cases q : row[i]? with
        | none => rw [q] at hx; cases hx
        | some z => rw [q] at hx; exact ⟨z, rfl, (Option.some.inj hx).symm⟩
      refine ⟨_, rfl, z, rfl, ?_⟩
      refine ⟨fun m σ H' => ∃ (f r : Nat) (y4 : Option V), m = r ∧ σ = [some (.ref a), some (.int (f : Int)), some (.int z), some (.int (r : Int)), y4] ∧ H' = H2 ∧ Nat.gcd f r = gcdL (row.take (i + 1)), ⟨z.natAbs, gcdL (row.take i), z.natAbs, y4, rfl, by rw [← abs_nat]; rfl, rfl, by rw [take_succ_at hz, gcdL_snoc]⟩, ?_⟩
      rintro m σ H3 ⟨f, r, y5, rfl, rfl, rfl, hg⟩
      refine ⟨_, rfl, _, _, rfl, rfl, _, rfl, ite_by (fun hp => ?_) (fun hp => ?_)⟩
      · have hp : (0 : Int) < (m : Int) := hp
        refine ⟨fun σ H' => ∃ m', m' < m ∧ _, fun σ' H' z => z, ?_⟩
        refine ⟨_, rfl, _, rfl, _, _, rfl, rfl, hp, _, rfl, _, rfl, ?_⟩
        exact ⟨f % m, Nat.mod_lt _ (by omega), m, f % m, some (.int ((f % m : Nat) : Int)), rfl, rfl, rfl, by rw [gcd_step]; exact hg⟩
      · have hp : ¬ (0 : Int) < (m : Int) := hp
        have e0 : m = 0 := by omega
        subst e0
        rw [Nat.gcd_zero_right] at hg
        exact ⟨_, _, _, by rw [hg], rfl⟩
    · rintro σ H2 ⟨y2, y3, y4, rfl, rfl⟩
      refine ⟨_, rfl, ?_⟩
      (rw [List.length_map, List.take_length])
      exact k H2 (Sit.refl hG)
/-! ### lowered -/
theorem pylong_same {x y : Int} (h : x = 0 ∨ x.natAbs = y.natAbs) : Builtin.divisionGoesByPylong x y = false := by
  unfold Builtin.divisionGoesByPylong
  have key : (if x == 0 then 0 else x.natAbs.log2 / 30 + 1) ≤ (if y == 0 then 0 else y.natAbs.log2 / 30 + 1) := by
    rcases h with h | h
    · rw [h]
      exact Nat.zero_le _
    · by_cases hx : x = 0
      · rw [hx]
        exact Nat.zero_le _
      · have hy : y ≠ 0 := fun z => by
          rw [z] at h
          omega
        rw [if_neg (by simpa using hx), if_neg (by simpa using hy), h]
        exact Nat.le_refl _
  rw [Bool.and_eq_false_iff]
  right
  exact decide_eq_false (Nat.not_lt.mpr (Nat.le_trans key (Nat.le_add_right _ 150)))
theorem low_div {row : List Int} (h : LowOk row) (h0 : gcdL row ≠ 0) {x : Int} (hx : x ∈ row) : DivOwn x (gcdL row : Int) := by
  refine ⟨by omega, ?_⟩
  obtain ⟨y, hy, hy0⟩ : ∃ y ∈ row, y ≠ 0 := by
    refine Classical.byContradiction fun z => h0 ?_
    have all0 : ∀ y ∈ row, y = 0 := fun y hy => Classical.byContradiction fun q => z ⟨y, hy, q⟩
    have : ∀ l : List Int, (∀ y ∈ l, y = 0) → gcdL l = 0 := fun l => by
      induction l using snoc_rec with
      | h0 => intro _; rfl
      | hs l a ih =>
        intro ha
        rw [gcdL_snoc, ih fun y hy => ha y (List.mem_append_left _ hy), ha a (List.mem_append_right _ (List.mem_singleton.mpr rfl))]
        rfl
    exact this row all0
  have dv := (gcdL_from row 0).2
  have gy : gcdL row ≤ y.natAbs := Nat.le_of_dvd (by omega) (dv y hy)
  rcases h with h | h
  · refine PyProof.noPylong_of_log2 ?_
    obtain ⟨i, hi, e⟩ := List.getElem_of_mem hy
    have w := h i
    rw [vec_of (List.getElem?_eq_getElem hi), e] at w
    have : (gcdL row : Int).natAbs < 2 ^ 9000 := by
      rw [Int.natAbs_natCast]
      exact Nat.lt_of_le_of_lt gy w
    exact PySem.Flt.log2_lt_of (by decide) this
  · refine pylong_same ?_
    by_cases hx0 : x = 0
    · exact .inl hx0
    · right
      rw [Int.natAbs_natCast]
      obtain ⟨i, hi, ei⟩ := List.getElem_of_mem hx
      have wi := vec_of (List.getElem?_eq_getElem hi)
      rw [ei] at wi
      have only : ∀ z ∈ row, z = 0 ∨ z = x := fun z hz => by
        by_cases hz0 : z = 0
        · exact .inl hz0
        · obtain ⟨j, hj, ej⟩ := List.getElem_of_mem hz
          have wj := vec_of (List.getElem?_eq_getElem hj)
          rw [ej] at wj
          have eij := h i j (by rw [wi]; exact hx0) (by rw [wj]; exact hz0)
          subst eij
          exact .inr (wj.symm.trans wi)
      have key : ∀ l : List Int, (∀ z ∈ l, z = 0 ∨ z = x) → gcdL l = 0 ∨ gcdL l = x.natAbs := fun l => by
        induction l using snoc_rec with
        | h0 => intro _; exact .inl rfl
        | hs l a ih =>
          intro ha
          rw [gcdL_snoc]
          have ih' := ih fun y hy => ha y (List.mem_append_left _ hy)
          rcases ha a (List.mem_append_right _ (List.mem_singleton.mpr rfl)) with e | e
          · rw [e]
            show Nat.gcd (gcdL l) 0 = 0 ∨ Nat.gcd (gcdL l) 0 = x.natAbs
            rw [Nat.gcd_zero_right]
            exact ih'
          · rw [e]
            rcases ih' with q | q
            · rw [q, Nat.gcd_zero_left]
              exact .inr rfl
            · rw [q, Nat.gcd_self]
              exact .inr rfl
      rcases key row only with q | q
      · exact absurd q h0
      · exact q.symm
def spLowered (T : List (Addr × Str)) : L2.Sp := fun vs H Q _ => ∃ (G : Hp) (row : List Int) (rv : V), vs = [rv] ∧ Sm G H ∧ IntsR row rv G ∧ row.length ≤ 1000 ∧ LowOk row ∧ Ret T IntsR (lowered row) G H Q
abbrev sLowered : Stmt := topS 23
theorem scLowered : FnScope ["row", "part", "number"] ["row"] (defScope sLowered) := ⟨rfl, rfl, rfl, by decide +kernel, rfl, by decide +kernel, by decide +kernel⟩
theorem okLowered {f : Addr} {fd : FuncData} (Fn : Fun K "lowered" "lowered" sLowered f fd) (Tx : TxtM K mg C) (hGreatestPart : Has P w K mg base "greatest_part" ["row"] 1 (spInts T fun row => .int (gcdL row : Int))) : FnOk P w K mg base CX0 2 f fd ["row"] (spLowered T) := by
  refine Fn.ok scLowered (fun vs H Q E h => ?_) (fun cdv A outer s H vs Q E hr h => ?_)
  · obtain ⟨G, row, rv, rfl, _⟩ := h
    rfl
  · obtain ⟨G, row, rv, rfl, hG, ⟨a, rfl, ha⟩, hlen, low, k⟩ := h
    refine ⟨_, (pss_cons (ps_set (i := 1) scLowered.nd rfl (by first | exact .inl rfl | exact .inr rfl) (pe_def hGreatestPart hr (by decide) (by rfl) (pa_cons (pv 0) pa_nil)))
      (pss_cons (ps_if (pt_cmpR op_eq (pv 1) pe_int (nomark _)) (pss_one (ps_ret (pe_callTy (listK K) (by rfl) Tx.list (by decide +kernel) (pa_cons (pv 0) pa_nil)))) pss_nil)
      (pss_one (ps_ret (pe_lc (own := [("number", 2)]) rfl scLowered.nd (itL K (pv 0)) (blkOk_by (N := ["row", "part", "number"]) (sc := defScope sLowered) (by decide +kernel)) (fun _ _ _ _ _ => (pg_name (i := 2) scLowered.nd rfl (by first | exact .inl rfl | exact .inr rfl))) (fun _ _ _ _ _ => pts_nil) (fun _ _ _ _ _ => (pe_op op_fdivP (pv 2) (pv 1)))))))), ?_⟩
    refine ⟨_, rfl, G, row, .ref a, rfl, hG, ⟨a, rfl, ha⟩, fun H1 S1 => ?_⟩
    unfold lowered at k
    refine ⟨_, rfl, rfl, _, rfl, ite_by (fun z => ?_) (fun z => ?_)⟩
    · have z := V.int.inj z
      rw [if_pos (by omega)] at k
      refine ⟨_, rfl, a, _, rfl, .inl (SqL.of (S1.gh.at ha)), fun p np => ?_⟩
      obtain ⟨G2, S2, g2, k2⟩ := S1.lst (row.map V.int) np
      exact k _ _ _ S2 ⟨p, rfl, k2⟩
    · have z : (gcdL row : Int) ≠ 0 := fun e => z (ieq e)
      rw [if_neg (by omega)] at k
      refine ⟨_, rfl, a, rfl, ⟨_, SqL.of (S1.gh.at ha)⟩, comp_list (T := T) (S := IntR) (R := IntR) (fun _ => true) (fun x => x / (gcdL row : Int)) S1.gh ha AllR.of_ints (by omega) (fun _ => rfl) (fun i x v _ _ _ => eb_yes) (fun i x v hx _ r _ H0 g Q q => ?_) fun D G2 H2 S2 n r => ?_⟩
      · cases r
        exact ⟨_, rfl, _, rfl, _, _, rfl, rfl, low_div low (by omega) (List.mem_of_getElem? hx), q _ _ _ (Sit.refl g) rfl⟩
      · rw [filter_yes] at r
        exact k _ _ _ (S1.trans S2) r.ints
/-! ### first_place -/
def placeV : Option Nat → Int
  | some q => (q : Int)
  | none => -1
theorem fp_take_none {row : List Int} {i : Nat} (h : ∀ j, j < i → vec row j = 0) {z : Int} (hz : row[i]? = some z) (h0 : z ≠ 0) : fp row = some i := by
  unfold fp
  have hi := (List.getElem?_eq_some_iff.mp hz)
  have hi1 := hi.1
  rw [List.findIdx?_eq_some_iff_getElem]
  refine ⟨hi.1, ?_, fun j hj => ?_⟩
  · rw [hi.2]
    simpa using h0
  · have := h j hj
    rw [vec_of (List.getElem?_eq_getElem (by omega))] at this
    rw [this]
    decide
theorem vec_out {row : List Int} {j : Nat} (h : row.length ≤ j) : vec row j = 0 := by
  show row.getD j 0 = 0
  rw [List.getD_eq_getElem?_getD, List.getElem?_eq_none h]
  rfl
abbrev sFirstPlace : Stmt := topS 24
theorem scFirstPlace : FnScope ["row", "place", "number"] ["row"] (defScope sFirstPlace) := ⟨rfl, rfl, rfl, by decide +kernel, rfl, by decide +kernel, by decide +kernel⟩
theorem okFirstPlace {f : Addr} {fd : FuncData} (Fn : Fun K "first_place" "first_place" sFirstPlace f fd) (Tx : TxtM K mg C) : FnOk P w K mg base CX0 1 f fd ["row"] (spInts T fun row => .int (placeV (fp row))) := by
  refine Fn.ok scFirstPlace (fun vs H Q E h => ?_) (fun cdv A outer s H vs Q E hr h => ?_)
  · obtain ⟨G, row, rv, rfl, _⟩ := h
    rfl
  · obtain ⟨G, row, rv, rfl, hG, ⟨a, rfl, ha⟩, k⟩ := h
    refine ⟨_, (pss_cons (ps_for PassesOwn.never rfl (pi_enum (by rfl) Tx.enumerate (pa_cons (pv 0) pa_nil)) (tgT K (n := 2) (pgs_cons (pg_name (i := 1) scFirstPlace.nd rfl (by first | exact .inl rfl | exact .inr rfl)) (pgs_cons (pg_name (i := 2) scFirstPlace.nd rfl (by first | exact .inl rfl | exact .inr rfl)) pgs_nil)))
        (pss_one (ps_if (pt_cmpR op_ne (pv 2) pe_int (nomark _)) (pss_one (ps_ret (pv 1))) pss_nil)))
      (pss_one (ps_ret (pe_un un_neg pe_int)))), ?_⟩
    have k : RetV T (.int (placeV (fp row))) G H Q := k
    refine ⟨_, rfl, a, _, rfl, SqL.of (hG.at ha), for_it (walk_enum (xs := row.map V.int)) (fun i σ H' => ∃ y1 y2, σ = [some (.ref a), y1, y2] ∧ Sit T G H G H' ∧ ∀ j, j < i → vec row j = 0) ⟨none, none, rfl, Sit.refl hG, fun j hj => absurd hj (Nat.not_lt_zero j)⟩ (fun i σ H' _ ⟨_, _, _, S, _⟩ => SqL.of (S.gh.at ha)) ?_ ?_⟩
    · rintro i x σ H2 H3 hi ⟨y1, y2, rfl, S2, hz⟩ ⟨t, u, v, rfl, nt, rfl, e1, e2⟩
      have e2 : (row.map V.int)[i]? = some v := e2
      obtain ⟨z, hz1, rfl⟩ : ∃ z, row[i]? = some z ∧ v = .int z := by
        rw [List.getElem?_map] at e2
        cases q : row[i]? with
        | none => rw [q] at e2; cases e2
        | some z => rw [q] at e2; exact ⟨z, rfl, (Option.some.inj e2).symm⟩
      cases e1
      obtain ⟨G3, S3, g3, k3⟩ := S2.tup [.int (i : Int), .int z] nt
      refine ⟨t, _, rfl, SqT.of (S3.gh.at k3), rfl, _, _, rfl, _, _, rfl, rfl, ?_⟩
      (refine ⟨_, rfl, rfl, _, rfl, ?_⟩)
      by_cases h0 : z = 0
      · refine ite_nno (ieq h0) ⟨_, _, rfl, S3.drop, fun j hj => ?_⟩
        by_cases hji : j = i
        · rw [hji, vec_of hz1, h0]
        · exact hz j (by omega)
      · refine ite_nyes (ine h0) ⟨_, rfl, ?_⟩
        have e := fp_take_none hz hz1 h0
        rw [e] at k
        exact k _ S3.drop
    · rintro σ H2 ⟨y1, y2, rfl, S2, hz⟩
      have e : fp row = none := fp_none.mpr fun j => by
        by_cases hj : j < row.length
        · exact hz j (by rw [List.length_map]; exact hj)
        · exact vec_out (by omega)
      rw [e] at k
      exact ⟨_, rfl, k _ S2⟩
/-! ### rest_of -/
def SpEl : Rel (Nat × List Int) := fun x v G => ∃ a c, v = .ref a ∧ G a = some (.tup [.int (x.1 : Int), .ref c]) ∧ G c = some (.lst (x.2.map V.int))
instance : Up SpEl := ⟨fun g ⟨a, c, e, h1, h2⟩ => ⟨a, c, e, g _ _ h1, g _ _ h2⟩⟩
abbrev SpR : Rel Span := LstR SpEl
theorem getD_at {row : List Int} {k : Nat} (h : k < row.length) : row[k]? = some (row.getD k 0) := by
  rw [List.getD_eq_getElem?_getD, List.getElem?_eq_getElem h]
  rfl
def spRest (T : List (Addr × Str)) : L2.Sp := fun vs H Q _ => ∃ (G : Hp) (span : Span) (row : List Int) (sv rv : V), vs = [sv, rv] ∧ Sm G H ∧ SpR span sv G ∧ IntsR row rv G ∧ span.length ≤ 1000 ∧ row.length ≤ 1000 ∧ RunOk span row ∧ Ret T IntsR (restOf span row) G H Q
abbrev sRestOf : Stmt := topS 25
theorem scRestOf : FnScope ["span", "row", "rest", "place", "base", "k"] ["span", "row"] (defScope sRestOf) := ⟨rfl, rfl, rfl, by decide +kernel, rfl, by decide +kernel, by decide +kernel⟩
theorem okRestOf {f : Addr} {fd : FuncData} (Fn : Fun K "rest_of" "rest_of" sRestOf f fd) (Tx : TxtM K mg C) (hLowered : Has P w K mg base "lowered" ["row"] 2 (spLowered T)) : FnOk P w K mg base CX0 3 f fd ["span", "row"] (spRest T) := by
  refine Fn.ok scRestOf (fun vs H Q E h => ?_) (fun cdv A outer s H vs Q E hr h => ?_)
  · obtain ⟨G, span, row, sv, rv, rfl, _⟩ := h
    rfl
  · obtain ⟨G, span, row, sv, rv, rfl, hG, ⟨sa, svs, rfl, hsa, hall⟩, ⟨a, rfl, ha⟩, hsl, hlen, run, k⟩ := h
    refine ⟨_, (pss_cons (ps_set (i := 2) scRestOf.nd rfl (by first | exact .inl rfl | exact .inr rfl) (pe_callTy (listK K) (by rfl) Tx.list (by decide +kernel) (pa_cons (pv 1) pa_nil)))
      (pss_cons (ps_for PassesOwn.never rfl (itL K (pv 0)) (tgT K (n := 2) (pgs_cons (pg_name (i := 3) scRestOf.nd rfl (by first | exact .inl rfl | exact .inr rfl)) (pgs_cons (pg_name (i := 4) scRestOf.nd rfl (by first | exact .inl rfl | exact .inr rfl)) pgs_nil)))
        (pss_one (ps_if (pt_cmpR op_ne (pe_ix (ixL K) (pv 2) (pv 3) (fun _ _ => rfl)) pe_int (nomark _)) (pss_one (ps_set (i := 2) scRestOf.nd rfl (by first | exact .inl rfl | exact .inr rfl) (pe_def hLowered hr (by decide) (by rfl) (pa_cons (pe_lc (own := [("k", 5)]) rfl scRestOf.nd (pi_range1 (by rfl) Tx.range (pa_cons (pe_callB (lenK K) (by rfl) Tx.len PySem.boot_len (pa_cons (pv 2) pa_nil)) pa_nil)) (blkOk_by (N := ["span", "row", "rest", "place", "base", "k"]) (sc := defScope sRestOf) (by decide +kernel)) (fun _ _ _ _ _ => (pg_name (i := 5) scRestOf.nd rfl (by first | exact .inl rfl | exact .inr rfl))) (fun _ _ _ _ _ => pts_nil) (fun _ _ _ _ _ => (pe_op op_sub (pe_op op_mulW (pe_ix (ixL K) (pv 4) (pv 3) (fun _ _ => rfl)) (pe_ix (ixL K) (pv 2) (pv 5) (fun _ _ => rfl))) (pe_op op_mulW (pe_ix (ixL K) (pv 2) (pv 3) (fun _ _ => rfl)) (pe_ix (ixL K) (pv 4) (pv 5) (fun _ _ => rfl)))))) pa_nil)))) pss_nil)))
      (pss_one (ps_ret (pv 2))))), ?_⟩
    refine ⟨_, rfl, a, _, rfl, .inl (SqL.of (hG.at ha)), fun p np => ?_⟩
    obtain ⟨G1, S1, g1, k1⟩ := (Sit.refl (T := T) hG).lst (row.map V.int) np
    refine ⟨_, rfl, sa, rfl, ⟨_, SqL.of (S1.gh.at (g1 _ _ hsa))⟩, for_list (K := K) (a := sa) (xs := svs) (fun i σ H' => ∃ G' p y3 y4, σ = [some (.ref sa), some (.ref a), some (.ref p), y3, y4, none] ∧ Sit T G H G' H' ∧ G' p = some (.lst ((restOf (span.take i) row).map V.int)))
      ⟨G1, p, none, none, rfl, S1, k1⟩ (fun i σ H' _ ⟨_, _, _, _, _, S, _⟩ => SqL.of (S.gh.at (S.gg _ _ hsa))) ?_ ?_⟩
    · rintro i x σ H2 hx ⟨G2, p2, y3, y4, rfl, S2, k2⟩
      obtain ⟨pb, hpb, b, c, rfl, hb, hc⟩ := hall.back hx
      obtain ⟨o1, o2, o3, o4, o5⟩ := run.one i pb hpb
      have hb2 := S2.gg _ _ hb
      have hc2 := S2.gg _ _ hc
      have lr : (restOf (span.take i) row).length = row.length := restOf_length _ _
      refine ⟨b, _, rfl, SqT.of (S2.gh.at hb2), rfl, _, _, rfl, _, _, rfl, rfl, ?_⟩
      have hget : (restOf (span.take i) row)[pb.1]? = some ((restOf (span.take i) row).getD pb.1 0) := getD_at (by omega)
      refine ⟨_, rfl, _, rfl, p2, _, _, _, rfl, rfl, SqL.of (S2.gh.at k2), atI_nat (ints_at hget), rfl, _, rfl, ?_⟩
      rw [take_succ_at hpb, restOf_snoc]
      unfold redStep
      by_cases h0 : (restOf (span.take i) row).getD pb.1 0 = 0
      · rw [if_neg (by simpa using h0)]
        exact ite_nno (ieq h0) ⟨G2, p2, _, _, rfl, S2, k2⟩
      · rw [if_pos h0]
        refine ite_nyes (ine h0) ?_
        refine ⟨_, rfl, p2, _, rfl, .inl (SqL.of (S2.gh.at k2)), _, rfl, by omega, by rw [List.length_map]; omega, comp_range (T := T) (S := IntR) (lo := 0) (fun _ => true) (fun k => pb.2.getD pb.1 0 * (restOf (span.take i) row).getD k 0 - (restOf (span.take i) row).getD pb.1 0 * pb.2.getD k 0) S2.gh (by rw [List.length_map]; omega) (fun _ => rfl) (fun _ _ => eb_yes) (fun j hj _ H0 g Q q => ?_) fun D G3 H3 S3 n3 r3 => ?_⟩
        · have hj : j < row.length := by
            rw [List.length_map] at hj
            omega
          have b1 := getD_at (row := pb.2) (k := pb.1) (by omega)
          have b2 := getD_at (row := pb.2) (k := j) (by omega)
          have b3 := getD_at (row := restOf (span.take i) row) (k := j) (by omega)
          have hcs := SqL.of (K := K) (g.at hc2)
          have hrs := SqL.of (K := K) (g.at k2)
          have zj : (0 : Int) + (j : Int) = (j : Int) := by omega
          have mul : ∀ x y : Int, x.natAbs < 2 ^ 20000 → y.natAbs < 2 ^ 20000 → CMulW x y := fun x y hx hy => wide_mul hx hy (by decide) (by decide) (by decide)
          refine ⟨_, rfl, _, rfl, c, _, _, _, rfl, rfl, hcs, atI_nat (ints_at b1), _, rfl, _, rfl, p2, _, _, _, rfl, rfl, hrs, (by rw [zj]; exact atI_nat (ints_at b3)), _, _, rfl, rfl, mul _ _ (o3 _) (o4 _), ?_⟩
          refine ⟨_, rfl, _, rfl, p2, _, _, _, rfl, rfl, hrs, atI_nat (ints_at hget), _, rfl, _, rfl, c, _, _, _, rfl, rfl, hcs, (by rw [zj]; exact atI_nat (ints_at b2)), _, _, rfl, rfl, mul _ _ (o4 _) (o3 _), _, _, rfl, rfl, ?_⟩
          exact q _ _ _ (Sit.refl g) rfl
        · rw [filter_yes] at r3
          have er : (List.range (((restOf (span.take i) row).map V.int).length : Int).toNat).map (fun k => pb.2.getD pb.1 0 * (restOf (span.take i) row).getD k 0 - (restOf (span.take i) row).getD pb.1 0 * pb.2.getD k 0) = elim pb.1 pb.2 (restOf (span.take i) row) := by
            unfold elim
            rw [List.length_map, Int.toNat_natCast]
          rw [er] at r3
          refine ⟨G3, _, _, rfl, S3.gh, r3.ints, by rw [elim_length]; omega, o5, fun v4 G4 H4 S4 r4 => ?_⟩
          obtain ⟨p4, rfl, k4⟩ := r4
          exact ⟨G4, p4, _, _, rfl, (S2.trans S3).trans S4, k4⟩
    · rintro σ H2 ⟨G2, p2, y3, y4, rfl, S2, k2⟩
      rw [hall.len, List.take_length] at k2
      exact ⟨_, rfl, k _ _ _ S2 ⟨p2, rfl, k2⟩⟩
end Mw

set_option Elab.async false
set_option linter.all false
set_option maxRecDepth 100000
set_option maxHeartbeats 4000003
namespace Mw
open PySem.Spec PyProof.Rows L2 LamX PySem
variable {P : Program} {w : World} {K : PySem.W.Frag} {mg : Str → Option Value} {base : Heap} {T : List (Addr × Str)} {C : Addr}
/-! ### is_sum, widened -/
def spIsSum (T : List (Addr × Str)) : L2.Sp := fun vs H Q _ => ∃ (G : Hp) (span : Span) (row : List Int) (sv rv : V), vs = [sv, rv] ∧ Sm G H ∧ SpR span sv G ∧ IntsR row rv G ∧ span.length ≤ 1000 ∧ row.length ≤ 1000 ∧ RunOk span row ∧ RetV T (.bl (fp (restOf span row)).isNone) G H Q
abbrev sIsSum : Stmt := topS 26
theorem scIsSum : FnScope ["span", "row"] ["span", "row"] (defScope sIsSum) := ⟨rfl, rfl, rfl, by decide +kernel, rfl, by decide +kernel, by decide +kernel⟩
theorem okIsSum {f : Addr} {fd : FuncData} (Fn : Fun K "is_sum" "is_sum" sIsSum f fd) (Tx : TxtM K mg C) (hRestOf : Has P w K mg base "rest_of" ["span", "row"] 3 (spRest T)) (hFirstPlace : Has P w K mg base "first_place" ["row"] 1 (spInts T fun row => .int (placeV (fp row)))) : FnOk P w K mg base CX0 4 f fd ["span", "row"] (spIsSum T) := by
  refine Fn.ok scIsSum (fun vs H Q E h => ?_) (fun cdv A outer s H vs Q E hr h => ?_)
  · obtain ⟨G, span, row, sv, rv, rfl, _⟩ := h
    rfl
  · obtain ⟨G, span, row, sv, rv, rfl, hG, hs, hrow, hsl, hlen, run, k⟩ := h
    refine ⟨_, (pss_one (ps_ret (pe_cmpR op_eq (pe_def hFirstPlace hr (by decide) (by rfl) (pa_cons (pe_def hRestOf hr (by decide) (by rfl) (pa_cons (pv 0) (pa_cons (pv 1) pa_nil))) pa_nil)) (pe_un un_neg pe_int) (nomark _)))), ?_⟩
    refine ⟨_, rfl, _, rfl, G, span, row, sv, rv, rfl, hG, hs, hrow, hsl, hlen, run, fun v1 G1 H1 S1 r1 => ?_⟩
    refine ⟨G1, _, v1, rfl, S1.gh, r1, fun H2 S2 => ?_⟩
    refine ⟨_, rfl, rfl, ?_⟩
    have e : decide (V.int (placeV (fp (restOf span row))) = V.int (-1)) = (fp (restOf span row)).isNone := by
      cases fp (restOf span row) with
      | none => exact decide_eq_true rfl
      | some q => exact decide_eq_false (ine (by show (q : Int) ≠ -1; omega))
    show Q (.bl (decide (V.int (placeV (fp (restOf span row))) = V.int (-1)))) H2
    rw [e]
    exact k H2 (S1.trans S2).drop
def spWidened (T : List (Addr × Str)) (wd : Span → List Int → Span) : L2.Sp := fun vs H Q _ => ∃ (G : Hp) (span : Span) (row : List Int) (sv rv : V), vs = [sv, rv] ∧ Sm G H ∧ SpR span sv G ∧ IntsR row rv G ∧ span.length ≤ 1000 ∧ row.length ≤ 1000 ∧ RunOk span row ∧ Ret T SpR (wd span row) G H Q
abbrev sWidened : Stmt := topS 27
theorem scWidened : FnScope ["span", "row", "rest", "place"] ["span", "row"] (defScope sWidened) := ⟨rfl, rfl, rfl, by decide +kernel, rfl, by decide +kernel, by decide +kernel⟩
theorem okWidened {f : Addr} {fd : FuncData} (Fn : Fun K "widened" "widened" sWidened f fd) (Tx : TxtM K mg C) (hRestOf : Has P w K mg base "rest_of" ["span", "row"] 3 (spRest T)) (hFirstPlace : Has P w K mg base "first_place" ["row"] 1 (spInts T fun row => .int (placeV (fp row)))) (hLowered : Has P w K mg base "lowered" ["row"] 2 (spLowered T)) : FnOk P w K mg base CX0 4 f fd ["span", "row"] (spWidened T widen) := by
  refine Fn.ok scWidened (fun vs H Q E h => ?_) (fun cdv A outer s H vs Q E hr h => ?_)
  · obtain ⟨G, span, row, sv, rv, rfl, _⟩ := h
    rfl
  · obtain ⟨G, span, row, sv, rv, rfl, hG, hs, hrow, hsl, hlen, run, k⟩ := h
    refine ⟨_, (pss_cons (ps_set (i := 2) scWidened.nd rfl (by first | exact .inl rfl | exact .inr rfl) (pe_def hRestOf hr (by decide) (by rfl) (pa_cons (pv 0) (pa_cons (pv 1) pa_nil))))
      (pss_cons (ps_set (i := 3) scWidened.nd rfl (by first | exact .inl rfl | exact .inr rfl) (pe_def hFirstPlace hr (by decide) (by rfl) (pa_cons (pv 2) pa_nil)))
      (pss_cons (ps_if (pt_cmpR op_eq (pv 3) (pe_un un_neg pe_int) (nomark _)) (pss_one (ps_ret (pv 0))) pss_nil)
      (pss_one (ps_ret (pe_op op_cat (pv 0) (pe_lst (pa_cons (pe_tup (pa_cons (pv 3) (pa_cons (pe_def hLowered hr (by decide) (by rfl) (pa_cons (pv 2) pa_nil)) pa_nil))) pa_nil)))))))), ?_⟩
    refine ⟨_, rfl, _, rfl, G, span, row, sv, rv, rfl, hG, hs, hrow, hsl, hlen, run, fun v1 G1 H1 S1 r1 => ?_⟩
    refine ⟨_, rfl, G1, _, v1, rfl, S1.gh, r1, fun H2 S2 => ?_⟩
    (refine ⟨_, rfl, _, rfl, rfl, _, rfl, ?_⟩)
    unfold widen at k
    cases e : fp (restOf span row) with
    | none =>
      rw [e] at k
      exact ite_yes (by show V.int (placeV (fp (restOf span row))) = V.int (-1); rw [e]; rfl) ⟨_, rfl, k _ _ _ (S1.trans S2) (Up.up (R := SpR) S1.gg hs)⟩
    | some q =>
      rw [e] at k
      refine ite_no (ine (by rw [e]; show (q : Int) ≠ -1; omega)) ?_
      obtain ⟨sa, svs, rfl, hsa, hall⟩ := hs
      refine ⟨_, rfl, _, rfl, _, rfl, G1, _, v1, rfl, S2.gh, r1, by rw [restOf_length]; omega, run.all, fun v3 G3 H3 S3 r3 => ?_⟩
      obtain ⟨c, rfl, hc⟩ := r3
      refine ⟨sz2, fun t nt => ?_⟩
      obtain ⟨G4, S4, g4, k4⟩ := ((S1.trans S2).trans S3).tup [.int (placeV (fp (restOf span row))), .ref c] nt
      rw [e] at k4
      refine ⟨sz1, fun l nl => ?_⟩
      obtain ⟨G5, S5, g5, k5⟩ := S4.lst [.ref t] nl
      have up5 := (S1.gg.trans S3.gg).trans (g4.trans g5)
      refine ⟨sa, l, _, _, rfl, rfl, S5.gh.at (up5 _ _ hsa), S5.gh.at k5, small_le (by show svs.length + 1 ≤ _; have := hall.len; omega), fun p np => ?_⟩
      obtain ⟨G6, S6, g6, k6⟩ := S5.lst (svs ++ [.ref t]) np
      exact k _ _ _ S6 ⟨p, _, rfl, k6, (hall.up (up5.trans g6)).snoc ⟨t, c, rfl, g6 _ _ (g5 _ _ k4), (g4.trans (g5.trans g6)) _ _ hc⟩⟩
/-! ### the law's own -/
abbrev sLawLowered : Stmt := topS 65
theorem scLawLowered : FnScope ["row", "part", "number", "rest", "kept"] ["row"] (defScope sLawLowered) := ⟨rfl, rfl, rfl, by decide +kernel, rfl, by decide +kernel, by decide +kernel⟩
theorem okLawLowered {f : Addr} {fd : FuncData} (Fn : Fun K "_law_lowered" "_law_lowered" sLawLowered f fd) (Tx : TxtM K mg C) : FnOk P w K mg base CX0 1 f fd ["row"] (spLowered T) := by
  refine Fn.ok scLawLowered (fun vs H Q E h => ?_) (fun cdv A outer s H vs Q E hr h => ?_)
  · obtain ⟨G, row, rv, rfl, _⟩ := h
    rfl
  · obtain ⟨G, row, rv, rfl, hG, ⟨a, rfl, ha⟩, hlen, low, k⟩ := h
    refine ⟨_, (pss_cons (ps_set (i := 1) scLawLowered.nd rfl (by first | exact .inl rfl | exact .inr rfl) pe_int)
      (pss_cons (ps_for PassesOwn.never rfl (itL K (pv 0)) (pg_name (i := 2) scLawLowered.nd rfl (by first | exact .inl rfl | exact .inr rfl))
        (pss_cons (ps_set (i := 3) scLawLowered.nd rfl (by first | exact .inl rfl | exact .inr rfl) (pe_callB call_abs (by rfl) Tx.abs (by decide +kernel) (pa_cons (pv 2) pa_nil)))
        (pss_one (ps_while PassesOwn.never (pt_cmpR op_gt (pv 3) pe_int (nomark _)) (pss_cons (ps_set (i := 4) scLawLowered.nd rfl (by first | exact .inl rfl | exact .inr rfl) (pe_op op_mod (pv 1) (pv 3)))
          (pss_cons (ps_set (i := 1) scLawLowered.nd rfl (by first | exact .inl rfl | exact .inr rfl) (pv 3))
          (pss_one (ps_set (i := 3) scLawLowered.nd rfl (by first | exact .inl rfl | exact .inr rfl) (pv 4)))))))))
      (pss_cons (ps_if (pt_cmpR op_eq (pv 1) pe_int (nomark _)) (pss_one (ps_ret (pv 0))) pss_nil)
      (pss_one (ps_ret (pe_lc (own := [("number", 2)]) rfl scLawLowered.nd (itL K (pv 0)) (blkOk_by (N := ["row", "part", "number", "rest", "kept"]) (sc := defScope sLawLowered) (by decide +kernel)) (fun _ _ _ _ _ => (pg_name (i := 2) scLawLowered.nd rfl (by first | exact .inl rfl | exact .inr rfl))) (fun _ _ _ _ _ => pts_nil) (fun _ _ _ _ _ => (pe_op op_fdivP (pv 2) (pv 1))))))))), ?_⟩
    have hl := SqL.of (K := K) (hG.at ha)
    refine ⟨_, rfl, a, rfl, ⟨_, hl⟩, for_list (K := K) (a := a) (xs := row.map V.int) (fun i σ H' => ∃ y2 y3 y4, σ = [some (.ref a), some (.int (gcdL (row.take i) : Int)), y2, y3, y4] ∧ H' = H) ⟨none, none, none, rfl, rfl⟩ (fun i σ H' _ ⟨_, _, _, _, e⟩ => by rw [e]; exact hl) ?_ ?_⟩
    · rintro i x σ H2 hx ⟨y2, y3, y4, rfl, rfl⟩
      obtain ⟨z, hz, rfl⟩ : ∃ z, row[i]? = some z ∧ x = .int z := by
        rw [List.getElem?_map] at hx
        cases q : row[i]? with
        | none => rw [q] at hx; cases hx
        | some z => rw [q] at hx; exact ⟨z, rfl, (Option.some.inj hx).symm⟩
      refine ⟨_, rfl, z, rfl, ?_⟩
      refine ⟨fun m σ H' => ∃ (f r : Nat) (y4 : Option V), m = r ∧ σ = [some (.ref a), some (.int (f : Int)), some (.int z), some (.int (r : Int)), y4] ∧ H' = H2 ∧ Nat.gcd f r = gcdL (row.take (i + 1)), ⟨z.natAbs, gcdL (row.take i), z.natAbs, y4, rfl, by rw [← abs_nat]; rfl, rfl, by rw [take_succ_at hz, gcdL_snoc]⟩, ?_⟩
      rintro m σ H3 ⟨f, r, y5, rfl, rfl, rfl, hg⟩
      refine ⟨_, rfl, _, _, rfl, rfl, _, rfl, ite_by (fun hp => ?_) (fun hp => ?_)⟩
      · have hp : (0 : Int) < (m : Int) := hp
        refine ⟨fun σ H' => ∃ m', m' < m ∧ _, fun σ' H' z => z, ?_⟩
        refine ⟨_, rfl, _, rfl, _, _, rfl, rfl, hp, _, rfl, _, rfl, ?_⟩
        exact ⟨f % m, Nat.mod_lt _ (by omega), m, f % m, some (.int ((f % m : Nat) : Int)), rfl, rfl, rfl, by rw [gcd_step]; exact hg⟩
      · have hp : ¬ (0 : Int) < (m : Int) := hp
        have e0 : m = 0 := by omega
        subst e0
        rw [Nat.gcd_zero_right] at hg
        exact ⟨_, _, _, by rw [hg], rfl⟩
    · rintro σ H2 ⟨y2, y3, y4, rfl, rfl⟩
      unfold lowered at k
      have tk : row.take (row.map V.int).length = row := by rw [List.length_map, List.take_length]
      refine ⟨_, rfl, rfl, _, rfl, ite_by (fun z => ?_) (fun z => ?_)⟩
      · have z := V.int.inj z
        rw [tk] at z
        rw [if_pos (by omega)] at k
        exact ⟨_, rfl, k _ _ _ (Sit.refl hG) ⟨a, rfl, ha⟩⟩
      · have z : ((gcdL (row.take (row.map V.int).length) : Nat) : Int) ≠ 0 := fun e => z (ieq e)
        rw [tk] at z
        rw [if_neg (by omega)] at k
        refine ⟨_, rfl, a, rfl, ⟨_, hl⟩, comp_list (T := T) (S := IntR) (R := IntR) (fun _ => true) (fun x => x / (gcdL row : Int)) hG ha AllR.of_ints (by omega) (fun _ => rfl) (fun i x v _ _ _ => eb_yes) (fun i x v hx _ r _ H0 g Q q => ?_) fun D G2 H3 S2 n r => ?_⟩
        · cases r
          refine ⟨_, rfl, _, rfl, _, _, rfl, rfl, ?_, ?_⟩
          · rw [tk]
            exact low_div low (by omega) (List.mem_of_getElem? hx)
          · exact q _ _ _ (Sit.refl g) (by rw [tk]; rfl)
        · rw [filter_yes] at r
          exact k _ _ _ S2 r.ints
abbrev sLawLeft : Stmt := topS 66
theorem scLawLeft : FnScope ["span", "row", "place", "base", "by", "k"] ["span", "row"] (defScope sLawLeft) := ⟨rfl, rfl, rfl, by decide +kernel, rfl, by decide +kernel, by decide +kernel⟩
theorem okLawLeft {f : Addr} {fd : FuncData} (Fn : Fun K "_law_left" "_law_left" sLawLeft f fd) (Tx : TxtM K mg C) (hLawLowered : Has P w K mg base "_law_lowered" ["row"] 1 (spLowered T)) : FnOk P w K mg base CX0 2 f fd ["span", "row"] (spRest T) := by
  refine Fn.ok scLawLeft (fun vs H Q E h => ?_) (fun cdv A outer s H vs Q E hr h => ?_)
  · obtain ⟨G, span, row, sv, rv, rfl, _⟩ := h
    rfl
  · obtain ⟨G, span, row, sv, rv, rfl, hG, ⟨sa, svs, rfl, hsa, hall⟩, ⟨a, rfl, ha⟩, hsl, hlen, run, k⟩ := h
    refine ⟨_, (pss_cons (ps_for PassesOwn.never rfl (itL K (pv 0)) (tgT K (n := 2) (pgs_cons (pg_name (i := 2) scLawLeft.nd rfl (by first | exact .inl rfl | exact .inr rfl)) (pgs_cons (pg_name (i := 3) scLawLeft.nd rfl (by first | exact .inl rfl | exact .inr rfl)) pgs_nil)))
        (pss_cons (ps_set (i := 4) scLawLeft.nd rfl (by first | exact .inl rfl | exact .inr rfl) (pe_ix (ixL K) (pv 1) (pv 2) (fun _ _ => rfl)))
        (pss_one (ps_if (pt_cmpR op_ne (pv 4) pe_int (nomark _)) (pss_one (ps_set (i := 1) scLawLeft.nd rfl (by first | exact .inl rfl | exact .inr rfl) (pe_def hLawLowered hr (by decide) (by rfl) (pa_cons (pe_lc (own := [("k", 5)]) rfl scLawLeft.nd (pi_range1 (by rfl) Tx.range (pa_cons (pe_callB (lenK K) (by rfl) Tx.len PySem.boot_len (pa_cons (pv 1) pa_nil)) pa_nil)) (blkOk_by (N := ["span", "row", "place", "base", "by", "k"]) (sc := defScope sLawLeft) (by decide +kernel)) (fun _ _ _ _ _ => (pg_name (i := 5) scLawLeft.nd rfl (by first | exact .inl rfl | exact .inr rfl))) (fun _ _ _ _ _ => pts_nil) (fun _ _ _ _ _ => (pe_op op_sub (pe_op op_mulW (pe_ix (ixL K) (pv 3) (pv 2) (fun _ _ => rfl)) (pe_ix (ixL K) (pv 1) (pv 5) (fun _ _ => rfl))) (pe_op op_mulW (pv 4) (pe_ix (ixL K) (pv 3) (pv 5) (fun _ _ => rfl)))))) pa_nil)))) pss_nil))))
      (pss_one  (ps_ret (pv 1)))), ?_⟩
    refine ⟨_, rfl, sa, rfl, ⟨_, SqL.of (hG.at hsa)⟩, for_list (K := K) (a := sa) (xs := svs) (fun i σ H' => ∃ G' p y2 y3 y4, σ = [some (.ref sa), some (.ref p), y2, y3, y4, none] ∧ Sit T G H G' H' ∧ G' p = some (.lst ((restOf (span.take i) row).map V.int)))
      ⟨G, a, none, none, none, rfl, Sit.refl hG, ha⟩ (fun i σ H' _ ⟨_, _, _, _, _, _, S, _⟩ => SqL.of (S.gh.at (S.gg _ _ hsa))) ?_ ?_⟩
    · rintro i x σ H2 hx ⟨G2, p2, y2, y3, y4, rfl, S2, k2⟩
      obtain ⟨pb, hpb, b, c, rfl, hb, hc⟩ := hall.back hx
      obtain ⟨o1, o2, o3, o4, o5⟩ := run.one i pb hpb
      have hb2 := S2.gg _ _ hb
      have hc2 := S2.gg _ _ hc
      have lr : (restOf (span.take i) row).length = row.length := restOf_length _ _
      refine ⟨b, _, rfl, SqT.of (S2.gh.at hb2), rfl, _, _, rfl, _, _, rfl, rfl, ?_⟩
      have hget : (restOf (span.take i) row)[pb.1]? = some ((restOf (span.take i) row).getD pb.1 0) := getD_at (by omega)
      refine ⟨_, rfl, _, rfl, p2, _, _, _, rfl, rfl, SqL.of (S2.gh.at k2), atI_nat (ints_at hget), ?_⟩
      (refine ⟨_, rfl, rfl, _, rfl, ?_⟩)
      rw [take_succ_at hpb, restOf_snoc]
      unfold redStep
      by_cases h0 : (restOf (span.take i) row).getD pb.1 0 = 0
      · rw [if_neg (by simpa using h0)]
        exact ite_nno (ieq h0) ⟨G2, p2, _, _, _, rfl, S2, k2⟩
      · rw [if_pos h0]
        refine ite_nyes (ine h0) ?_
        refine ⟨_, rfl, p2, _, rfl, .inl (SqL.of (S2.gh.at k2)), _, rfl, by omega, by rw [List.length_map]; omega, comp_range (T := T) (S := IntR) (lo := 0) (fun _ => true) (fun k => pb.2.getD pb.1 0 * (restOf (span.take i) row).getD k 0 - (restOf (span.take i) row).getD pb.1 0 * pb.2.getD k 0) S2.gh (by rw [List.length_map]; omega) (fun _ => rfl) (fun _ _ => eb_yes) (fun j hj _ H0 g Q q => ?_) fun D G3 H3 S3 n3 r3 => ?_⟩
        · have hj : j < row.length := by
            rw [List.length_map] at hj
            omega
          have b1 := getD_at (row := pb.2) (k := pb.1) (by omega)
          have b2 := getD_at (row := pb.2) (k := j) (by omega)
          have b3 := getD_at (row := restOf (span.take i) row) (k := j) (by omega)
          have hcs := SqL.of (K := K) (g.at hc2)
          have hrs := SqL.of (K := K) (g.at k2)
          have zj : (0 : Int) + (j : Int) = (j : Int) := by omega
          have mul : ∀ x y : Int, x.natAbs < 2 ^ 20000 → y.natAbs < 2 ^ 20000 → CMulW x y := fun x y hx hy => wide_mul hx hy (by decide) (by decide) (by decide)
          refine ⟨_, rfl, _, rfl, c, _, _, _, rfl, rfl, hcs, atI_nat (ints_at b1), _, rfl, _, rfl, p2, _, _, _, rfl, rfl, hrs, (by rw [zj]; exact atI_nat (ints_at b3)), _, _, rfl, rfl, mul _ _ (o3 _) (o4 _), ?_⟩
          refine ⟨_, rfl, _, rfl, _, rfl, c, _, _, _, rfl, rfl, hcs, (by rw [zj]; exact atI_nat (ints_at b2)), _, _, rfl, rfl, mul _ _ (o4 _) (o3 _), _, _, rfl, rfl, ?_⟩
          exact q _ _ _ (Sit.refl g) rfl
        · rw [filter_yes] at r3
          have er : (List.range (((restOf (span.take i) row).map V.int).length : Int).toNat).map (fun k => pb.2.getD pb.1 0 * (restOf (span.take i) row).getD k 0 - (restOf (span.take i) row).getD pb.1 0 * pb.2.getD k 0) = elim pb.1 pb.2 (restOf (span.take i) row) := by
            unfold elim
            rw [List.length_map, Int.toNat_natCast]
          rw [er] at r3
          refine ⟨G3, _, _, rfl, S3.gh, r3.ints, by rw [elim_length]; omega, o5, fun v4 G4 H4 S4 r4 => ?_⟩
          obtain ⟨p4, rfl, k4⟩ := r4
          exact ⟨G4, p4, _, _, _, rfl, (S2.trans S3).trans S4, k4⟩
    · rintro σ H2 ⟨G2, p2, y2, y3, y4, rfl, S2, k2⟩
      rw [hall.len, List.take_length] at k2
      exact ⟨_, rfl, k _ _ _ S2 ⟨p2, rfl, k2⟩⟩
theorem find_head {row : List Int} : ((List.range row.length).filter fun k => decide (row.getD k 0 ≠ 0)).head? = fp row := by
  unfold fp
  induction row with
  | nil => rfl
  | cons a l ih =>
    rw [List.length_cons, List.range_succ_eq_map, List.filter_cons, List.findIdx?_cons]
    by_cases h : a = 0
    · rw [if_neg (by simpa using h), if_neg (by simpa using h), List.filter_map, List.head?_map, ← ih]
      rfl
    · rw [if_pos (by simpa using h), if_pos (by simpa using h)]
      rfl
abbrev sLawWider : Stmt := topS 67
theorem scLawWider : FnScope ["span", "row", "places", "k"] ["span", "row"] (defScope sLawWider) := ⟨rfl, rfl, rfl, by decide +kernel, rfl, by decide +kernel, by decide +kernel⟩
theorem okLawWider {f : Addr} {fd : FuncData} (Fn : Fun K "_law_wider" "_law_wider" sLawWider f fd) (Tx : TxtM K mg C) (hLawLeft : Has P w K mg base "_law_left" ["span", "row"] 2 (spRest T)) : FnOk P w K mg base CX0 3 f fd ["span", "row"] (spWidened T widenL) := by
  refine Fn.ok scLawWider (fun vs H Q E h => ?_) (fun cdv A outer s H vs Q E hr h => ?_)
  · obtain ⟨G, span, row, sv, rv, rfl, _⟩ := h
    rfl
  · obtain ⟨G, span, row, sv, rv, rfl, hG, hs, hrow, hsl, hlen, run, k⟩ := h
    refine ⟨_, (pss_cons (ps_set (i := 1) scLawWider.nd rfl (by first | exact .inl rfl | exact .inr rfl) (pe_def hLawLeft hr (by decide) (by rfl) (pa_cons (pv 0) (pa_cons (pv 1) pa_nil))))
      (pss_cons (ps_setLc (i := 2) (own := [("k", 3)]) rfl scLawWider.nd rfl rfl (sw_true rfl rfl rfl (by decide +kernel)) (pi_range1 (by rfl) Tx.range (pa_cons (pe_callB (lenK K) (by rfl) Tx.len PySem.boot_len (pa_cons (pv 1) pa_nil)) pa_nil)) (blkOk_by (N := ["span", "row", "places", "k"]) (sc := defScope sLawWider) (by decide +kernel)) (fun _ _ _ _ _ => (pg_name (i := 3) scLawWider.nd rfl (by first | exact .inl rfl | exact .inr rfl))) (fun _ _ _ _ _ => (pts_one (pt_cmpR op_ne (pe_ix (ixL K) (pv 1) (pv 3) (fun _ _ => rfl)) pe_int (nomark _)))) (fun _ _ _ _ _ => (pv 3)))
      (pss_cons (ps_if (pt_cmpR op_eq (pe_callB (lenK K) (by rfl) Tx.len PySem.boot_len (pa_cons (pv 2) pa_nil)) pe_int (nomark _)) (pss_one (ps_ret (pv 0))) pss_nil)
      (pss_one (ps_ret (pe_op op_cat (pv 0) (pe_lst (pa_cons (pe_tup (pa_cons (pe_ix (ixL K) (pv 2) pe_int (fun _ _ => rfl)) (pa_cons (pv 1) pa_nil))) pa_nil)))))))), ?_⟩
    refine ⟨_, rfl, _, rfl, G, span, row, sv, rv, rfl, hG, hs, hrow, hsl, hlen, run, fun v1 G1 H1 S1 r1 => ?_⟩
    obtain ⟨c, rfl, hc⟩ := r1
    have lr : (restOf span row).length = row.length := restOf_length _ _
    refine ⟨_, rfl, c, _, rfl, .inl (SqL.of (S1.gh.at hc)), _, rfl, by omega, by rw [List.length_map]; omega, comp_range (T := T) (S := NatR) (lo := 0) (fun k => decide ((restOf span row).getD k 0 ≠ 0)) (fun k => k) S1.gh (by rw [List.length_map]; omega) (fun _ => rfl) (fun j hj H0 g Q q => ?_) (fun j hj _ => ev_slot rfl (by rw [Int.zero_add]; rfl)) fun D G2 H2 S2 n2 r2 => ?_⟩
    · have hj : j < row.length := by
        rw [List.length_map] at hj
        omega
      have b3 := getD_at (row := restOf span row) (k := j) (by omega)
      have zj : (0 : Int) + (j : Int) = (j : Int) := by omega
      refine ⟨_, rfl, _, rfl, c, _, _, _, rfl, rfl, SqL.of (g.at hc), (by rw [zj]; exact atI_nat (ints_at b3)), rfl, _, rfl, ?_⟩
      have e : (!decide (V.int ((restOf span row).getD j 0) = V.int 0)) = decide ((restOf span row).getD j 0 ≠ 0) := by
        by_cases h : (restOf span row).getD j 0 = 0
        · rw [decide_eq_true (ieq h), decide_eq_false (fun q => q h)]
          rfl
        · rw [decide_eq_false (ine h), decide_eq_true h]
          rfl
      show Q (!decide (V.int ((restOf span row).getD j 0) = V.int 0)) H0
      rw [e]
      exact q H0 (Sit.refl g)
    · rw [List.length_map, Int.toNat_natCast, List.map_id'] at r2
      obtain ⟨pa, pvs, e, hpa, pall⟩ := r2
      cases e
      have hd := find_head (row := restOf span row)
      have lf := List.length_filter_le (fun k => decide ((restOf span row).getD k 0 ≠ 0)) (List.range (restOf span row).length)
      rw [List.length_range] at lf
      generalize (List.range (restOf span row).length).filter (fun k => decide ((restOf span row).getD k 0 ≠ 0)) = ps at pall hd lf
      unfold widenL at k
      rw [← hd] at k
      refine ⟨_, rfl, D, pvs, rfl, .inl (SqL.of (S2.gh.at hpa)), rfl, _, rfl, ?_⟩
      cases ps with
      | nil =>
        have e0 := pall.len
        exact ite_yes (ieq (by rw [e0]; rfl)) ⟨_, rfl, k _ _ _ (S1.trans S2) (Up.up (R := SpR) (S1.trans S2).gg hs)⟩
      | cons q t =>
        have e0 := pall.len
        refine ite_no (ine (by rw [e0]; show ((t.length + 1 : Nat) : Int) ≠ 0; omega)) ?_
        obtain ⟨sa, svs, rfl, hsa, hall⟩ := hs
        obtain ⟨qv, hqv, rq⟩ := pall.get (i := 0) rfl
        cases rq
        refine ⟨_, rfl, _, rfl, D, _, _, _, rfl, rfl, SqL.of (S2.gh.at hpa), atI_nat (j := 0) hqv, _, rfl, sz2, fun t2 nt => ?_⟩
        obtain ⟨G4, S4, g4, k4⟩ := (S1.trans S2).tup [.int (q : Int), .ref c] nt
        refine ⟨sz1, fun l nl => ?_⟩
        obtain ⟨G5, S5, g5, k5⟩ := S4.lst [.ref t2] nl
        have up5 := (S1.gg.trans S2.gg).trans (g4.trans g5)
        refine ⟨sa, l, _, _, rfl, rfl, S5.gh.at (up5 _ _ hsa), S5.gh.at k5, small_le (by show svs.length + 1 ≤ _; have := hall.len; omega), fun p np => ?_⟩
        obtain ⟨G6, S6, g6, k6⟩ := S5.lst (svs ++ [.ref t2]) np
        exact k _ _ _ S6 ⟨p, _, rfl, k6, (hall.up (up5.trans g6)).snoc ⟨t2, c, rfl, g6 _ _ (g5 _ _ k4), (S2.gg.trans (g4.trans (g5.trans g6))) _ _ hc⟩⟩
end Mw

set_option Elab.async false
set_option linter.all false
set_option maxRecDepth 100000
set_option maxHeartbeats 4000003
namespace Mw
open PySem.Spec PyProof.Rows L2 LamX PySem
variable {P : Program} {w : World} {K : PySem.W.Frag} {mg : Str → Option Value} {base : Heap} {T : List (Addr × Str)} {C : Addr}
/-! ### rows compared with a bin -/
def rowD : Rw → List PyData
  | .mesh o u v => [.str "mesh", .int (o : Int), .int (u : Int), .int (v : Int)]
  | .crush t => [.str "crush", .int (t : Int)]
  | .bin n => [.str "bin", .int (n : Int)]
theorem rowD_dp {H : Hp} (r : Rw) : DpAll K H (rowV r) (rowD r) := by
  cases r with
  | mesh o u v => exact .cons (.str _) (.cons (.int _) (.cons (.int _) (.cons (.int _) .nil)))
  | crush t => exact .cons (.str _) (.cons (.int _) .nil)
  | bin n => exact .cons (.str _) (.cons (.int _) .nil)
theorem rowD_eq (r : Rw) (m : Nat) : PyData.eqv (.tuple (rowD r)) (.tuple (rowD (.bin m))) = decide (r = .bin m) := by
  cases r with
  | mesh o u v => simp [PyData.eqv, PyData.eqvAll, rowD]
  | crush t =>
    have : (Str.ofString "crush" == Str.ofString "bin") = false := by decide +kernel
    simp [PyData.eqv, PyData.eqvAll, rowD, this]
  | bin n =>
    simp [PyData.eqv, PyData.eqvAll, rowD]
    by_cases h : n = m
    · subst h
      simp
    · have : ¬ ((n : Int) = (m : Int)) := by omega
      simp [h, this]
theorem rowD_shaped (r : Rw) : SeqAt.shaped (.tuple (rowD r)) = true := by
  unfold SeqAt.shaped
  have h1 : PyData.canLay0 (.tuple (rowD r)) = true := by
    cases r <;> simp [rowD, PyData.canLay0, PyData.canLayAll0] <;> decide +kernel
  have h2 : PyData.depth (.tuple (rowD r)) ≤ 64 := by
    cases r <;> simp [rowD, PyData.depth, PyData.depthAll]
  rw [h1, decide_eq_true h2]
  rfl
/-! ### own_weight -/
def ownM (W : Wk) (r s num : Nat) : Nat := if W.rows[r]? = some (.bin num) then s else 0
def spOwn (T : List (Addr × Str)) (C : Addr) : L2.Sp := fun vs H Q _ => ∃ (G : Hp) (W : Wk) (wv : V) (r s num : Nat), vs = [wv, .int (r : Int), .int (s : Int), .int (num : Int)] ∧ Sm G H ∧ WkR C W wv G ∧ r < W.rows.length ∧ RetV T (.int (ownM W r s num : Int)) G H Q
abbrev sOwnWeight : Stmt := topS 29
theorem scOwnWeight : FnScope ["works", "row", "size", "number"] ["works", "row", "size", "number"] (defScope sOwnWeight) := ⟨rfl, rfl, rfl, by decide +kernel, rfl, by decide +kernel, by decide +kernel⟩
theorem okOwnWeight {f : Addr} {fd : FuncData} (Fn : Fun K "own_weight" "own_weight" sOwnWeight f fd) (Tx : TxtM K mg C) : FnOk P w K mg base CX0 1 f fd ["works", "row", "size", "number"] (spOwn T C) := by
  refine Fn.ok scOwnWeight (fun vs H Q E h => ?_) (fun cdv A outer s H vs Q E hr h => ?_)
  · obtain ⟨G, W, wv, r, s, num, rfl, _⟩ := h
    rfl
  · obtain ⟨G, W, wv, r, s, num, rfl, hG, hW, hrl, k⟩ := h
    refine ⟨_, (pss_cons (ps_if (pt_cmpR (eqK K hr.units) (pe_ix (ixL K) (fldK K (pv 0)) (pv 1) (fun _ _ => rfl)) (pe_tup (pa_cons pe_str (pa_cons (pv 3) pa_nil))) (nomark _)) (pss_one (ps_ret (pv 2))) pss_nil)
      (pss_one (ps_ret pe_int))), ?_⟩
    have er : W.rows[r]? = some W.rows[r] := List.getElem?_eq_getElem hrl
    refine ⟨_, rfl, rd_rows Tx hW hG fun l vs hl ha => ?_⟩
    obtain ⟨v, hv, a, rfl, hrow⟩ := ha.get er
    refine ⟨_, rfl, l, vs, _, _, rfl, rfl, SqL.of (hG.at hl), atI_nat hv, _, rfl, sz2, fun t nt => ?_⟩
    obtain ⟨G1, S1, g1, k1⟩ := (Sit.refl (T := T) hG).tup [.str "bin", .int (num : Int)] nt
    refine ⟨_, _, .tup (SqT.of (S1.gh.at (g1 _ _ hrow))) (rowD_dp _), .tup (SqT.of (S1.gh.at k1)) (rowD_dp (.bin num)), rowD_shaped _, rowD_shaped (.bin num), _, rfl, ?_⟩
    unfold ownM at k
    rw [er] at k
    by_cases hx : W.rows[r] = .bin num
    · rw [if_pos (by rw [hx])] at k
      refine iteT' (by rw [rowD_eq, decide_eq_true hx]) ⟨_, rfl, k _ S1.drop⟩
    · rw [if_neg (fun z => hx (Option.some.inj z))] at k
      exact iteF' (by rw [rowD_eq, decide_eq_false hx]) (k _ S1.drop)
/-! ### laid_weight -/
def sumG (f : Nat → Nat → Nat) (l : List (Nat × Nat × Nat)) : Nat := (l.map fun x => x.2.2 * f x.2.1 x.1).sum
theorem sumG_snoc (f : Nat → Nat → Nat) (l : List (Nat × Nat × Nat)) (x : Nat × Nat × Nat) : sumG f (l ++ [x]) = sumG f l + x.2.2 * f x.2.1 x.1 := by
  unfold sumG
  rw [List.map_append, List.sum_append]
  simp
/-- what is laid at the end of the way -/
theorem laid_eq {W : Wk} (ok : WOk W) {r s e num : Nat} (hs : 1 ≤ s) (hr : r < W.rows.length) (h : finish W.rows s r = some e) : ownM W e s num + sumG (wt W.p W.rows num) (goesM W e s) = wt W.p W.rows num s r := by
  rcases end_kind ok.good hr h with ⟨n, hn, _⟩ | ⟨h1, t, ht, htl⟩
  · rw [wt_bin h hn]
    unfold ownM goesM
    rw [hn]
    by_cases z : n = num
    · rw [if_pos (by rw [z]), if_pos z]
      rfl
    · rw [if_neg (fun q => z (by injection q with q; injection q)), if_neg z]
      rfl
  · rw [wt_crush ok.p2 (by omega) h ht]
    unfold ownM goesM
    rw [ht, if_neg (fun q => by injection q with q; cases q), Nat.zero_add]
    show sumG _ ((pcs s W.p).map fun x => (t, x.1, x.2)) = _
    unfold sumG
    rw [List.map_map]
    have key : ∀ l : List (Nat × Nat), ((l.filter fun x => decide (0 < x.1 * x.2)).map ((fun x : Nat × Nat × Nat => x.2.2 * wt W.p W.rows num x.2.1 x.1) ∘ fun x : Nat × Nat => (t, x.1, x.2))).sum = (l.map fun x => x.2 * wt W.p W.rows num x.1 t).sum := fun l => by
      induction l with
      | nil => rfl
      | cons x l ih =>
        rw [List.filter_cons, List.map_cons, List.sum_cons]
        by_cases z : 0 < x.1 * x.2
        · rw [if_pos (decide_eq_true z), List.map_cons, List.sum_cons, ih]
          rfl
        · rw [if_neg (by rw [decide_eq_false z]; decide), ih]
          have z0 : x.1 * x.2 = 0 := by omega
          rcases Nat.mul_eq_zero.mp z0 with q | q
          · rw [q, wt_zero, Nat.mul_zero, Nat.zero_add]
          · rw [q, Nat.zero_mul, Nat.zero_add]
    unfold pcs
    rw [key]
    simp
/-- the table of weights for the sizes below n -/
def tabL (W : Wk) (num n : Nat) : List (List Int) := (List.range n).map fun s => toI ((List.range W.rows.length).map fun r => wt W.p W.rows num s r)
theorem tabL_at {W : Wk} {num n s : Nat} (h : s < n) : (tabL W num n)[s]? = some (toI ((List.range W.rows.length).map fun r => wt W.p W.rows num s r)) := by
  unfold tabL
  rw [List.getElem?_map, List.getElem?_range h]
  rfl
theorem tabRow_at {W : Wk} {num s r : Nat} (h : r < W.rows.length) : (toI ((List.range W.rows.length).map fun r => wt W.p W.rows num s r))[r]? = some (wt W.p W.rows num s r : Int) := by
  unfold toI
  rw [List.map_map, List.getElem?_map, List.getElem?_range h]
  rfl
theorem goes_piece {W : Wk} (ok : WOk W) {e s : Nat} (hs : 1 ≤ s) (h : stepW W.rows s e = none) {x : Nat × Nat × Nat} (hm : x ∈ goesM W e s) : x.1 < W.rows.length ∧ x.2.1 < s ∧ x.2.2 ≤ 9 := by
  unfold stepW at h
  unfold goesM at hm
  cases q : W.rows[e]? with
  | none =>
    rw [q] at hm
    cases hm
  | some y =>
    rw [q] at h hm
    have ho := ok.good.ok y (List.mem_of_getElem? q)
    cases y with
    | mesh o u v => cases h
    | crush t =>
      have h' : (if s = 1 then some t else none) = none := h
      by_cases z : s = 1
      · rw [if_pos z] at h'
        cases h'
      · have hm' : x ∈ (pcs s W.p).map (fun x => (t, x.1, x.2)) := hm
        obtain ⟨y, hy, e⟩ := List.mem_map.mp hm'
        have := pcs_lt ok.p2 (by omega) hy
        have p3 := ok.p3
        have p2 := ok.p2
        rw [← e]
        refine ⟨ho, this, ?_⟩
        unfold pcs at hy
        have hy := (List.mem_filter.mp hy).1
        have hm := Nat.mod_lt s (show 0 < W.p by omega)
        show y.2 ≤ 9
        (rcases List.mem_cons.mp hy with e | hy)
        · rw [e]
          show W.p - s % W.p ≤ 9
          omega
        · rw [List.mem_singleton.mp hy]
          show s % W.p ≤ 9
          omega
    | bin n => cases hm
def spLaid (T : List (Addr × Str)) (C : Addr) : L2.Sp := fun vs H Q _ => ∃ (G : Hp) (W : Wk) (wv tv : V) (r s num n : Nat), vs = [wv, .int (r : Int), .int (s : Int), .int (num : Int), tv] ∧ Sm G H ∧ WkR C W wv G ∧ WOk W ∧ Loose W.rows ∧ r < W.rows.length ∧ 1 ≤ s ∧ s ≤ n ∧ s ≤ 1000 ∧ LstR IntsR (tabL W num n) tv G ∧ RetV T (.int (wt W.p W.rows num s r : Int)) G H Q
abbrev sLaidWeight : Stmt := topS 30
theorem scLaidWeight : FnScope ["works", "row", "size", "number", "ahead_of", "goes", "total", "to", "piece", "many"] ["works", "row", "size", "number", "ahead_of"] (defScope sLaidWeight) := ⟨rfl, rfl, rfl, by decide +kernel, rfl, by decide +kernel, by decide +kernel⟩
theorem okLaidWeight {f : Addr} {fd : FuncData} (Fn : Fun K "laid_weight" "laid_weight" sLaidWeight f fd) (Tx : TxtM K mg C) (hGoesOn : Has P w K mg base "goes_on" ["works", "row", "size"] 2 (spGoes T C)) (hOwnWeight : Has P w K mg base "own_weight" ["works", "row", "size", "number"] 1 (spOwn T C)) : FnOk P w K mg base CX0 3 f fd ["works", "row", "size", "number", "ahead_of"] (spLaid T C) := by
  refine Fn.ok scLaidWeight (fun vs H Q E h => ?_) (fun cdv A outer s H vs Q E hr h => ?_)
  · obtain ⟨G, W, wv, tv, r, s, num, n, rfl, _⟩ := h
    rfl
  · obtain ⟨G, W, wv, tv, r, s, num, n, rfl, hG, hW, ok, hL, hrl, hs1, hsn, hs, ht, k⟩ := h
    refine ⟨_, (pss_cons (ps_set (i := 5) scLaidWeight.nd rfl (by first | exact .inl rfl | exact .inr rfl) (pe_def hGoesOn hr (by decide) (by rfl) (pa_cons (pv 0) (pa_cons (pv 1) (pa_cons (pv 2) pa_nil)))))
      (pss_cons (ps_while PassesOwn.never (PW.pt (pw_and (pt_cmpR op_eq (pe_callB (lenK K) (by rfl) Tx.len PySem.boot_len (pa_cons (pv 5) pa_nil)) pe_int (nomark _)) (pw_and (pt_cmpR op_eq (pe_ix (ixT K) (pe_ix (ixL K) (pv 5) pe_int (fun _ _ => rfl)) pe_int (fun _ _ => rfl)) (pv 2) (nomark _)) (pw_and1 (pt_cmpR op_eq (pe_ix (ixT K) (pe_ix (ixL K) (pv 5) pe_int (fun _ _ => rfl)) pe_int (fun _ _ => rfl)) pe_int (nomark _)))))) (pss_cons (ps_set (i := 1) scLaidWeight.nd rfl (by first | exact .inl rfl | exact .inr rfl) (pe_ix (ixT K) (pe_ix (ixL K) (pv 5) pe_int (fun _ _ => rfl)) pe_int (fun _ _ => rfl)))
        (pss_one (ps_set (i := 5) scLaidWeight.nd rfl (by first | exact .inl rfl | exact .inr rfl) (pe_def hGoesOn hr (by decide) (by rfl) (pa_cons (pv 0) (pa_cons (pv 1) (pa_cons (pv 2) pa_nil))))))))
      (pss_cons (ps_set (i := 6) scLaidWeight.nd rfl (by first | exact .inl rfl | exact .inr rfl) (pe_def hOwnWeight hr (by decide) (by rfl) (pa_cons (pv 0) (pa_cons (pv 1) (pa_cons (pv 2) (pa_cons (pv 3) pa_nil))))))
      (pss_cons (ps_for PassesOwn.never rfl (itL K (pv 5)) (tgT K (n := 3) (pgs_cons (pg_name (i := 7) scLaidWeight.nd rfl (by first | exact .inl rfl | exact .inr rfl)) (pgs_cons (pg_name (i := 8) scLaidWeight.nd rfl (by first | exact .inl rfl | exact .inr rfl)) (pgs_cons (pg_name (i := 9) scLaidWeight.nd rfl (by first | exact .inl rfl | exact .inr rfl)) pgs_nil))))
        (pss_one (ps_aug (i := 6) scLaidWeight.nd rfl (by first | exact .inl rfl | exact .inr rfl) (pe_op op_mul (pv 9) (pe_ix (ixL K) (pe_ix (ixL K) (pv 4) (pv 8) (fun _ _ => rfl)) (pv 7) (fun _ _ => rfl))) ip_add)))
      (pss_one (ps_ret (pv 6))))))), ?_⟩
    obtain ⟨ta, tvs, rfl, hta, tall⟩ := ht
    obtain ⟨e, he⟩ := hL s r hs1 hrl
    have hel := fin_lt ok.good hrl he
    refine ⟨_, rfl, _, rfl, _, rfl, G, W, wv, r, s, rfl, hG, hW, ok, hrl, hs, fun v1 G1 H1 S1 r1 => ?_⟩
    refine ⟨fun m σ H' => ∃ (c : Nat) (gv : V) (G' : Hp), σ = [some wv, some (.int (c : Int)), some (.int (s : Int)), some (.int (num : Int)), some (.ref ta), some gv, none, none, none, none] ∧ Sit T G H G' H' ∧ LstR N3 (goesM W c s) gv G' ∧ c < W.rows.length ∧ fin W.rows s m c = some e, ⟨W.rows.length + 1, r, v1, G1, rfl, S1, r1, hrl, he⟩, ?_⟩
    rintro m σ H2 ⟨c, gv, G2, rfl, S2, ⟨ga, gvs, rfl, hga, gall⟩, hcl, hfin⟩
    refine rd_whole (i := 5) (j := 2) ok hs1 hga gall S2.gh (fun c' b hst ev hb => ?_) (fun hst => ?_) _ rfl rfl
    · subst ev
      refine iteT ⟨fun σ H' => ∃ m', m' < m ∧ _, fun σ' H' z => z, ?_⟩
      refine ⟨_, rfl, ga, _, _, _, rfl, rfl, SqL.of (S2.gh.at hga), atI_nat (j := 0) rfl, b, _, _, _, rfl, rfl, SqT.of (S2.gh.at hb), atI_nat (j := 0) rfl, ?_⟩
      cases m with
      | zero => cases hfin
      | succ m' =>
        rw [fin_step hst] at hfin
        have hcl' := (step_lt ok.good hst).2
        refine ⟨_, rfl, _, rfl, _, rfl, G2, W, wv, c', s, rfl, S2.gh, Up.up (R := WkR C) S2.gg hW, ok, hcl', hs, fun v3 G3 H3 S3 r3 => ?_⟩
        exact ⟨m', by omega, c', v3, G3, rfl, S2.trans S3, r3, hcl', hfin⟩
    · refine iteF ?_
      have ec : c = e := by
        cases m with
        | zero => cases hfin
        | succ m' =>
          rw [fin_stop hst] at hfin
          exact Option.some.inj hfin
      subst ec
      refine ⟨_, rfl, _, rfl, _, rfl, _, rfl, G2, W, wv, c, s, num, rfl, S2.gh, Up.up (R := WkR C) S2.gg hW, hcl, fun H3 S3 => ?_⟩
      have S23 := S2.trans S3
      refine ⟨_, rfl, ga, rfl, ⟨_, SqL.of (S23.gh.at hga)⟩, for_list (K := K) (a := ga) (xs := gvs) (fun i σ H' => ∃ y7 y8 y9, σ = [some wv, some (.int (c : Int)), some (.int (s : Int)), some (.int (num : Int)), some (.ref ta), some (.ref ga), some (.int ((ownM W c s num + sumG (wt W.p W.rows num) ((goesM W c s).take i) : Nat) : Int)), y7, y8, y9] ∧ H' = H3) ⟨none, none, none, rfl, rfl⟩ (fun i σ H' _ ⟨_, _, _, _, e⟩ => by rw [e]; exact SqL.of (S23.gh.at hga)) ?_ ?_⟩
      · rintro i x σ H4 hx ⟨y7, y8, y9, rfl, rfl⟩
        obtain ⟨z, hz, b, rfl, hb⟩ := gall.back hx
        obtain ⟨z1, z2, z3⟩ := goes_piece ok hs1 hst (List.mem_of_getElem? hz)
        refine ⟨b, _, rfl, SqT.of (S23.gh.at hb), rfl, _, _, rfl, _, _, rfl, _, _, rfl, rfl, ?_⟩
        obtain ⟨tv, htv, c2, rfl, hc2⟩ := tall.get (tabL_at (num := num) (show z.2.1 < n by omega))
        have hup := S23.gg _ _ hc2
        refine ⟨_, rfl, _, rfl, _, rfl, _, rfl, ta, _, _, _, rfl, rfl, SqL.of (S23.gh.at (S23.gg _ _ hta)), atI_nat htv, _, rfl, c2, _, _, _, rfl, rfl, SqL.of (S23.gh.at hup), atI_nat (ints_at (tabRow_at z1)), _, _, rfl, rfl, .inl ⟨by omega, by omega⟩, ?_⟩
        refine ⟨_, _, rfl, rfl, some (.int (z.1 : Int)), some (.int (z.2.1 : Int)), some (.int (z.2.2 : Int)), ?_, rfl⟩
        rw [take_succ_at hz, sumG_snoc]
        have ev : ((ownM W c s num + sumG (wt W.p W.rows num) ((goesM W c s).take i) : Nat) : Int) + (z.2.2 : Int) * (wt W.p W.rows num z.2.1 z.1 : Int) = ((ownM W c s num + (sumG (wt W.p W.rows num) ((goesM W c s).take i) + z.2.2 * wt W.p W.rows num z.2.1 z.1) : Nat) : Int) := by
          push_cast
          omega
        show [some wv, some (V.int (c : Int)), some (V.int (s : Int)), some (V.int (num : Int)), some (V.ref ta), some (V.ref ga), some (V.int (((ownM W c s num + sumG (wt W.p W.rows num) ((goesM W c s).take i) : Nat) : Int) + (z.2.2 : Int) * (wt W.p W.rows num z.2.1 z.1 : Int))), some (V.int (z.1 : Int)), some (V.int (z.2.1 : Int)), some (V.int (z.2.2 : Int))] = _
        rw [ev]
      · rintro σ H4 ⟨y7, y8, y9, rfl, rfl⟩
        refine ⟨_, rfl, ?_⟩
        rw [gall.len, List.take_length, laid_eq ok hs1 hrl he]
        exact k _ S23.drop
end Mw

set_option Elab.async false
set_option linter.all false
set_option maxRecDepth 100000
set_option maxHeartbeats 4000003
namespace Mw
open PySem.Spec PyProof.Rows L2 LamX PySem
variable {P : Program} {w : World} {K : PySem.W.Frag} {mg : Str → Option Value} {base : Heap} {T : List (Addr × Str)} {C : Addr}
/-! ### a cell, known for a while -/
def hide (G : Hp) (l : Addr) : Hp := fun a => if a = l then none else G a
theorem hide_ne {G : Hp} {l a : Addr} (h : a ≠ l) : hide G l a = G a := by
  unfold hide
  rw [if_neg h]
theorem hide_at {G : Hp} {l : Addr} : hide G l l = none := by
  unfold hide
  rw [if_pos rfl]
theorem sm_own {G H : Hp} {l : Addr} {o : HO} (s : Sm G H) (hl : H l = some o) (ho : Plain o) : Sm (upd G l o) H := fun b u e => by
  by_cases z : b = l
  · rw [z, upd_same] at e
    cases e
    rw [z]
    exact ⟨hl, fun ps z => by rw [z] at ho; exact ho⟩
  · rw [upd_ne z] at e
    exact s b u e
theorem Sit.unown {G H G' H' : Hp} {l : Addr} {o : HO} (S : Sit T (upd G l o) H G' H') (hG : G l = none) : Sit T G H (hide G' l) H' ∧ H' l = some o := by
  refine ⟨⟨S.hh, S.hd, S.tb, fun b u e => ?_, fun b u e => ?_, fun b h1 h2 => ?_⟩, S.gh.at (S.gg _ _ upd_same)⟩
  · have ne : b ≠ l := fun z => by
      rw [z, hG] at e
      cases e
    rw [hide_ne ne]
    exact S.gg _ _ (by rw [upd_ne ne]; exact e)
  · by_cases z : b = l
    · rw [z, hide_at] at e
      cases e
    · rw [hide_ne z] at e
      exact S.gh b u e
  · by_cases z : b = l
    · rw [z] at h2
      exact absurd hide_at h2
    · rw [hide_ne z] at h2
      exact S.nw b (by rw [upd_ne z]; exact h1) h2
theorem toI_map {α : Type} (f : α → Nat) (l : List α) : toI (l.map f) = l.map fun x => (f x : Int) := by
  unfold toI
  rw [List.map_map]
  rfl
theorem tabL_snoc (W : Wk) (num n : Nat) : tabL W num (n + 1) = tabL W num n ++ [toI ((List.range W.rows.length).map fun r => wt W.p W.rows num n r)] := by
  unfold tabL
  rw [List.range_succ, List.map_append]
  rfl
/-! ### weights_upto -/
def spUpto (T : List (Addr × Str)) (C : Addr) : L2.Sp := fun vs H Q _ => ∃ (G : Hp) (W : Wk) (wv : V) (num n : Nat), vs = [wv, .int (num : Int), .int (n : Int)] ∧ Sm G H ∧ WkR C W wv G ∧ WOk W ∧ Loose W.rows ∧ n ≤ 1000 ∧ Ret T (LstR IntsR) (tabL W num (n + 1)) G H Q
abbrev sWeightsUpto : Stmt := topS 31
theorem scWeightsUpto : FnScope ["works", "number", "most", "found", "row", "size"] ["works", "number", "most"] (defScope sWeightsUpto) := ⟨rfl, rfl, rfl, by decide +kernel, rfl, by decide +kernel, by decide +kernel⟩
theorem okWeightsUpto {f : Addr} {fd : FuncData} (Fn : Fun K "weights_upto" "weights_upto" sWeightsUpto f fd) (Tx : TxtM K mg C) (hLaidWeight : Has P w K mg base "laid_weight" ["works", "row", "size", "number", "ahead_of"] 3 (spLaid T C)) : FnOk P w K mg base CX0 4 f fd ["works", "number", "most"] (spUpto T C) := by
  refine Fn.ok scWeightsUpto (fun vs H Q E h => ?_) (fun cdv A outer s H vs Q E hr h => ?_)
  · obtain ⟨G, W, wv, num, n, rfl, _⟩ := h
    rfl
  · obtain ⟨G, W, wv, num, n, rfl, hG, hW, ok, hL, hn, k⟩ := h
    refine ⟨_, (pss_cons (ps_set (i := 3) scWeightsUpto.nd rfl (by first | exact .inl rfl | exact .inr rfl) (pe_lst (pa_cons (pe_lc (own := [("row", 4)]) rfl scWeightsUpto.nd (itL K (fldK K (pv 0))) (blkOk_by (N := ["works", "number", "most", "found", "row", "size"]) (sc := defScope sWeightsUpto) (by decide +kernel)) (fun _ _ _ _ _ => (pg_name (i := 4) scWeightsUpto.nd rfl (by first | exact .inl rfl | exact .inr rfl))) (fun _ _ _ _ _ => pts_nil) (fun _ _ _ _ _ => pe_int)) pa_nil)))
      (pss_cons (ps_for PassesOwn.never rfl (pi_range2 (by rfl) Tx.range (pa_cons pe_int (pa_cons (pe_op op_add (pv 2) pe_int) pa_nil))) (pg_name (i := 5) scWeightsUpto.nd rfl (by first | exact .inl rfl | exact .inr rfl))
        (pss_one (ps_expr (bmK K PySem.F.plainAttrs_list PySem.F.slot_list_append PySem.F.type_list_append mt_append (pv 3) (pa_cons (pe_lc (own := [("row", 4)]) rfl scWeightsUpto.nd (pi_range1 (by rfl) Tx.range (pa_cons (pe_callB (lenK K) (by rfl) Tx.len PySem.boot_len (pa_cons (fldK K (pv 0)) pa_nil)) pa_nil)) (blkOk_by (N := ["works", "number", "most", "found", "row", "size"]) (sc := defScope sWeightsUpto) (by decide +kernel)) (fun _ _ _ _ _ => (pg_name (i := 4) scWeightsUpto.nd rfl (by first | exact .inl rfl | exact .inr rfl))) (fun _ _ _ _ _ => pts_nil) (fun _ _ _ _ _ => (pe_def hLaidWeight hr (by decide) (by rfl) (pa_cons (pv 0) (pa_cons (pv 4) (pa_cons (pv 5) (pa_cons (pv 1) (pa_cons (pv 3) pa_nil)))))))) pa_nil)))))
      (pss_one (ps_ret (pv 3))))), ?_⟩
    have few := ok.good.few
    refine ⟨_, rfl, rd_rows Tx hW hG fun l vs hl ha => ⟨l, rfl, ⟨_, SqL.of (hG.at hl)⟩, comp_list (T := T) (S := NatR) (R := RowR) (fun _ => true) (fun _ => 0) hG hl ha (by omega) (fun _ => rfl) (fun i x v _ _ _ => eb_yes) (fun i x v _ _ r _ H0 g Q q => q _ _ _ (Sit.refl g) rfl) fun D G1 H1 S1 n1 r1 => ⟨sz1, fun l nlz => ?_⟩⟩⟩
    rw [filter_yes] at r1
    have e0 : (W.rows.map fun _ => 0) = (List.range W.rows.length).map fun r => wt W.p W.rows num 0 r := by
      refine List.ext_getElem? fun i => ?_
      (rw [List.getElem?_map, List.getElem?_map])
      by_cases hi : i < W.rows.length
      · rw [List.getElem?_range hi, List.getElem?_eq_getElem hi]
        show some 0 = some (wt W.p W.rows num 0 i)
        rw [wt_zero]
      · rw [List.getElem?_eq_none (by omega), List.getElem?_eq_none (by rw [List.length_range]; omega)]
        rfl
    rw [e0] at r1
    have r1 := nats_ints r1
    have S2 := S1.lstc [.ref D] nlz
    have hl0 : H l = none := S1.fresh nlz
    have hG1 := S1.gh.none nlz
    refine ⟨_, rfl, _, _, rfl, rfl, 1, (n : Int) + 1, rfl, ⟨by omega, by omega, by omega, by omega⟩, for_range (lo := 1) (n := ((n : Int) + 1 - 1).toNat) (fun i σ H' => ∃ (G' : Hp) (acc : List V) (y5 : Option V), σ = [some wv, some (.int (num : Int)), some (.int (n : Int)), some (.ref l), none, y5] ∧ Sit T G H G' H' ∧ G' l = none ∧ H' l = some (.lst acc) ∧ AllR IntsR (tabL W num (i + 1)) acc G')
      ⟨G1, [.ref D], none, rfl, S2, hG1, upd_same, one_all r1⟩ ?_ ?_⟩
    · rintro i σ H2 hi ⟨G2, acc, y5, rfl, S2, hG2, hl2, hall⟩
      have hsz : (1 : Int) + (i : Int) = ((i + 1 : Nat) : Int) := by omega
      have g3 := sm_own S2.gh hl2 trivial
      have up3 : Same G2 (upd G2 l (.lst acc)) := same_new hG2
      have hW3 := Up.up (R := WkR C) (S2.gg.trans up3) hW
      refine ⟨_, rfl, .inl ⟨rfl, _, SqL.of hl2⟩, _, rfl, rd_rows Tx hW3 g3 fun l2 vs2 hl2' ha2 => ⟨l2, vs2, rfl, .inl (SqL.of (g3.at hl2')), _, rfl, by omega, by have := ha2.len; omega, ?_⟩⟩
      refine comp_range (T := T) (S := NatR) (lo := 0) (fun _ => true) (fun r => wt W.p W.rows num (i + 1) r) g3 (by have := ha2.len; omega) (fun _ => rfl) (fun _ _ => eb_yes) (fun j hj _ H0 g Q q => ?_) fun D2 G4 H4 S4 n4 r4 => ?_
      · have hj : j < W.rows.length := by
          have := ha2.len
          omega
        refine ⟨_, rfl, _, rfl, _, rfl, _, rfl, _, rfl, upd G2 l (.lst acc), W, wv, .ref l, j, i + 1, num, i + 1, (by rw [Int.zero_add, hsz]; rfl), g, hW3, ok, hL, hj, by omega, by omega, by omega, ⟨l, acc, rfl, upd_same, hall.up up3⟩, fun H5 S5 => ?_⟩
        exact q _ _ _ S5 rfl
      · rw [filter_yes] at r4
        have en : ((vs2.length : Int)).toNat = W.rows.length := by
          have := ha2.len
          omega
        rw [en] at r4
        obtain ⟨u1, u2⟩ := S4.unown hG2
        obtain ⟨d, e, hd⟩ := nats_ints r4
        cases e
        have hDl : D2 ≠ l := fun z => by
          rw [z, hl2] at n4
          cases n4
        have S5 := S2.trans u1
        have hlen : acc.length = i + 1 := by
          rw [hall.len]
          unfold tabL
          (rw [List.length_map, List.length_range])
        refine ⟨l, _, _, rfl, rfl, u2, small_line (by omega), hide G4 l, acc ++ [.ref D2], _, rfl, S5.mut hl0 hide_at u2 trivial, hide_at, upd_same, ?_⟩
        rw [tabL_snoc]
        exact (hall.up u1.gg).snoc ⟨D2, rfl, by rw [hide_ne hDl]; exact hd⟩
    · rintro σ H2 ⟨G2, acc, y5, rfl, S2, hG2, hl2, hall⟩
      refine ⟨_, rfl, k _ _ _ (S2.own hl0 hG2 hl2 trivial) ⟨l, acc, rfl, upd_same, ?_⟩⟩
      have en : ((n : Int) + 1 - 1).toNat + 1 = n + 1 := by omega
      rw [en] at hall
      exact hall.up (same_new hG2)
end Mw

set_option Elab.async false
set_option linter.all false
set_option maxRecDepth 100000
set_option maxHeartbeats 4000003
namespace Mw
open PySem.Spec PyProof.Rows L2 LamX PySem
variable {P : Program} {w : World} {K : PySem.W.Frag} {mg : Str → Option Value} {base : Heap} {T : List (Addr × Str)} {C : Addr}
/-! ### crushers_of, openings_of, height_of -/
def isCr (rows : List Rw) (i : Nat) : Bool := match rows[i]? with
  | some (.crush _) => true
  | _ => false
theorem crs_eq (rows : List Rw) : crs rows = ((List.range rows.length).filter (isCr rows)).map fun i => i := by
  rw [List.map_id']
  rfl
theorem isCr_at {rows : List Rw} {i : Nat} {r : Rw} (h : rows[i]? = some r) : isCr rows i = r.isCrush := by
  unfold isCr
  rw [h]
  cases r <;> rfl
def spCrushers (T : List (Addr × Str)) (C : Addr) : L2.Sp := fun vs H Q _ => ∃ (G : Hp) (W : Wk) (wv : V), vs = [wv] ∧ Sm G H ∧ WkR C W wv G ∧ W.rows.length ≤ 1000 ∧ Ret T IntsR (toI (crs W.rows)) G H Q
abbrev sCrushersOf : Stmt := topS 35
theorem scCrushersOf : FnScope ["works", "row"] ["works"] (defScope sCrushersOf) := ⟨rfl, rfl, rfl, by decide +kernel, rfl, by decide +kernel, by decide +kernel⟩
theorem okCrushersOf {f : Addr} {fd : FuncData} (Fn : Fun K "crushers_of" "crushers_of" sCrushersOf f fd) (Tx : TxtM K mg C) : FnOk P w K mg base CX0 1 f fd ["works"] (spCrushers T C) := by
  refine Fn.ok scCrushersOf (fun vs H Q E h => ?_) (fun cdv A outer s H vs Q E hr h => ?_)
  · obtain ⟨G, W, wv, rfl, _⟩ := h
    rfl
  · obtain ⟨G, W, wv, rfl, hG, hW, few, k⟩ := h
    refine ⟨_, (pss_one (ps_ret (pe_lc (own := [("row", 1)]) rfl scCrushersOf.nd (pi_range1 (by rfl) Tx.range (pa_cons (pe_callB (lenK K) (by rfl) Tx.len PySem.boot_len (pa_cons (fldK K (pv 0)) pa_nil)) pa_nil)) (blkOk_by (N := ["works", "row"]) (sc := defScope sCrushersOf) (by decide +kernel)) (fun _ _ _ _ _ => (pg_name (i := 1) scCrushersOf.nd rfl (by first | exact .inl rfl | exact .inr rfl))) (fun _ _ _ _ _ => (pts_one (pt_cmpR op_eq (pe_ix (ixT K) (pe_ix (ixL K) (fldK K (pv 0)) (pv 1) (fun _ _ => rfl)) pe_int (fun _ _ => rfl)) pe_str (nomark _)))) (fun _ _ _ _ _ => (pv 1))))), ?_⟩
    refine ⟨_, rfl, rd_rows Tx hW hG fun l vs hl ha => ⟨l, vs, rfl, .inl (SqL.of (hG.at hl)), _, rfl, by omega, by have := ha.len; omega, ?_⟩⟩
    refine comp_range (T := T) (S := NatR) (lo := 0) (isCr W.rows) (fun i => i) hG (by have := ha.len; omega) (fun _ => rfl) (fun j hj H0 g Q q => ?_) (fun j hj _ => ev_slot rfl (by rw [Int.zero_add]; rfl)) fun D G1 H1 S1 n1 r1 => ?_
    · have hj : j < W.rows.length := by
        have := ha.len
        omega
      have er : W.rows[j]? = some W.rows[j] := List.getElem?_eq_getElem hj
      refine ⟨_, rfl, rd_rows Tx hW g fun l2 vs2 hl2 ha2 => ?_⟩
      obtain ⟨v, hv, rv⟩ := ha2.get er
      obtain ⟨a, t, rfl, hat, h0, _, e1, _⟩ := row_zero rv
      refine ⟨_, rfl, l2, _, _, _, rfl, rfl, SqL.of (g.at hl2), (by rw [Int.zero_add]; exact atI_nat hv), a, _, _, _, rfl, rfl, SqT.of (g.at hat), atI_nat (j := 0) h0, rfl, _, rfl, ?_⟩
      show Q (decide (V.str t = V.str "crush")) H0
      rw [e1, ← isCr_at er]
      exact q H0 (Sit.refl g)
    · have en : ((vs.length : Int)).toNat = W.rows.length := by
        have := ha.len
        omega
      rw [en, ← crs_eq] at r1
      exact k _ _ _ S1 (nats_ints r1)
def spOpenings (T : List (Addr × Str)) (C : Addr) : L2.Sp := fun vs H Q _ => ∃ (G : Hp) (W : Wk) (wv : V), vs = [wv] ∧ Sm G H ∧ WkR C W wv G ∧ W.rows.length ≤ 1000 ∧ Ret T IntsR (toI (opens W.rows)) G H Q
abbrev sOpeningsOf : Stmt := topS 36
theorem scOpeningsOf : FnScope ["works", "row"] ["works"] (defScope sOpeningsOf) := ⟨rfl, rfl, rfl, by decide +kernel, rfl, by decide +kernel, by decide +kernel⟩
theorem okOpeningsOf {f : Addr} {fd : FuncData} (Fn : Fun K "openings_of" "openings_of" sOpeningsOf f fd) (Tx : TxtM K mg C) : FnOk P w K mg base CX0 1 f fd ["works"] (spOpenings T C) := by
  refine Fn.ok scOpeningsOf (fun vs H Q E h => ?_) (fun cdv A outer s H vs Q E hr h => ?_)
  · obtain ⟨G, W, wv, rfl, _⟩ := h
    rfl
  · obtain ⟨G, W, wv, rfl, hG, hW, few, k⟩ := h
    refine ⟨_, (pss_one (ps_ret (pe_lc (own := [("row", 1)]) rfl scOpeningsOf.nd (itL K (fldK K (pv 0))) (blkOk_by (N := ["works", "row"]) (sc := defScope sOpeningsOf) (by decide +kernel)) (fun _ _ _ _ _ => (pg_name (i := 1) scOpeningsOf.nd rfl (by first | exact .inl rfl | exact .inr rfl))) (fun _ _ _ _ _ => (pts_one (pt_cmpR op_eq (pe_ix (ixT K) (pv 1) pe_int (fun _ _ => rfl)) pe_str (nomark _)))) (fun _ _ _ _ _ => (pe_ix (ixT K) (pv 1) pe_int (fun _ _ => rfl)))))), ?_⟩
    exact ⟨_, rfl, rd_rows Tx hW hG fun l vs hl ha => ⟨l, rfl, ⟨_, SqL.of (hG.at hl)⟩, comp_opens (T := T) hG hl ha (by omega) (fun _ => rfl) (fun _ => rfl) fun D G1 H1 S1 n1 r1 => k _ _ _ S1 r1⟩⟩
/-- the greatest opening of two -/
def hgt (A B : List Rw) : Nat := (opens A ++ opens B).foldl max 0
theorem foldl_max : ∀ (l : List Nat) (a : Nat), a ≤ l.foldl max a ∧ (∀ x ∈ l, x ≤ l.foldl max a) ∧ (l.foldl max a = a ∨ l.foldl max a ∈ l)
  | [], a => ⟨Nat.le_refl _, fun x h => absurd h (by simp), .inl rfl⟩
  | b :: l, a => by
    obtain ⟨h1, h2, h3⟩ := foldl_max l (max a b)
    refine ⟨Nat.le_trans (Nat.le_max_left a b) h1, fun x hx => ?_, ?_⟩
    · rcases List.mem_cons.mp hx with e | hx
      · rw [e]
        exact Nat.le_trans (Nat.le_max_right a b) h1
      · exact h2 x hx
    · show l.foldl max (max a b) = a ∨ _
      rcases h3 with h3 | h3
      · rcases Nat.le_total a b with q | q
        · right
          rw [List.foldl_cons, h3, Nat.max_eq_right q]
          exact List.mem_cons_self
        · left
          rw [h3, Nat.max_eq_left q]
      · right
        rw [List.foldl_cons]
        exact List.mem_cons_of_mem _ h3
theorem hgt_above_a {A B : List Rw} : Above (hgt A B) A := fun o u v h => (foldl_max (opens A ++ opens B) 0).2.1 o (List.mem_append_left _ (mem_opens.mpr ⟨u, v, h⟩))
theorem hgt_above_b {A B : List Rw} : Above (hgt A B) B := fun o u v h => (foldl_max (opens A ++ opens B) 0).2.1 o (List.mem_append_right _ (mem_opens.mpr ⟨u, v, h⟩))
theorem hgt_le {A B : List Rw} (gA : Good A) (gB : Good B) : hgt A B ≤ 4 := by
  rcases (foldl_max (opens A ++ opens B) 0).2.2 with h | h
  · unfold hgt
    omega
  · unfold hgt
    (rcases List.mem_append.mp h with h | h)
    · obtain ⟨u, v, hm⟩ := mem_opens.mp h
      have := gA.ok _ hm
      unfold Rw.ok at this
      exact this.2.1
    · obtain ⟨u, v, hm⟩ := mem_opens.mp h
      have := gB.ok _ hm
      unfold Rw.ok at this
      exact this.2.1
theorem hgt_eq {A B : List Rw} {m : Int} (hm : m ∈ [(0 : Int)] ++ toI (opens A) ++ toI (opens B)) (h : ∀ y ∈ [(0 : Int)] ++ toI (opens A) ++ toI (opens B), y ≤ m) : m = (hgt A B : Int) := by
  obtain ⟨h1, h2, h3⟩ := foldl_max (opens A ++ opens B) 0
  have le1 : (hgt A B : Int) ≤ m := by
    refine h _ ?_
    rcases h3 with h3 | h3
    · unfold hgt
      rw [h3]
      exact List.mem_append_left _ (List.mem_append_left _ (List.mem_singleton.mpr rfl))
    · rcases List.mem_append.mp h3 with q | q
      · exact List.mem_append_left _ (List.mem_append_right _ (mem_toI.mpr q))
      · exact List.mem_append_right _ (mem_toI.mpr q)
  have le2 : m ≤ (hgt A B : Int) := by
    have nat : ∀ l : List Nat, (∀ x ∈ l, x ≤ hgt A B) → m ∈ toI l → m ≤ (hgt A B : Int) := fun l hl hx => by
      unfold toI at hx
      obtain ⟨x, hx, e⟩ := List.mem_map.mp hx
      have := hl x hx
      omega
    (rcases List.mem_append.mp hm with q | q)
    · (rcases List.mem_append.mp q with q | q)
      · rw [List.mem_singleton.mp q]
        omega
      · exact nat _ (fun x hx => h2 x (List.mem_append_left _ hx)) q
    · exact nat _ (fun x hx => h2 x (List.mem_append_right _ hx)) q
  omega
def spHeight (T : List (Addr × Str)) (C : Addr) : L2.Sp := fun vs H Q _ => ∃ (G : Hp) (A B : Wk) (av bv : V), vs = [av, bv] ∧ Sm G H ∧ WkR C A av G ∧ WkR C B bv G ∧ WOk A ∧ WOk B ∧ RetV T (.int (hgt A.rows B.rows : Int)) G H Q
abbrev sHeightOf : Stmt := topS 37
theorem scHeightOf : FnScope ["one", "other"] ["one", "other"] (defScope sHeightOf) := ⟨rfl, rfl, rfl, by decide +kernel, rfl, by decide +kernel, by decide +kernel⟩
theorem toI_len (l : List Nat) : (toI l).length = l.length := by
  unfold toI
  rw [List.length_map]
theorem okHeightOf {f : Addr} {fd : FuncData} (Fn : Fun K "height_of" "height_of" sHeightOf f fd) (Tx : TxtM K mg C) (hOpeningsOf : Has P w K mg base "openings_of" ["works"] 1 (spOpenings T C)) : FnOk P w K mg base CX0 2 f fd ["one", "other"] (spHeight T C) := by
  refine Fn.ok scHeightOf (fun vs H Q E h => ?_) (fun cdv A outer s H vs Q E hr h => ?_)
  · obtain ⟨G, A, B, av, bv, rfl, _⟩ := h
    rfl
  · obtain ⟨G, A, B, av, bv, rfl, hG, hA, hB, okA, okB, k⟩ := h
    refine ⟨_, (pss_one (ps_ret (pe_callB (maxK K) (by rfl) Tx.max (by decide +kernel) (pa_cons (pe_op op_cat (pe_op op_cat (pe_lst (pa_cons pe_int pa_nil)) (pe_def hOpeningsOf hr (by decide) (by rfl) (pa_cons (pv 0) pa_nil))) (pe_def hOpeningsOf hr (by decide) (by rfl) (pa_cons (pv 1) pa_nil))) pa_nil)))), ?_⟩
    have fa := okA.good.few
    have fb := okB.good.few
    have la := opens_len A.rows
    have lb := opens_len B.rows
    refine ⟨sz1, fun p1 np1 => ?_⟩
    obtain ⟨G1, S1, g1, k1⟩ := (Sit.refl (T := T) hG).lst [.int 0] np1
    refine ⟨_, rfl, G1, A, av, rfl, S1.gh, Up.up (R := WkR C) g1 hA, by omega, fun v2 G2 H2 S2 r2 => ?_⟩
    obtain ⟨a2, rfl, h2⟩ := r2
    refine ⟨p1, a2, _, _, rfl, rfl, S2.gh.at (S2.gg _ _ k1), S2.gh.at h2, small_le (by rw [List.length_map, toI_len]; show 1 + _ ≤ _; omega), fun p3 np3 => ?_⟩
    obtain ⟨G3, S3, g3, k3⟩ := (S1.trans S2).lst ([.int 0] ++ (toI (opens A.rows)).map V.int) np3
    refine ⟨_, rfl, G3, B, bv, rfl, S3.gh, Up.up (R := WkR C) S3.gg hB, by omega, fun v4 G4 H4 S4 r4 => ?_⟩
    obtain ⟨a4, rfl, h4⟩ := r4
    refine ⟨p3, a4, _, _, rfl, rfl, S4.gh.at (S4.gg _ _ k3), S4.gh.at h4, small_le (by rw [List.length_append, List.length_map, List.length_map, toI_len, toI_len]; show 1 + _ + _ ≤ _; omega), fun p5 np5 => ?_⟩
    obtain ⟨G5, S5, g5, k5⟩ := (S3.trans S4).lst ([.int 0] ++ (toI (opens A.rows)).map V.int ++ (toI (opens B.rows)).map V.int) np5
    have e5 : ([.int 0] ++ (toI (opens A.rows)).map V.int ++ (toI (opens B.rows)).map V.int) = ([(0 : Int)] ++ toI (opens A.rows) ++ toI (opens B.rows)).map V.int := by
      rw [List.map_append, List.map_append]
      rfl
    rw [e5] at k5
    refine ⟨p5, _, rfl, SqL.of (S5.gh.at k5), by rw [List.length_append, List.length_append]; show 0 < 1 + _ + _; omega, fun m hm hle => ?_⟩
    rw [hgt_eq hm hle]
    exact k _ S5.drop
end Mw

set_option Elab.async false
set_option linter.all false
set_option maxRecDepth 100000
set_option maxHeartbeats 4000003
namespace Mw
open PySem.Spec PyProof.Rows L2 LamX PySem
variable {P : Program} {w : World} {K : PySem.W.Frag} {mg : Str → Option Value} {base : Heap} {T : List (Addr × Str)} {C : Addr}
/-! ### two works that are compared -/
structure Pair (A B : Wk) : Prop where
  okA : WOk A
  okB : WOk B
  lA : Loose A.rows
  lB : Loose B.rows
  pp : A.p = B.p
  cA : (crs A.rows).length ≤ 2
  cB : (crs B.rows).length ≤ 3
/-- two works at G -/
structure PairAt (C : Addr) (A B : Wk) (av bv : V) (G : Hp) : Prop where
  a : WkR C A av G
  b : WkR C B bv G
  p : Pair A B
theorem PairAt.up {A B : Wk} {av bv : V} {G G' : Hp} (h : PairAt C A B av bv G) (g : Same G G') : PairAt C A B av bv G' := ⟨Up.up (R := WkR C) g h.a, Up.up (R := WkR C) g h.b, h.p⟩
def spCheck (T : List (Addr × Str)) (C : Addr) : L2.Sp := fun vs H Q _ => ∃ (G : Hp) (A B : Wk) (av bv : V), vs = [av, bv] ∧ Sm G H ∧ PairAt C A B av bv G ∧ RetV T .non G H Q
abbrev sCheckTwo : Stmt := topS 38
theorem scCheckTwo : FnScope ["one", "other"] ["one", "other"] (defScope sCheckTwo) := ⟨rfl, rfl, rfl, by decide +kernel, rfl, by decide +kernel, by decide +kernel⟩
theorem okCheckTwo {f : Addr} {fd : FuncData} (Fn : Fun K "check_two" "check_two" sCheckTwo f fd) (Tx : TxtM K mg C) (hRingOf : Has P w K mg base "ring_of" ["works"] 5 (spRingOf T C)) (hCrushersOf : Has P w K mg base "crushers_of" ["works"] 1 (spCrushers T C)) (hHeightOf : Has P w K mg base "height_of" ["one", "other"] 2 (spHeight T C)) : FnOk P w K mg base CX0 6 f fd ["one", "other"] (spCheck T C) := by
  refine Fn.ok scCheckTwo (fun vs H Q E h => ?_) (fun cdv A outer s H vs Q E hr h => ?_)
  · obtain ⟨G, A, B, av, bv, rfl, _⟩ := h
    rfl
  · obtain ⟨G, A, B, av, bv, rfl, hG, pr, k⟩ := h
    refine ⟨_, (pss_cons (ps_if (PW.pt (pw_or (pt_cmpR op_notN (pe_def hRingOf hr (by decide) (by rfl) (pa_cons (pv 0) pa_nil)) pe_non (nomark _)) (pw_or1 (pt_cmpR op_notN (pe_def hRingOf hr (by decide) (by rfl) (pa_cons (pv 1) pa_nil)) pe_non (nomark _))))) pss_never pss_nil)
      (pss_cons (ps_if (pt_cmpR op_ne (fldK K (pv 0)) (fldK K (pv 1)) (nomark _)) pss_never pss_nil)
      (pss_cons (ps_if (PW.pt (pw_or (pt_cmpR op_gt (pe_callB (lenK K) (by rfl) Tx.len PySem.boot_len (pa_cons (pe_def hCrushersOf hr (by decide) (by rfl) (pa_cons (pv 0) pa_nil)) pa_nil)) (pe_cst Tx.cMOST_CRUSHERS) (nomark _)) (pw_or1 (pt_cmpR op_gt (pe_callB (lenK K) (by rfl) Tx.len PySem.boot_len (pa_cons (pe_def hCrushersOf hr (by decide) (by rfl) (pa_cons (pv 1) pa_nil)) pa_nil)) (pe_cst Tx.cMOST_CRUSHERS) (nomark _))))) pss_never pss_nil)
      (pss_one (ps_if (pt_cmpR op_gt (pe_def hHeightOf hr (by decide) (by rfl) (pa_cons (pv 0) (pa_cons (pv 1) pa_nil))) (pe_cst Tx.cWIDEST_alike) (nomark _)) pss_never pss_nil))))), ?_⟩
    have p := pr.p
    have fa := p.okA.good.few
    have fb := p.okB.good.few
    refine ⟨_, rfl, G, A, av, rfl, hG, pr.a, p.okA, p.lA, fun H1 S1 => ⟨rfl, _, rfl, ite_nno rfl ?_⟩⟩
    refine ⟨_, rfl, G, B, bv, rfl, S1.gh, pr.b, p.okB, p.lB, fun H2 S2 => ⟨rfl, _, rfl, ?_⟩⟩
    have S12 := S1.trans S2
    refine iteF' rfl ?_
    refine ⟨_, rfl, rd_parts Tx pr.a S12.gh ⟨_, rfl, rd_parts Tx pr.b S12.gh ⟨rfl, _, rfl, ?_⟩⟩⟩
    refine ite_nno (ieq (by rw [p.pp])) ?_
    refine ⟨_, rfl, G, A, av, rfl, S12.gh, pr.a, by omega, fun v3 G3 H3 S3 r3 => ?_⟩
    obtain ⟨a3, rfl, h3⟩ := r3
    have ca := p.cA
    have cb := p.cB
    refine ⟨a3, _, rfl, .inl (SqL.of (S3.gh.at h3)), _, _, rfl, rfl, _, rfl, ite_no (by rw [List.length_map, toI_len]; omega) ?_⟩
    refine ⟨_, rfl, G3, B, bv, rfl, S3.gh, Up.up (R := WkR C) S3.gg pr.b, by omega, fun v4 G4 H4 S4 r4 => ?_⟩
    obtain ⟨a4, rfl, h4⟩ := r4
    have e4 : decide ((4 : Int) < (((toI (crs B.rows)).map V.int).length : Int)) = false := decide_eq_false (by rw [List.length_map, toI_len]; omega)
    refine ⟨a4, _, rfl, .inl (SqL.of (S4.gh.at h4)), _, _, rfl, rfl, _, rfl, iteF' e4 ?_⟩
    have S34 := (S12.trans S3).trans S4
    refine ⟨_, rfl, _, rfl, G4, A, B, av, bv, rfl, S4.gh, Up.up (R := WkR C) S34.gg pr.a, Up.up (R := WkR C) S34.gg pr.b, p.okA, p.okB, fun H5 S5 => ?_⟩
    have hh := hgt_le p.okA.good p.okB.good
    exact ⟨_, _, rfl, rfl, _, rfl, ite_no (by omega) (k _ (S34.trans S5).drop)⟩
/-! ### far_goal, far_pair -/
def spFarGoal (T : List (Addr × Str)) (C : Addr) : L2.Sp := fun vs H Q _ => ∃ (G : Hp) (W : Wk) (wv : V) (r : Nat), vs = [wv, .int (r : Int)] ∧ Sm G H ∧ WkR C W wv G ∧ WOk W ∧ Loose W.rows ∧ r < W.rows.length ∧ RetV T (.int (goal W.rows r : Int)) G H Q
theorem above4 {rows : List Rw} (g : Good rows) : Above 4 rows := fun o u v h => by
  have := g.ok _ h
  unfold Rw.ok at this
  exact this.2.1
abbrev sFarGoal : Stmt := topS 39
theorem scFarGoal : FnScope ["works", "row"] ["works", "row"] (defScope sFarGoal) := ⟨rfl, rfl, rfl, by decide +kernel, rfl, by decide +kernel, by decide +kernel⟩
theorem okFarGoal {f : Addr} {fd : FuncData} (Fn : Fun K "far_goal" "far_goal" sFarGoal f fd) (Tx : TxtM K mg C) : FnOk P w K mg base CX0 1 f fd ["works", "row"] (spFarGoal T C) := by
  refine Fn.ok scFarGoal (fun vs H Q E h => ?_) (fun cdv A outer s H vs Q E hr h => ?_)
  · obtain ⟨G, W, wv, r, rfl, _⟩ := h
    rfl
  · obtain ⟨G, W, wv, r, rfl, hG, hW, ok, hL, hrl, k⟩ := h
    refine ⟨_, (pss_cons (ps_while PassesOwn.never (pt_cmpR op_eq (pe_ix (ixT K) (pe_ix (ixL K) (fldK K (pv 0)) (pv 1) (fun _ _ => rfl)) pe_int (fun _ _ => rfl)) pe_str (nomark _)) (pss_one (ps_set (i := 1) scFarGoal.nd rfl (by first | exact .inl rfl | exact .inr rfl) (pe_ix (ixT K) (pe_ix (ixL K) (fldK K (pv 0)) (pv 1) (fun _ _ => rfl)) pe_int (fun _ _ => rfl)))))
      (pss_one  (ps_ret (pv 1)))), ?_⟩
    obtain ⟨e, he⟩ := hL 5 r (by omega) hrl
    refine ⟨fun m σ H' => ∃ c : Nat, σ = [some wv, some (.int (c : Int))] ∧ H' = H ∧ c < W.rows.length ∧ far W.rows m c = goal W.rows r ∧ fin W.rows 5 m c = some e, ⟨W.rows.length + 1, r, rfl, rfl, hrl, rfl, he⟩, ?_⟩
    rintro m σ H1 ⟨c, rfl, rfl, hc, hfar, hfin⟩
    have er : W.rows[c]? = some W.rows[c] := List.getElem?_eq_getElem hc
    refine ⟨_, rfl, rd_rows Tx hW hG fun l vs hl ha => ?_⟩
    obtain ⟨v, hv, a, rfl, hrow⟩ := ha.get er
    have ht := SqT.of (K := K) (hG.at hrow)
    cases m with
    | zero => cases hfin
    | succ m' =>
      cases hx : W.rows[c] with
      | mesh o u v =>
        rw [hx] at ht er
        refine ⟨_, rfl, l, _, _, _, rfl, rfl, SqL.of (hG.at hl), atI_nat hv, a, _, _, _, rfl, rfl, ht, atI_nat (j := 0) rfl, rfl, _, rfl, ite_yes rfl ⟨fun σ H' => ∃ m1, m1 < m' + 1 ∧ _, fun σ' H' z => z, ?_⟩⟩
        refine ⟨_, rfl, rd_rows Tx hW hG fun l2 vs2 hl2 ha2 => ?_⟩
        obtain ⟨v2, hv2, a2, rfl, hrow2⟩ := ha2.get er
        refine ⟨_, rfl, l2, _, _, _, rfl, rfl, SqL.of (hG.at hl2), atI_nat hv2, a2, _, _, _, rfl, rfl, SqT.of (hG.at hrow2), atI_nat (j := 3) rfl, ?_⟩
        have st := mesh_step (s := 5) (above4 ok.good) (by omega) er
        rw [far, er] at hfar
        rw [fin_step st] at hfin
        exact ⟨m', by omega, v, rfl, rfl, (step_lt ok.good st).2, hfar, hfin⟩
      | crush t =>
        rw [hx] at ht er
        have eg : c = goal W.rows r := by
          rw [← hfar, far, er]
        refine ⟨_, rfl, l, _, _, _, rfl, rfl, SqL.of (hG.at hl), atI_nat hv, a, _, _, _, rfl, rfl, ht, atI_nat (j := 0) rfl, rfl, _, rfl, ite_no ne_cm ⟨_, rfl, ?_⟩⟩
        rw [eg]
        exact k _ (Sit.refl hG)
      | bin n =>
        rw [hx] at ht er
        have eg : c = goal W.rows r := by
          rw [← hfar, far, er]
        refine ⟨_, rfl, l, _, _, _, rfl, rfl, SqL.of (hG.at hl), atI_nat hv, a, _, _, _, rfl, rfl, ht, atI_nat (j := 0) rfl, rfl, _, rfl, ite_no ne_bm ⟨_, rfl, ?_⟩⟩
        rw [eg]
        exact k _ (Sit.refl hG)
structure Places (W : Wk) (num s first : Nat) (pl : List Int) : Prop where
  cr : ∀ (i c : Nat), (crs W.rows)[i]? = some c → pl[first + 2 * i]? = some (wt W.p W.rows num s c : Int) ∧ pl[first + 2 * i + 1]? = some (wt W.p W.rows num (s + 1) c : Int)
  sz : ∃ L, pl.length = L + 2 ∧ pl[L]? = some (s : Int)
theorem atI_neg2 {pl : List Int} {L : Nat} {z : Int} (h : pl.length = L + 2) (e : pl[L]? = some z) : atI (pl.map V.int) (-2) = some (.int z) := by
  have hx : ixN (pl.map V.int).length (-2) = some L := by
    unfold ixN
    rw [List.length_map, h, if_neg (by decide), if_pos (by omega)]
    congr 1
    omega
  unfold atI
  rw [hx]
  exact ints_at e
def spFarPair (T : List (Addr × Str)) (C : Addr) : L2.Sp := fun vs H Q _ => ∃ (G : Hp) (W : Wk) (wv pv : V) (pl : List Int) (first r num s h : Nat), vs = [wv, pv, .int (first : Int), .int (r : Int), .int (num : Int)] ∧ Sm G H ∧ WkR C W wv G ∧ WOk W ∧ Loose W.rows ∧ Above h W.rows ∧ h < s ∧ r < W.rows.length ∧ IntsR pl pv G ∧ Places W num s first pl ∧
  Ret T TupR [.int (wt W.p W.rows num s r : Int), .int (wt W.p W.rows num (s + 1) r : Int)] G H Q
theorem crs_nodup (rows : List Rw) : (crs rows).Nodup := by
  unfold crs
  exact List.nodup_range.sublist List.filter_sublist
abbrev sFarPair : Stmt := topS 40
theorem scFarPair : FnScope ["works", "places", "first", "row", "number", "goal", "at"] ["works", "places", "first", "row", "number"] (defScope sFarPair) := ⟨rfl, rfl, rfl, by decide +kernel, rfl, by decide +kernel, by decide +kernel⟩
theorem okFarPair {f : Addr} {fd : FuncData} (Fn : Fun K "far_pair" "far_pair" sFarPair f fd) (Tx : TxtM K mg C) (hFarGoal : Has P w K mg base "far_goal" ["works", "row"] 1 (spFarGoal T C)) (hCrushersOf : Has P w K mg base "crushers_of" ["works"] 1 (spCrushers T C)) : FnOk P w K mg base CX0 2 f fd ["works", "places", "first", "row", "number"] (spFarPair T C) := by
  refine Fn.ok scFarPair (fun vs H Q E h => ?_) (fun cdv A outer s H vs Q E hr h => ?_)
  · obtain ⟨G, W, wv, pv, pl, first, r, num, s, h, rfl, _⟩ := h
    rfl
  · obtain ⟨G, W, wv, pv, pl, first, r, num, s, h, rfl, hG, hW, ok, hL, hA, hs, hrl, ⟨pa, rfl, hpa⟩, pls, k⟩ := h
    refine ⟨_, (pss_cons (ps_set (i := 5) scFarPair.nd rfl (by first | exact .inl rfl | exact .inr rfl) (pe_def hFarGoal hr (by decide) (by rfl) (pa_cons (pv 0) (pa_cons (pv 3) pa_nil))))
      (pss_cons (ps_if (pt_cmpR op_eq (pe_ix (ixT K) (pe_ix (ixL K) (fldK K (pv 0)) (pv 5) (fun _ _ => rfl)) pe_int (fun _ _ => rfl)) pe_str (nomark _)) (pss_cons (ps_set (i := 6) scFarPair.nd rfl (by first | exact .inl rfl | exact .inr rfl) (pe_op op_add (pv 2) (pe_op op_mul pe_int (bmK K PySem.F.plainAttrs_list PySem.F.slot_list_index PySem.F.type_list_index (indexK K) (pe_def hCrushersOf hr (by decide) (by rfl) (pa_cons (pv 0) pa_nil)) (pa_cons (pv 5) pa_nil)))))
        (pss_one (ps_ret (pe_tup (pa_cons (pe_ix (ixL K) (pv 1) (pv 6) (fun _ _ => rfl)) (pa_cons (pe_ix (ixL K) (pv 1) (pe_op op_add (pv 6) pe_int) (fun _ _ => rfl)) pa_nil)))))) pss_nil)
      (pss_cons (ps_if (pt_cmpR (eqK K hr.units) (pe_ix (ixL K) (fldK K (pv 0)) (pv 5) (fun _ _ => rfl)) (pe_tup (pa_cons pe_str (pa_cons (pv 4) pa_nil))) (nomark _)) (pss_one (ps_ret (pe_tup (pa_cons (pe_ix (ixL K) (pv 1) (pe_un un_neg pe_int) (fun _ _ => rfl)) (pa_cons (pe_op op_add (pe_ix (ixL K) (pv 1) (pe_un un_neg pe_int) (fun _ _ => rfl)) pe_int) pa_nil))))) pss_nil)
      (pss_one (ps_ret (pe_tup (pa_cons pe_int (pa_cons pe_int pa_nil)))))))), ?_⟩
    have few := ok.good.few
    have gl := goal_lt ok.good hrl
    have e1 := goal_wt (p := W.p) (num := num) ok.good hL hA hs r
    have e2 := goal_wt (p := W.p) (num := num) ok.good hL hA (show h < s + 1 by omega) r
    refine ⟨_, rfl, _, rfl, G, W, wv, r, rfl, hG, hW, ok, hL, hrl, fun H1 S1 => ?_⟩
    refine ⟨_, rfl, rd_rows Tx hW S1.gh fun l vs hl ha => ?_⟩
    have stop : ∀ s', (∃ n, W.rows[goal W.rows r]? = some (.bin n)) → finish W.rows s' (goal W.rows r) = some (goal W.rows r) := fun s' ⟨n, hn⟩ => finish_stop (by unfold stepW; rw [hn])
    rcases goal_kind ok.good hL hA hrl with ⟨u, hu⟩ | ⟨n, hn⟩
    · obtain ⟨v, hv, a, rfl, hrow⟩ := ha.get hu
      refine ⟨_, rfl, l, _, _, _, rfl, rfl, SqL.of (S1.gh.at hl), atI_nat hv, a, _, _, _, rfl, rfl, SqT.of (S1.gh.at hrow), atI_nat (j := 0) rfl, rfl, _, rfl, ite_yes rfl ?_⟩
      refine ⟨_, rfl, _, rfl, G, W, wv, rfl, S1.gh, hW, by omega, fun v2 G2 H2 S2 r2 => ?_⟩
      obtain ⟨ca, rfl, hca⟩ := r2
      obtain ⟨j, hj, ej⟩ := List.getElem_of_mem (mem_crs.mpr ⟨u, hu⟩)
      have ejj : (crs W.rows)[j]? = some (goal W.rows r) := by rw [List.getElem?_eq_getElem hj, ej]
      have eji : (toI (crs W.rows))[j]? = some (goal W.rows r : Int) := by
        unfold toI
        rw [List.getElem?_map, ejj]
        rfl
      obtain ⟨p1, p2⟩ := pls.cr j _ ejj
      refine ⟨.inl ⟨rfl, _, SqL.of (S2.gh.at hca)⟩, _, rfl, ca, _, _, j, _, rfl, rfl, SqL.of (S2.gh.at hca), rfl, flat_ints, ints_at eji, beq_self_eq_true _, fun m z hm hz => ?_, _, _, rfl, rfl, .inl ⟨by decide, by decide⟩, _, _, rfl, rfl, ?_⟩
      · unfold toI at hz
        rw [List.getElem?_map, List.getElem?_map] at hz
        cases q : (crs W.rows)[m]? with
        | none => rw [q] at hz; cases hz
        | some c =>
          rw [q] at hz
          cases hz
          have ne : c ≠ goal W.rows r := fun z => by
            rw [z] at q
            exact absurd (nd_ix (crs_nodup W.rows) q ejj) (by omega)
          show ((c : Int) == (goal W.rows r : Int)) = false
          simp only [beq_eq_false_iff_ne, ne_eq]
          omega
      · have S12 := S1.trans S2
        have hp2 := S2.gg _ _ hpa
        refine ⟨_, rfl, _, rfl, pa, _, _, _, rfl, rfl, SqL.of (S2.gh.at hp2), at_of (by push_cast; rfl) (ints_at p1), ?_⟩
        refine ⟨_, rfl, _, rfl, _, _, rfl, rfl, pa, _, _, _, rfl, rfl, SqL.of (S2.gh.at hp2), at_of (by push_cast; rfl) (ints_at p2), sz2, fun t nt => ?_⟩
        obtain ⟨G3, S3, g3, k3⟩ := S12.tup [.int (wt W.p W.rows num s (goal W.rows r) : Int), .int (wt W.p W.rows num (s + 1) (goal W.rows r) : Int)] nt
        rw [e1, e2] at k3
        exact k _ _ _ S3 ⟨t, rfl, k3⟩
    · obtain ⟨v, hv, a, rfl, hrow⟩ := ha.get hn
      refine ⟨_, rfl, l, _, _, _, rfl, rfl, SqL.of (S1.gh.at hl), atI_nat hv, a, _, _, _, rfl, rfl, SqT.of (S1.gh.at hrow), atI_nat (j := 0) rfl, rfl, _, rfl, ite_no ne_bc ?_⟩
      refine ⟨_, rfl, rd_rows Tx hW S1.gh fun l2 vs2 hl2 ha2 => ?_⟩
      obtain ⟨v2, hv2, a2, rfl, hrow2⟩ := ha2.get hn
      refine ⟨_, rfl, l2, _, _, _, rfl, rfl, SqL.of (S1.gh.at hl2), atI_nat hv2, _, rfl, sz2, fun t nt => ?_⟩
      obtain ⟨G2, S2, g2, k2⟩ := S1.tup [.str "bin", .int (num : Int)] nt
      obtain ⟨L, q1, q2⟩ := pls.sz
      rw [wt_bin (stop s ⟨n, hn⟩) hn] at e1
      rw [wt_bin (stop (s + 1) ⟨n, hn⟩) hn] at e2
      refine ⟨_, _, .tup (SqT.of (S2.gh.at (g2 _ _ hrow2))) (rowD_dp (.bin n)), .tup (SqT.of (S2.gh.at k2)) (rowD_dp (.bin num)), rowD_shaped (.bin n), rowD_shaped (.bin num), _, rfl, ?_⟩
      by_cases z : n = num
      · rw [if_pos z] at e1 e2
        refine iteT' (by rw [rowD_eq, decide_eq_true (by rw [z])]) ?_
        have hs2 := SqL.of (K := K) (S2.gh.at (g2 _ _ hpa))
        refine ⟨_, rfl, _, rfl, pa, _, _, _, rfl, rfl, hs2, atI_neg2 q1 q2, _, rfl, _, rfl, pa, _, _, _, rfl, rfl, hs2, atI_neg2 q1 q2, _, _, rfl, rfl, sz2, fun t3 nt3 => ?_⟩
        obtain ⟨G3, S3, g3, k3⟩ := S2.tup [.int (s : Int), .int ((s : Int) + 1)] nt3
        rw [← e1, ← e2] at k
        exact k _ _ _ S3 ⟨t3, rfl, k3⟩
      · rw [if_neg z] at e1 e2
        refine iteF' (by rw [rowD_eq, decide_eq_false (fun q => z (by injection q))]) ?_
        refine ⟨sz2, fun t3 nt3 => ?_⟩
        obtain ⟨G3, S3, g3, k3⟩ := S2.tup [.int 0, .int 0] nt3
        rw [← e1, ← e2] at k
        exact k _ _ _ S3 ⟨t3, rfl, k3⟩
end Mw

set_option Elab.async false
set_option linter.all false
set_option maxRecDepth 100000
set_option maxHeartbeats 4000003
namespace Mw
open PySem.Spec PyProof.Rows L2 LamX PySem
variable {P : Program} {w : World} {K : PySem.W.Frag} {mg : Str → Option Value} {base : Heap} {T : List (Addr × Str)} {C : Addr}
/-! ### next_tail -/
theorem places_a {A B : Wk} {num s : Nat} : Places A num s 0 (tail A.p A.rows B.rows num s) := by
  refine ⟨fun i c h => ?_, _, tail_length, tail_z.1⟩
  rw [Nat.zero_add]
  exact tail_a h
theorem places_b {A B : Wk} {num s : Nat} (pp : A.p = B.p) : Places B num s (2 * (crs A.rows).length) (tail A.p A.rows B.rows num s) := by
  refine ⟨fun i c h => ?_, _, tail_length, tail_z.1⟩
  rw [← pp]
  exact tail_b h
def twoL (p : Nat) (rows : List Rw) (num s : Nat) (cs : List Nat) : List Int := cs.flatMap fun c => [(wt p rows num s c : Int), (wt p rows num (s + 1) c : Int)]
theorem twoL_snoc (p : Nat) (rows : List Rw) (num s : Nat) (cs : List Nat) (c : Nat) : twoL p rows num s (cs ++ [c]) = twoL p rows num s cs ++ [(wt p rows num s c : Int), (wt p rows num (s + 1) c : Int)] := by
  unfold twoL
  rw [List.flatMap_append]
  rfl
theorem twoL_len (p : Nat) (rows : List Rw) (num s : Nat) (cs : List Nat) : (twoL p rows num s cs).length = 2 * cs.length := flat2_length _ _ _
/-- what stands behind i of two works -/
def facc (A B : Wk) (num s i : Nat) : List Int := match i with
  | 0 => []
  | 1 => two A.p A.rows num s
  | _ => two A.p A.rows num s ++ two A.p B.rows num s
def ffst (A : Wk) (i : Nat) : Nat := match i with
  | 0 => 0
  | _ => 2 * (crs A.rows).length
theorem facc_len {A B : Wk} {num s : Nat} (p : Pair A B) (i : Nat) : (facc A B num s i).length ≤ 10 := by
  have ca := p.cA
  have cb := p.cB
  match i with
  | 0 => exact Nat.zero_le _
  | 1 =>
    show (two A.p A.rows num s).length ≤ 10
    rw [two_length]
    omega
  | i + 2 =>
    show (two A.p A.rows num s ++ two A.p B.rows num s).length ≤ 10
    rw [List.length_append, two_length, two_length]
    omega
/-- the turn of one of two works -/
structure Turn2 (C : Addr) (A B : Wk) (num s h i : Nat) (x : V) (G : Hp) (W : Wk) : Prop where
  wk : WkR C W x G
  ok : WOk W
  lo : Loose W.rows
  pp : W.p = A.p
  ab : Above h W.rows
  pl : Places W num s (ffst A i) (tail A.p A.rows B.rows num s)
  nx : ∀ s', facc A B num s' i ++ two W.p W.rows num s' = facc A B num s' (i + 1)
  cr : (crs W.rows).length ≤ 3
theorem turn2 {A B : Wk} {av bv x : V} {num s i : Nat} {G : Hp} (pr : PairAt C A B av bv G) (hx : [av, bv][i]? = some x) : ∃ W, Turn2 C A B num s (hgt A.rows B.rows) i x G W := by
  have p := pr.p
  match i, hx with
  | 0, hx =>
    have e : av = x := Option.some.inj hx
    subst e
    have := p.cA
    exact ⟨A, pr.a, p.okA, p.lA, rfl, hgt_above_a, places_a, fun s' => by show [] ++ _ = _; rfl, by omega⟩
  | 1, hx =>
    have e : bv = x := Option.some.inj hx
    subst e
    have := p.cB
    exact ⟨B, pr.b, p.okB, p.lB, p.pp.symm, hgt_above_b, places_b p.pp, fun s' => by rw [← p.pp]; rfl, p.cB⟩
  | i + 2, hx => simp at hx
def spNext (T : List (Addr × Str)) (C : Addr) : L2.Sp := fun vs H Q _ => ∃ (G : Hp) (A B : Wk) (av bv pv : V) (s rest num : Nat), vs = [av, bv, pv, .int (rest : Int), .int (num : Int)] ∧ Sm G H ∧ PairAt C A B av bv G ∧ IntsR (tail A.p A.rows B.rows num s) pv G ∧ hgt A.rows B.rows < s ∧ rest < A.p ∧ Ret T IntsR (tail A.p A.rows B.rows num (A.p * s + rest)) G H Q
abbrev sNextTail : Stmt := topS 41
theorem scNextTail : FnScope ["one", "other", "places", "rest", "number", "found", "first", "works", "row", "low", "high"] ["one", "other", "places", "rest", "number"] (defScope sNextTail) := ⟨rfl, rfl, rfl, by decide +kernel, rfl, by decide +kernel, by decide +kernel⟩
theorem okNextTail {f : Addr} {fd : FuncData} (Fn : Fun K "next_tail" "next_tail" sNextTail f fd) (Tx : TxtM K mg C) (hFarPair : Has P w K mg base "far_pair" ["works", "places", "first", "row", "number"] 2 (spFarPair T C)) (hCrushersOf : Has P w K mg base "crushers_of" ["works"] 1 (spCrushers T C)) : FnOk P w K mg base CX0 3 f fd ["one", "other", "places", "rest", "number"] (spNext T C) := by
  refine Fn.ok scNextTail (fun vs H Q E h => ?_) (fun cdv A outer s H vs Q E hr h => ?_)
  · obtain ⟨G, A, B, av, bv, pv, s, rest, num, rfl, _⟩ := h
    rfl
  · obtain ⟨G, A, B, av, bv, pv, s, rest, num, rfl, hG, pr, ⟨pa, rfl, hpa⟩, hs, hrest, k⟩ := h
    refine ⟨_, (pss_cons (ps_set (i := 5) scNextTail.nd rfl (by first | exact .inl rfl | exact .inr rfl) (pe_lst pa_nil))
      (pss_cons (ps_set (i := 6) scNextTail.nd rfl (by first | exact .inl rfl | exact .inr rfl) pe_int)
      (pss_cons (ps_for PassesOwn.never rfl (itT K (pe_tup (pa_cons (pv 0) (pa_cons (pv 1) pa_nil)))) (pg_name (i := 7) scNextTail.nd rfl (by first | exact .inl rfl | exact .inr rfl))
        (pss_cons (ps_for PassesOwn.never rfl (itL K (pe_def hCrushersOf hr (by decide) (by rfl) (pa_cons (pv 7) pa_nil))) (pg_name (i := 8) scNextTail.nd rfl (by first | exact .inl rfl | exact .inr rfl))
          (pss_cons (ps_asg (pe_def hFarPair hr (by decide) (by rfl) (pa_cons (pv 7) (pa_cons (pv 2) (pa_cons (pv 6) (pa_cons (pe_ix (ixT K) (pe_ix (ixL K) (fldK K (pv 7)) (pv 8) (fun _ _ => rfl)) pe_int (fun _ _ => rfl)) (pa_cons (pv 4) pa_nil)))))) (tgT K (n := 2) (pgs_cons (pg_name (i := 9) scNextTail.nd rfl (by first | exact .inl rfl | exact .inr rfl)) (pgs_cons (pg_name (i := 10) scNextTail.nd rfl (by first | exact .inl rfl | exact .inr rfl)) pgs_nil))))
          (pss_cons (ps_expr (bmK K PySem.F.plainAttrs_list PySem.F.slot_list_append PySem.F.type_list_append mt_append (pv 5) (pa_cons (pe_op op_add (pe_op op_mul (pe_op op_sub (fldK K (pv 7)) (pv 3)) (pv 9)) (pe_op op_mul (pv 3) (pv 10))) pa_nil)))
          (pss_one (ps_expr (bmK K PySem.F.plainAttrs_list PySem.F.slot_list_append PySem.F.type_list_append mt_append (pv 5) (pa_cons (pe_op op_add (pe_op op_mul (pe_op op_sub (pe_op op_sub (fldK K (pv 7)) (pv 3)) pe_int) (pv 9)) (pe_op op_mul (pe_op op_add (pv 3) pe_int) (pv 10))) pa_nil)))))))
        (pss_one (ps_set (i := 6) scNextTail.nd rfl (by first | exact .inl rfl | exact .inr rfl) (pe_op op_mul pe_int (pe_callB (lenK K) (by rfl) Tx.len PySem.boot_len (pa_cons (pe_def hCrushersOf hr (by decide) (by rfl) (pa_cons (pv 0) pa_nil)) pa_nil)))))))
      (pss_one (ps_ret (pe_op op_cat (pv 5) (pe_lst (pa_cons (pe_op op_add (pe_op op_mul (fldK K (pv 0)) (pe_ix (ixL K) (pv 2) (pe_un un_neg pe_int) (fun _ _ => rfl))) (pv 3)) (pa_cons pe_int pa_nil))))))))), ?_⟩
    have pp := pr.p
    have fA := pp.okA.good.few
    have p2 := pp.okA.p2
    have p3 := pp.okA.p3
    refine ⟨Nat.zero_le _, fun l nlz => ?_⟩
    have S1 := (Sit.refl (T := T) hG).lstc [] nlz
    refine ⟨_, rfl, _, rfl, sz2, fun t nt => ?_⟩
    obtain ⟨G2, A2, g2, k2⟩ := (Sit.refl (T := T) S1.gh).tup [av, bv] nt
    have S2 := S1.trans A2
    obtain ⟨hGl, hl2⟩ := A2.kept (hG.none nlz) upd_same trivial
    refine ⟨t, rfl, ⟨_, SqT.of (S2.gh.at k2)⟩, for_tup (K := K) (a := t) (xs := [av, bv]) (fun i σ H' => ∃ G' y7 y8 y9 y10, σ = [some av, some bv, some (.ref pa), some (.int (rest : Int)), some (.int (num : Int)), some (.ref l), some (.int (ffst A i : Int)), y7, y8, y9, y10] ∧ Sit T G H G' H' ∧ Same G2 G' ∧ G' l = none ∧ H' l = some (.lst ((facc A B num (A.p * s + rest) i).map V.int)))
      ⟨G2, none, none, none, none, rfl, S2, Same.refl _, hGl, hl2⟩ (fun i σ H' _ ⟨_, _, _, _, _, _, S, g, _⟩ => SqT.of (S.gh.at (g _ _ k2))) ?_ ?_⟩
    · rintro i x σ H3 hx ⟨G3, y7, y8, y9, y10, rfl, S3, g3, hG3, hl3⟩
      obtain ⟨W, tw⟩ := turn2 (num := num) (s := s) (pr.up S3.gg) hx
      have fW := tw.ok.good.few
      have acl := facc_len (num := num) (s := A.p * s + rest) pp i
      refine ⟨_, rfl, G3, W, x, rfl, S3.gh, tw.wk, by omega, fun v4 G4 H4 A4 r4 => ?_⟩
      obtain ⟨ca, rfl, hca⟩ := r4
      obtain ⟨hG4, hl4⟩ := A4.kept hG3 hl3 trivial
      have S4 := S3.trans A4
      refine ⟨ca, rfl, ⟨_, SqL.of (S4.gh.at hca)⟩, for_list (K := K) (a := ca) (xs := (toI (crs W.rows)).map V.int) (fun j σ H' => ∃ G' y8 y9 y10, σ = [some av, some bv, some (.ref pa), some (.int (rest : Int)), some (.int (num : Int)), some (.ref l), some (.int (ffst A i : Int)), some x, y8, y9, y10] ∧ Sit T G H G' H' ∧ Same G4 G' ∧ G' l = none ∧ H' l = some (.lst ((facc A B num (A.p * s + rest) i ++ twoL W.p W.rows num (A.p * s + rest) ((crs W.rows).take j)).map V.int)))
        ⟨G4, y8, y9, y10, rfl, S4, Same.refl _, hG4, by rw [List.take_zero]; show _ = some (HO.lst ((facc A B num (A.p * s + rest) i ++ []).map V.int)); rw [List.append_nil]; exact hl4⟩ (fun j σ H' _ ⟨_, _, _, _, _, S, g, _⟩ => SqL.of (S.gh.at (g _ _ hca))) ?_ ?_⟩
      · rintro j z σ H5 hz ⟨G5, y8, y9, y10, rfl, S5, g5, hG5, hl5⟩
        obtain ⟨c, hc, rfl⟩ : ∃ c, (crs W.rows)[j]? = some c ∧ z = .int (c : Int) := by
          unfold toI at hz
          rw [List.getElem?_map, List.getElem?_map] at hz
          cases q : (crs W.rows)[j]? with
          | none => rw [q] at hz; cases hz
          | some c => rw [q] at hz; exact ⟨c, rfl, (Option.some.inj hz).symm⟩
        obtain ⟨u, hu⟩ := mem_crs.mp (List.mem_of_getElem? hc)
        have hul : u < W.rows.length := tw.ok.good.ok _ (List.mem_of_getElem? hu)
        have hW5 := Up.up (R := WkR C) ((A4.gg).trans g5) tw.wk
        refine ⟨_, rfl, _, rfl, _, rfl, _, rfl, rd_rows Tx hW5 S5.gh fun l6 vs6 hl6 ha6 => ?_⟩
        obtain ⟨v, hv, a, rfl, hrow⟩ := ha6.get hu
        refine ⟨_, rfl, l6, _, _, _, rfl, rfl, SqL.of (S5.gh.at hl6), atI_nat hv, a, _, _, _, rfl, rfl, SqT.of (S5.gh.at hrow), atI_nat (j := 1) rfl, _, rfl, G5, W, x, .ref pa, _, ffst A i, u, num, s, _, rfl, S5.gh, hW5, tw.ok, tw.lo, tw.ab, hs, hul, ⟨pa, rfl, S5.gg _ _ hpa⟩, tw.pl, fun v7 G7 H7 A7 r7 => ?_⟩
        obtain ⟨b, rfl, hb⟩ := r7
        obtain ⟨hG7, hl7⟩ := A7.kept hG5 hl5 trivial
        have S7 := S5.trans A7
        have hW7 := Up.up (R := WkR C) A7.gg hW5
        refine ⟨b, _, rfl, SqT.of (S7.gh.at hb), rfl, _, _, rfl, _, _, rfl, rfl, ?_⟩
        have w1 := wt_at (num := num) (q := s) (r := rest) tw.ok.p2 (by omega) (by rw [tw.pp]; omega) hu
        have w2 := wt_at (num := num) (q := s) (r := rest + 1) tw.ok.p2 (by omega) (by rw [tw.pp]; omega) hu
        rw [tw.pp] at w1 w2
        have tl := twoL_len W.p W.rows num (A.p * s + rest) ((crs W.rows).take j)
        have tk : ((crs W.rows).take j).length ≤ 3 := by
          rw [List.length_take]
          have := tw.cr
          omega
        refine ⟨_, rfl, .inl ⟨rfl, _, SqL.of hl7⟩, _, rfl, rd_parts Tx hW7 S7.gh ⟨_, rfl, _, _, rfl, rfl, _, rfl, _, _, rfl, rfl, .inl ⟨by rw [tw.pp]; omega, by rw [tw.pp]; omega⟩, _, rfl, _, rfl, _, _, rfl, rfl, .inl ⟨by omega, by omega⟩, _, _, rfl, rfl, l, _, _, rfl, rfl, hl7, small_line (by rw [List.length_map, List.length_append]; omega), ?_⟩⟩
        have M7 := S7.mut (u := .lst ((facc A B num (A.p * s + rest) i ++ twoL W.p W.rows num (A.p * s + rest) ((crs W.rows).take j)).map V.int ++ [.int (((W.p : Int) - (rest : Int)) * (wt W.p W.rows num s u : Int) + (rest : Int) * (wt W.p W.rows num (s + 1) u : Int))])) nlz hG7 hl7 trivial
        refine ⟨_, rfl, .inl ⟨rfl, _, SqL.of upd_same⟩, _, rfl, rd_parts Tx hW7 M7.gh ⟨_, rfl, _, _, rfl, rfl, _, _, rfl, rfl, _, rfl, _, _, rfl, rfl, .inl ⟨by rw [tw.pp]; omega, by rw [tw.pp]; omega⟩, _, rfl, _, _, rfl, rfl, _, rfl, _, _, rfl, rfl, .inl ⟨by omega, by omega⟩, _, _, rfl, rfl, l, _, _, rfl, rfl, upd_same, small_line (by rw [List.length_append, List.length_map, List.length_append]; show _ + 1 ≤ _; omega), ?_⟩⟩
        refine ⟨G7, _, _, _, rfl, M7.mut nlz hG7 upd_same trivial, g5.trans A7.gg, hG7, ?_⟩
        rw [upd_same, take_succ_at hc, twoL_snoc, ← List.append_assoc, List.map_append, List.append_assoc]
        have c1 : ((W.p : Int) - (rest : Int)) * (wt W.p W.rows num s u : Int) + (rest : Int) * (wt W.p W.rows num (s + 1) u : Int) = (wt W.p W.rows num (A.p * s + rest) c : Int) := by
          rw [tw.pp, w1]
          push_cast
          rw [Int.natCast_sub (by omega)]
        have c2 : ((W.p : Int) - (rest : Int) - 1) * (wt W.p W.rows num s u : Int) + ((rest : Int) + 1) * (wt W.p W.rows num (s + 1) u : Int) = (wt W.p W.rows num (A.p * s + rest + 1) c : Int) := by
          rw [tw.pp, Nat.add_assoc, w2]
          push_cast
          rw [Int.natCast_sub (by omega)]
          push_cast
          rw [Int.sub_sub]
        dsimp only
        rw [c1, c2, List.map_append, List.map_append]
        rfl
      · rintro σ H5 ⟨G5, y8, y9, y10, rfl, S5, g5, hG5, hl5⟩
        refine ⟨_, rfl, G5, A, av, rfl, S5.gh, Up.up (R := WkR C) S5.gg pr.a, by omega, fun v6 G6 H6 A6 r6 => ?_⟩
        obtain ⟨b, rfl, hb⟩ := r6
        obtain ⟨hG6, hl6⟩ := A6.kept hG5 hl5 trivial
        refine ⟨b, _, rfl, .inl (SqL.of (A6.gh.at hb)), _, _, rfl, rfl, .inl ⟨by decide, by decide⟩, ?_⟩
        refine ⟨G6, some x, y8, y9, y10, ?_, S5.trans A6, (g3.trans A4.gg).trans (g5.trans A6.gg), hG6, ?_⟩
        · have e : ((2 : Int) * (((toI (crs A.rows)).map V.int).length : Int)) = (ffst A (i + 1) : Int) := by
            rw [List.length_map, toI_len]
            show _ = ((2 * (crs A.rows).length : Nat) : Int)
            omega
          show [some av, some bv, some (V.ref pa), some (V.int (rest : Int)), some (V.int (num : Int)), some (V.ref l), some (V.int ((2 : Int) * (((toI (crs A.rows)).map V.int).length : Int))), some x, y8, y9, y10] = _
          rw [e]
        · rw [hl6, List.length_map, toI_len, List.take_length, ← tw.nx]
          rfl
    · rintro σ H3 ⟨G3, y7, y8, y9, y10, rfl, S3, g3, hG3, hl3⟩
      have hA3 := Up.up (R := WkR C) S3.gg pr.a
      have e2 := tail_length (p := A.p) (A := A.rows) (B := B.rows) (num := num) (s := s)
      refine ⟨_, rfl, _, rfl, rd_parts Tx hA3 S3.gh ⟨_, rfl, _, rfl, pa, _, _, _, rfl, rfl, SqL.of (S3.gh.at (S3.gg _ _ hpa)), atI_neg2 e2 tail_z.1, _, _, rfl, rfl, .inl ⟨by omega, by omega⟩, _, rfl, _, _, rfl, rfl, sz2, fun q nq => ?_⟩⟩
      obtain ⟨G4, A4, g4, k4⟩ := (Sit.refl (T := T) S3.gh).lst [.int ((A.p : Int) * (s : Int) + (rest : Int)), .int 1] nq
      obtain ⟨hG4, hl4⟩ := A4.kept hG3 hl3 trivial
      have acl := facc_len (num := num) (s := A.p * s + rest) pp 2
      refine ⟨l, q, _, _, rfl, rfl, hl4, A4.gh.at k4, small_le (by rw [List.length_map]; show (facc A B num (A.p * s + rest) 2).length + 2 ≤ _; omega), fun o no => ?_⟩
      obtain ⟨G5, S5, g5, k5⟩ := (S3.trans A4).lst ((facc A B num (A.p * s + rest) 2).map V.int ++ [.int ((A.p : Int) * (s : Int) + (rest : Int)), .int 1]) no
      refine k _ _ _ S5 ⟨o, rfl, ?_⟩
      rw [k5]
      unfold tail
      rw [List.map_append]
      rfl
end Mw

set_option Elab.async false
set_option linter.all false
set_option maxRecDepth 100000
set_option maxHeartbeats 4000003
namespace Mw
open PySem.Spec PyProof.Rows L2 LamX PySem
variable {P : Program} {w : World} {K : PySem.W.Frag} {mg : Str → Option Value} {base : Heap} {T : List (Addr × Str)} {C : Addr}
/-! ### behind_tail, same_far, parted_low -/
def tailsB (A B : Wk) (num s : Nat) : List (List Int) := (List.range A.p).map fun r => tail A.p A.rows B.rows num (A.p * s + r)
def spBehind (T : List (Addr × Str)) (C : Addr) : L2.Sp := fun vs H Q _ => ∃ (G : Hp) (A B : Wk) (av bv qv : V) (s num : Nat), vs = [av, bv, qv, .int (num : Int)] ∧ Sm G H ∧ PairAt C A B av bv G ∧ IntsR (tail A.p A.rows B.rows num s) qv G ∧ hgt A.rows B.rows < s ∧ Ret T (LstR IntsR) (tailsB A B num s) G H Q
abbrev sBehindTail : Stmt := topS 43
theorem scBehindTail : FnScope ["one", "other", "places", "number", "rest"] ["one", "other", "places", "number"] (defScope sBehindTail) := ⟨rfl, rfl, rfl, by decide +kernel, rfl, by decide +kernel, by decide +kernel⟩
theorem okBehindTail {f : Addr} {fd : FuncData} (Fn : Fun K "behind_tail" "behind_tail" sBehindTail f fd) (Tx : TxtM K mg C) (hNextTail : Has P w K mg base "next_tail" ["one", "other", "places", "rest", "number"] 3 (spNext T C)) : FnOk P w K mg base CX0 4 f fd ["one", "other", "places", "number"] (spBehind T C) := by
  refine Fn.ok scBehindTail (fun vs H Q E h => ?_) (fun cdv A outer s H vs Q E hr h => ?_)
  · obtain ⟨G, A, B, av, bv, qv, s, num, rfl, _⟩ := h
    rfl
  · obtain ⟨G, A, B, av, bv, qv, s, num, rfl, hG, pr, hqv, hs, k⟩ := h
    refine ⟨_, (pss_one (ps_ret (pe_lc (own := [("rest", 4)]) rfl scBehindTail.nd (pi_range1 (by rfl) Tx.range (pa_cons (fldK K (pv 0)) pa_nil)) (blkOk_by (N := ["one", "other", "places", "number", "rest"]) (sc := defScope sBehindTail) (by decide +kernel)) (fun _ _ _ _ _ => (pg_name (i := 4) scBehindTail.nd rfl (by first | exact .inl rfl | exact .inr rfl))) (fun _ _ _ _ _ => pts_nil) (fun _ _ _ _ _ => (pe_def hNextTail hr (by decide) (by rfl) (pa_cons (pv 0) (pa_cons (pv 1) (pa_cons (pv 2) (pa_cons (pv 4) (pa_cons (pv 3) pa_nil)))))))))), ?_⟩
    have p3 := pr.p.okA.p3
    refine ⟨_, rfl, rd_parts Tx pr.a hG ⟨_, rfl, by omega, by omega, ?_⟩⟩
    refine comp_range (T := T) (S := IntsR) (lo := 0) (fun _ => true) (fun r => tail A.p A.rows B.rows num (A.p * s + r)) hG (by omega) (fun _ => rfl) (fun _ _ => eb_yes) (fun j hj _ H0 g Q q => ?_) fun D G1 H1 S1 n1 r1 => ?_
    · exact ⟨_, rfl, _, rfl, _, rfl, _, rfl, _, rfl, G, A, B, av, bv, qv, s, j, num, (by rw [Int.zero_add]; rfl), g, pr, hqv, hs, by omega, fun v2 G2 H2 S2 r2 => q _ _ _ S2 r2⟩
    · rw [filter_yes, Int.toNat_natCast] at r1
      exact k _ _ _ S1 r1
def spSameFar (T : List (Addr × Str)) (C : Addr) : L2.Sp := fun vs H Q _ => ∃ (G : Hp) (A B : Wk) (av bv qv : V) (s num : Nat), vs = [av, bv, qv, .int (num : Int)] ∧ Sm G H ∧ PairAt C A B av bv G ∧ IntsR (tail A.p A.rows B.rows num s) qv G ∧ hgt A.rows B.rows < s ∧ ∀ b, RetV T (.bl b) G H Q
abbrev sSameFar : Stmt := topS 46
theorem scSameFar : FnScope ["one", "other", "places", "number", "first"] ["one", "other", "places", "number"] (defScope sSameFar) := ⟨rfl, rfl, rfl, by decide +kernel, rfl, by decide +kernel, by decide +kernel⟩
theorem okSameFar {f : Addr} {fd : FuncData} (Fn : Fun K "same_far" "same_far" sSameFar f fd) (Tx : TxtM K mg C) (hFarPair : Has P w K mg base "far_pair" ["works", "places", "first", "row", "number"] 2 (spFarPair T C)) (hCrushersOf : Has P w K mg base "crushers_of" ["works"] 1 (spCrushers T C)) : FnOk P w K mg base CX0 3 f fd ["one", "other", "places", "number"] (spSameFar T C) := by
  refine Fn.ok scSameFar (fun vs H Q E h => ?_) (fun cdv A outer s H vs Q E hr h => ?_)
  · obtain ⟨G, A, B, av, bv, qv, s, num, rfl, _⟩ := h
    rfl
  · obtain ⟨G, A, B, av, bv, qv, s, num, rfl, hG, pr, hqv, hs, k⟩ := h
    refine ⟨_, (pss_cons (ps_set (i := 4) scSameFar.nd rfl (by first | exact .inl rfl | exact .inr rfl) (pe_op op_mul pe_int (pe_callB (lenK K) (by rfl) Tx.len PySem.boot_len (pa_cons (pe_def hCrushersOf hr (by decide) (by rfl) (pa_cons (pv 0) pa_nil)) pa_nil))))
      (pss_one (ps_ret (pe_cmpR op_eq (pe_ix (ixT K) (pe_def hFarPair hr (by decide) (by rfl) (pa_cons (pv 0) (pa_cons (pv 2) (pa_cons pe_int (pa_cons pe_int (pa_cons (pv 3) pa_nil)))))) pe_int (fun _ _ => rfl)) (pe_ix (ixT K) (pe_def hFarPair hr (by decide) (by rfl) (pa_cons (pv 1) (pa_cons (pv 2) (pa_cons (pv 4) (pa_cons pe_int (pa_cons (pv 3) pa_nil)))))) pe_int (fun _ _ => rfl)) (nomark _))))), ?_⟩
    have fA := pr.p.okA.good.few
    have fB := pr.p.okB.good.few
    have oA := pr.p.okA.good.pos
    have oB := pr.p.okB.good.pos
    refine ⟨_, rfl, G, A, av, rfl, hG, pr.a, by omega, fun v1 G1 H1 S1 r1 => ?_⟩
    obtain ⟨c, rfl, hc⟩ := r1
    refine ⟨c, _, rfl, .inl (SqL.of (S1.gh.at hc)), _, _, rfl, rfl, .inl ⟨by decide, by decide⟩, ?_⟩
    refine ⟨_, rfl, _, rfl, _, rfl, G1, A, av, qv, _, 0, 0, num, s, _, rfl, S1.gh, Up.up (R := WkR C) S1.gg pr.a, pr.p.okA, pr.p.lA, hgt_above_a, hs, by omega, Up.up (R := IntsR) S1.gg hqv, places_a, fun v2 G2 H2 S2 r2 => ?_⟩
    obtain ⟨b, rfl, hb⟩ := r2
    refine ⟨b, _, _, _, rfl, rfl, SqT.of (S2.gh.at hb), atI_nat (j := 0) rfl, ?_⟩
    have S12 := S1.trans S2
    refine ⟨_, rfl, _, rfl, _, rfl, _, rfl, G2, B, bv, qv, _, 2 * (crs A.rows).length, 0, num, s, _, ?_, S2.gh, Up.up (R := WkR C) S12.gg pr.b, pr.p.okB, pr.p.lB, hgt_above_b, hs, by omega, Up.up (R := IntsR) S12.gg hqv, places_b pr.p.pp, fun v3 G3 H3 S3 r3 => ?_⟩
    · rw [List.length_map, toI_len]
      push_cast
      rfl
    · obtain ⟨d, rfl, hd⟩ := r3
      exact ⟨d, _, _, _, rfl, rfl, SqT.of (S3.gh.at hd), atI_nat (j := 0) rfl, rfl, k _ _ (S12.trans S3).drop⟩
def spParted (T : List (Addr × Str)) (C : Addr) : L2.Sp := fun vs H Q _ => ∃ (G : Hp) (A B : Wk) (av bv : V) (num : Nat), vs = [av, bv, .int (num : Int)] ∧ Sm G H ∧ PairAt C A B av bv G ∧ ∀ o, RetV T (optV o) G H Q
abbrev sPartedLow : Stmt := topS 45
theorem scPartedLow : FnScope ["one", "other", "number", "most", "mine", "yours", "size"] ["one", "other", "number"] (defScope sPartedLow) := ⟨rfl, rfl, rfl, by decide +kernel, rfl, by decide +kernel, by decide +kernel⟩
theorem okPartedLow {f : Addr} {fd : FuncData} (Fn : Fun K "parted_low" "parted_low" sPartedLow f fd) (Tx : TxtM K mg C) (hHeightOf : Has P w K mg base "height_of" ["one", "other"] 2 (spHeight T C)) (hWeightsUpto : Has P w K mg base "weights_upto" ["works", "number", "most"] 4 (spUpto T C)) : FnOk P w K mg base CX0 5 f fd ["one", "other", "number"] (spParted T C) := by
  refine Fn.ok scPartedLow (fun vs H Q E h => ?_) (fun cdv A outer s H vs Q E hr h => ?_)
  · obtain ⟨G, A, B, av, bv, num, rfl, _⟩ := h
    rfl
  · obtain ⟨G, A, B, av, bv, num, rfl, hG, pr, k⟩ := h
    refine ⟨_, (pss_cons (ps_set (i := 3) scPartedLow.nd rfl (by first | exact .inl rfl | exact .inr rfl) (pe_def hHeightOf hr (by decide) (by rfl) (pa_cons (pv 0) (pa_cons (pv 1) pa_nil))))
      (pss_cons (ps_set (i := 4) scPartedLow.nd rfl (by first | exact .inl rfl | exact .inr rfl) (pe_def hWeightsUpto hr (by decide) (by rfl) (pa_cons (pv 0) (pa_cons (pv 2) (pa_cons (pv 3) pa_nil)))))
      (pss_cons (ps_set (i := 5) scPartedLow.nd rfl (by first | exact .inl rfl | exact .inr rfl) (pe_def hWeightsUpto hr (by decide) (by rfl) (pa_cons (pv 1) (pa_cons (pv 2) (pa_cons (pv 3) pa_nil)))))
      (pss_cons (ps_for PassesOwn.never rfl (pi_range2 (by rfl) Tx.range (pa_cons pe_int (pa_cons (pe_op op_add (pv 3) pe_int) pa_nil))) (pg_name (i := 6) scPartedLow.nd rfl (by first | exact .inl rfl | exact .inr rfl))
        (pss_one (ps_if (pt_cmpR op_ne (pe_ix (ixL K) (pe_ix (ixL K) (pv 4) (pv 6) (fun _ _ => rfl)) pe_int (fun _ _ => rfl)) (pe_ix (ixL K) (pe_ix (ixL K) (pv 5) (pv 6) (fun _ _ => rfl)) pe_int (fun _ _ => rfl)) (nomark _)) (pss_one (ps_ret (pv 6))) pss_nil)))
      (pss_one (ps_ret pe_non)))))), ?_⟩
    have hh := hgt_le pr.p.okA.good pr.p.okB.good
    have oA := pr.p.okA.good.pos
    have oB := pr.p.okB.good.pos
    refine ⟨_, rfl, _, rfl, G, A, B, av, bv, rfl, hG, pr.a, pr.b, pr.p.okA, pr.p.okB, fun H1 S1 => ?_⟩
    refine ⟨_, rfl, _, rfl, _, rfl, G, A, av, num, _, rfl, S1.gh, pr.a, pr.p.okA, pr.p.lA, by omega, fun v2 G2 H2 S2 r2 => ?_⟩
    refine ⟨_, rfl, _, rfl, _, rfl, G2, B, bv, num, _, rfl, S2.gh, Up.up (R := WkR C) S2.gg pr.b, pr.p.okB, pr.p.lB, by omega, fun v3 G3 H3 S3 r3 => ?_⟩
    obtain ⟨ma, mvs, rfl, hma, mall⟩ := r2
    obtain ⟨ya, yvs, rfl, hya, yall⟩ := r3
    have S123 := (S1.trans S2).trans S3
    refine ⟨_, rfl, _, _, rfl, rfl, 1, _, rfl, ⟨by omega, by omega, by omega, by omega⟩, for_range (lo := 1) (n := ((hgt A.rows B.rows : Int) + 1 - 1).toNat) (fun i σ H' => ∃ y6, σ = [some av, some bv, some (.int (num : Int)), some (.int (hgt A.rows B.rows : Int)), some (.ref ma), some (.ref ya), y6] ∧ H' = H3) ⟨none, rfl, rfl⟩ ?_ ?_⟩
    · rintro i σ H4 hi ⟨y6, rfl, rfl⟩
      have ei : (1 : Int) + (i : Int) = ((i + 1 : Nat) : Int) := by omega
      obtain ⟨mv, hmv, c, rfl, hc⟩ := mall.get (tabL_at (W := A) (num := num) (show i + 1 < hgt A.rows B.rows + 1 by omega))
      obtain ⟨yv, hyv, d, rfl, hd⟩ := yall.get (tabL_at (W := B) (num := num) (show i + 1 < hgt A.rows B.rows + 1 by omega))
      refine ⟨_, rfl, _, rfl, ma, _, _, _, rfl, rfl, SqL.of (S3.gh.at (S3.gg _ _ hma)), at_of ei hmv, c, _, _, _, rfl, rfl, SqL.of (S3.gh.at (S3.gg _ _ hc)), atI_nat (j := 0) (ints_at (tabRow_at (by omega))), ?_⟩
      refine ⟨_, rfl, _, rfl, ya, _, _, _, rfl, rfl, SqL.of (S3.gh.at hya), at_of ei hyv, d, _, _, _, rfl, rfl, SqL.of (S3.gh.at hd), atI_nat (j := 0) (ints_at (tabRow_at (by omega))), ?_⟩
      refine ⟨rfl, _, rfl, ?_⟩
      by_cases z : ((wt A.p A.rows num (i + 1) 0 : Nat) : Int) = ((wt B.p B.rows num (i + 1) 0 : Nat) : Int)
      · exact ite_nno (ieq z) ⟨_, rfl, rfl⟩
      · refine ite_nyes (ine z) ⟨_, rfl, ?_⟩
        rw [ei]
        exact k (some (i + 1)) _ S123.drop
    · rintro σ H4 ⟨y6, rfl, rfl⟩
      exact k none _ S123.drop
end Mw

set_option Elab.async false
set_option linter.all false
set_option maxRecDepth 100000
set_option maxHeartbeats 4000003
namespace Mw
open PySem.Spec PyProof.Rows L2 LamX PySem
variable {P : Program} {w : World} {K : PySem.W.Frag} {mg : Str → Option Value} {base : Heap} {T : List (Addr × Str)} {C : Addr}
/-! ### _law_cell, _law_row, _law_end -/
theorem kNat {v : Nat → V} {G H H' : Hp} {Q : VK} (k : ∀ n : Nat, RetV T (.int (n : Int)) G H Q) {i : Int} (h : 0 ≤ i) (S : Sit T G H G H') : Q (.int i) H' := by
  obtain ⟨n, rfl⟩ := Int.eq_ofNat_of_zero_le h
  exact k n H' S
theorem pos4 : (0 : Int) < 4 := by decide
theorem pos6 : (0 : Int) < 6 := by decide
theorem emod_nat (i : Int) {m : Nat} (h : 0 < m) : ∃ u : Nat, i % (m : Int) = (u : Int) ∧ u < m := by
  have h1 := Int.emod_nonneg i (show (m : Int) ≠ 0 by omega)
  have h2 := Int.emod_lt_of_pos i (show (0 : Int) < (m : Int) by omega)
  exact ⟨(i % (m : Int)).toNat, by omega, by omega⟩
/-- the script, as it came -/
def ScrR (K : PySem.W.Frag) : Rel (List Int) := fun zs v G => ∃ a, v = .ref a ∧ SqL K G a (zs.map V.int)
theorem sq_same {K : PySem.W.Frag} {G G' : Hp} {a : Addr} {xs : List V} (g : ∀ b o, G b = some o → G' b = some o) (h : SqL K G a xs) : SqL K G' a xs := by
  rcases h with h | h
  · left
    rcases h with h | ⟨o, h⟩
    · exact .inl (g _ _ h)
    · exact .inr ⟨o, g _ _ h⟩
  · exact .inr h
instance {K : PySem.W.Frag} : Up (ScrR K) := ⟨fun g ⟨a, e, h⟩ => ⟨a, e, sq_same g h⟩⟩
def spLawCell (T : List (Addr × Str)) (K : PySem.W.Frag) : L2.Sp := fun vs H Q _ => ∃ (G : Hp) (zs : List Int) (sv : V) (k : Nat), vs = [sv, .int (k : Int)] ∧ Sm G H ∧ ScrR K zs sv G ∧ ∀ n : Nat, RetV T (.int (n : Int)) G H Q
abbrev sLawCell : Stmt := topS 51
theorem scLawCell : FnScope ["script", "k", "first", "stir"] ["script", "k"] (defScope sLawCell) := ⟨rfl, rfl, rfl, by decide +kernel, rfl, by decide +kernel, by decide +kernel⟩
theorem okLawCell {f : Addr} {fd : FuncData} (Fn : Fun K "_law_cell" "_law_cell" sLawCell f fd) (Tx : TxtM K mg C) : FnOk P w K mg base CX0 1 f fd ["script", "k"] (spLawCell T K) := by
  refine Fn.ok scLawCell (fun vs H Q E h => ?_) (fun cdv A outer s H vs Q E hr h => ?_)
  · obtain ⟨G, zs, sv, k, rfl, _⟩ := h
    rfl
  · obtain ⟨G, zs, sv, n, rfl, hG, ⟨a, rfl, ha⟩, k⟩ := h
    refine ⟨_, (pss_cons (ps_if (pt_cmpR op_lt (pv 1) (pe_callB (lenK K) (by rfl) Tx.len PySem.boot_len (pa_cons (pv 0) pa_nil)) (nomark _)) (pss_one (ps_ret (pe_op op_mod (pe_ix (ixL K) (pv 0) (pv 1) (fun _ _ => rfl)) (pe_op op_pow pe_int pe_int)))) pss_nil)
      (pss_cons (ps_set (i := 2) scLawCell.nd rfl (by first | exact .inl rfl | exact .inr rfl) pe_int)
      (pss_cons (ps_if (pt_cmpR op_gt (pe_callB (lenK K) (by rfl) Tx.len PySem.boot_len (pa_cons (pv 0) pa_nil)) pe_int (nomark _)) (pss_one (ps_set (i := 2) scLawCell.nd rfl (by first | exact .inl rfl | exact .inr rfl) (pe_op op_mod (pe_ix (ixL K) (pv 0) pe_int (fun _ _ => rfl)) (pe_op op_pow pe_int pe_int)))) pss_nil)
      (pss_cons (ps_set (i := 3) scLawCell.nd rfl (by first | exact .inl rfl | exact .inr rfl) (pe_op op_mod (pe_op op_mul (pe_op op_add (pe_op op_add (pv 2) (pe_op op_mul pe_int (pv 1))) pe_int) pe_int) pe_int))
      (pss_cons (ps_set (i := 3) scLawCell.nd rfl (by first | exact .inl rfl | exact .inr rfl) (pe_op op_mod (pe_op op_mul (pv 3) (pv 3)) pe_int))
      (pss_cons (ps_set (i := 3) scLawCell.nd rfl (by first | exact .inl rfl | exact .inr rfl) (pe_op op_mod (pe_op op_mul (pe_op op_add (pv 3) (pe_op op_mul pe_int (pv 1))) pe_int) pe_int))
      (pss_one (ps_ret (pe_op op_fdiv (pe_op op_mul (pv 3) (pv 3)) pe_int))))))))), ?_⟩
    have sl := sq_same (fun b o e => hG.at e) ha
    have big : (0 : Int) < (10 : Int) ^ (60 : Int).toNat := by decide
    have S0 := Sit.refl (T := T) hG
    have q1 : (0 : Int) < 2147483647 := by decide
    have q2 : (0 : Int) < 1000000007 := by decide
    have q3 : (0 : Int) < 998244353 := by decide
    have md : ∀ (i : Int) {m : Int}, 0 < m → m < 2 ^ 64 → CMul (i % m) (i % m) := fun i m h1 h2 => .inl ⟨by have := Int.emod_nonneg i (Int.ne_of_gt h1); omega, by have := Int.emod_lt_of_pos i h1; omega⟩
    refine ⟨_, rfl, _, rfl, a, _, rfl, .inl sl, _, _, rfl, rfl, _, rfl, ite_by (fun z => ?_) (fun z => ?_)⟩
    · rw [List.length_map] at z
      have hz : n < zs.length := by omega
      refine ⟨_, rfl, _, rfl, a, _, _, _, rfl, rfl, sl, atI_nat (ints_at (List.getElem?_eq_getElem hz)), _, _, rfl, rfl, ⟨by decide, by decide, by decide⟩, _, _, rfl, rfl, big, ?_⟩
      exact kNat (v := fun _ => .non) k (Int.emod_nonneg _ (Int.ne_of_gt big)) S0
    · refine ⟨_, rfl, a, _, rfl, .inl sl, _, _, rfl, rfl, _, rfl, ite_by (fun y => ?_) (fun y => ?_)⟩
      rw [List.length_map] at y
      refine ⟨_, rfl, a, _, _, _, rfl, rfl, sl, atI_nat (j := 0) (ints_at (List.getElem?_eq_getElem (show 0 < zs.length by omega))), _, _, rfl, rfl, ⟨by decide, by decide, by decide⟩, _, _, rfl, rfl, big, ?_⟩
      all_goals
        refine ⟨_, rfl, _, rfl, _, _, rfl, rfl, .inl ⟨by decide, by decide⟩, _, _, rfl, rfl, _, _, rfl, rfl, _, _, rfl, rfl, .inr ⟨by decide, by decide⟩, _, _, rfl, rfl, q1, ?_⟩
        refine ⟨_, rfl, _, rfl, _, _, rfl, rfl, md _ q1 (by decide), _, _, rfl, rfl, q2, ?_⟩
        refine ⟨_, rfl, _, rfl, _, _, rfl, rfl, .inl ⟨by decide, by decide⟩, _, _, rfl, rfl, _, _, rfl, rfl, .inr ⟨by decide, by decide⟩, _, _, rfl, rfl, q3, ?_⟩
        refine ⟨_, rfl, _, rfl, _, _, rfl, rfl, md _ q3 (by decide), _, _, rfl, rfl, ⟨by decide, by decide⟩, ?_⟩
        exact kNat (v := fun _ => .non) k (Int.ediv_nonneg (Int.mul_nonneg (Int.emod_nonneg _ (by decide)) (Int.emod_nonneg _ (by decide))) (by decide)) S0
def spLawRow (T : List (Addr × Str)) : L2.Sp := fun vs H Q _ => ∃ (G : Hp) (c m t : Nat), vs = [.int (c : Int), .int (m : Int), .int (t : Int)] ∧ Sm G H ∧ 1 ≤ m ∧ 1 ≤ t ∧ t ≤ 4 ∧ ∀ r : Rw, r.ok m → (∀ o u v, r = .mesh o u v → o ≤ t) → Ret T RowR r G H Q
abbrev sLawRow : Stmt := topS 52
theorem scLawRow : FnScope ["cell", "many", "most", "kind", "rest"] ["cell", "many", "most"] (defScope sLawRow) := ⟨rfl, rfl, rfl, by decide +kernel, rfl, by decide +kernel, by decide +kernel⟩
theorem okLawRow {f : Addr} {fd : FuncData} (Fn : Fun K "_law_row" "_law_row" sLawRow f fd) (Tx : TxtM K mg C) : FnOk P w K mg base CX0 1 f fd ["cell", "many", "most"] (spLawRow T) := by
  refine Fn.ok scLawRow (fun vs H Q E h => ?_) (fun cdv A outer s H vs Q E hr h => ?_)
  · obtain ⟨G, c, m, t, rfl, _⟩ := h
    rfl
  · obtain ⟨G, c, m, t, rfl, hG, h1, h2, h3, k⟩ := h
    refine ⟨_, (pss_cons (ps_set (i := 3) scLawRow.nd rfl (by first | exact .inl rfl | exact .inr rfl) (pe_op op_mod (pv 0) pe_int))
      (pss_cons (ps_set (i := 4) scLawRow.nd rfl (by first | exact .inl rfl | exact .inr rfl) (pe_op op_fdiv (pv 0) pe_int))
      (pss_cons (ps_if (pt_cmpR op_eq (pv 3) pe_int (nomark _)) (pss_one (ps_ret (pe_tup (pa_cons pe_str (pa_cons (pe_op op_mod (pv 4) pe_int) pa_nil))))) pss_nil)
      (pss_cons (ps_if (pt_cmpR op_eq (pv 3) pe_int (nomark _)) (pss_one (ps_ret (pe_tup (pa_cons pe_str (pa_cons (pe_op op_mod (pv 4) (pv 1)) pa_nil))))) pss_nil)
      (pss_one (ps_ret (pe_tup (pa_cons pe_str (pa_cons (pe_op op_add pe_int (pe_op op_mod (pv 4) (pv 2))) (pa_cons (pe_op op_mod (pe_op op_fdiv (pv 4) pe_int) (pv 1)) (pa_cons (pe_op op_mod (pe_op op_fdiv (pv 4) pe_int) (pv 1)) pa_nil))))))))))), ?_⟩
    have S0 := Sit.refl (T := T) hG
    refine ⟨_, rfl, _, _, rfl, rfl, pos4, _, rfl, _, _, rfl, rfl, ⟨by decide, by decide⟩, ?_⟩
    refine ⟨_, rfl, rfl, _, rfl, ite_by (fun z => ?_) fun z => ⟨_, rfl, rfl, _, rfl, ite_by (fun y => ?_) fun y => ?_⟩⟩
    · obtain ⟨u, hu, hul⟩ := emod_nat ((c : Int) / 4) (m := 6) (by decide)
      refine ⟨_, rfl, _, _, rfl, rfl, pos6, sz2, fun p np => ?_⟩
      obtain ⟨G1, S1, g1, k1⟩ := S0.tup [.str "bin", .int ((c : Int) / 4 % 6)] np
      refine k (.bin u) (show u ≤ 5 by omega) (fun o u v e => by cases e) _ _ _ S1 ⟨p, rfl, ?_⟩
      rw [k1]
      show some (HO.tup [.str "bin", .int ((c : Int) / 4 % ((6 : Nat) : Int))]) = _
      rw [hu]
      rfl
    · obtain ⟨u, hu, hul⟩ := emod_nat ((c : Int) / 4) (m := m) (by omega)
      refine ⟨_, rfl, _, rfl, _, _, rfl, rfl, by omega, sz2, fun p np => ?_⟩
      obtain ⟨G1, S1, g1, k1⟩ := S0.tup [.str "crush", .int ((c : Int) / 4 % (m : Int))] np
      refine k (.crush u) hul (fun o u v e => by cases e) _ _ _ S1 ⟨p, rfl, ?_⟩
      rw [k1, hu]
      rfl
    · obtain ⟨o, ho, hol⟩ := emod_nat ((c : Int) / 4) (m := t) (by omega)
      obtain ⟨u, hu, hul⟩ := emod_nat ((c : Int) / 4 / 20) (m := m) (by omega)
      obtain ⟨v, hv, hvl⟩ := emod_nat ((c : Int) / 4 / 160) (m := m) (by omega)
      refine ⟨_, rfl, _, rfl, _, _, rfl, rfl, by omega, _, _, rfl, rfl, ?_⟩
      refine ⟨_, rfl, _, _, rfl, rfl, ⟨by decide, by decide⟩, _, rfl, _, _, rfl, rfl, by omega, ?_⟩
      refine ⟨_, rfl, _, _, rfl, rfl, ⟨by decide, by decide⟩, _, rfl, _, _, rfl, rfl, by omega, sz4, fun p np => ?_⟩
      obtain ⟨G1, S1, g1, k1⟩ := S0.tup [.str "mesh", .int (1 + (c : Int) / 4 % (t : Int)), .int ((c : Int) / 4 / 20 % (m : Int)), .int ((c : Int) / 4 / 160 % (m : Int))] np
      refine k (.mesh (1 + o) u v) ⟨by omega, by omega, hul, hvl⟩ (fun o' u' v' e => by cases e; omega) _ _ _ S1 ⟨p, rfl, ?_⟩
      rw [k1, ho, hu, hv]
      rfl
def spLawEnd (T : List (Addr × Str)) : L2.Sp := fun vs H Q _ => ∃ (G : Hp) (rows : List Rw) (rv : V) (r s : Nat), vs = [rv, .int (r : Int), .int (s : Int)] ∧ Sm G H ∧ LstR RowR rows rv G ∧ Good rows ∧ r < rows.length ∧ RetV T (optV (finish rows s r)) G H Q
abbrev sLawEnd : Stmt := topS 53
theorem scLawEnd : FnScope ["rows", "row", "size", "turn", "one"] ["rows", "row", "size"] (defScope sLawEnd) := ⟨rfl, rfl, rfl, by decide +kernel, rfl, by decide +kernel, by decide +kernel⟩
theorem okLawEnd {f : Addr} {fd : FuncData} (Fn : Fun K "_law_end" "_law_end" sLawEnd f fd) (Tx : TxtM K mg C) : FnOk P w K mg base CX0 1 f fd ["rows", "row", "size"] (spLawEnd T) := by
  refine Fn.ok scLawEnd (fun vs H Q E h => ?_) (fun cdv A outer s H vs Q E hr h => ?_)
  · obtain ⟨G, rows, rv, r, s, rfl, _⟩ := h
    rfl
  · obtain ⟨G, rows, rv, r, s, rfl, hG, ⟨l, vs, rfl, hl, ha⟩, gd, hrl, k⟩ := h
    refine ⟨_, (pss_cons (ps_for PassesOwn.never rfl (pi_range1 (by rfl) Tx.range (pa_cons (pe_op op_add (pe_callB (lenK K) (by rfl) Tx.len PySem.boot_len (pa_cons (pv 0) pa_nil)) pe_int) pa_nil)) (pg_name (i := 3) scLawEnd.nd rfl (by first | exact .inl rfl | exact .inr rfl))
        (pss_cons (ps_set (i := 4) scLawEnd.nd rfl (by first | exact .inl rfl | exact .inr rfl) (pe_ix (ixL K) (pv 0) (pv 1) (fun _ _ => rfl)))
        (pss_one (ps_if (pt_cmpR op_eq (pe_ix (ixT K) (pv 4) pe_int (fun _ _ => rfl)) pe_str (nomark _)) (pss_one (ps_set (i := 1) scLawEnd.nd rfl (by first | exact .inl rfl | exact .inr rfl) (pe_ix (ixT K) (pv 4) (pe_op op_add pe_int (pe_callTy call_int1 (by rfl) Tx.int (by decide +kernel) (pa_cons (pe_cmpR op_gt (pv 2) (pe_ix (ixT K) (pv 4) pe_int (fun _ _ => rfl)) (nomark _)) pa_nil))) (fun _ _ => rfl)))) (pss_one (ps_if (PW.pt (pw_and (pt_cmpR op_eq (pe_ix (ixT K) (pv 4) pe_int (fun _ _ => rfl)) pe_str (nomark _)) (pw_and1 (pt_cmpR op_eq (pv 2) pe_int (nomark _))))) (pss_one (ps_set (i := 1) scLawEnd.nd rfl (by first | exact .inl rfl | exact .inr rfl) (pe_ix (ixT K) (pv 4) pe_int (fun _ _ => rfl)))) (pss_one (ps_ret (pv 1)))))))))
      (pss_one (ps_ret pe_non))), ?_⟩
    have k := k H (Sit.refl hG)
    have sl := SqL.of (K := K) (hG.at hl)
    have few := gd.few
    have hlen := ha.len
    refine ⟨_, rfl, l, vs, rfl, .inl sl, _, _, rfl, rfl, _, rfl, by omega, by omega, for_range (lo := 0) (n := ((vs.length : Int) + 1).toNat) (fun i σ H' => ∃ (c : Nat) (y3 y4 : Option V), σ = [some (.ref l), some (.int (c : Int)), some (.int (s : Int)), y3, y4] ∧ H' = H ∧ c < rows.length ∧ fin rows s (rows.length + 1 - i) c = finish rows s r) ⟨r, none, none, rfl, rfl, hrl, rfl⟩ ?_ ?_⟩
    · rintro i σ H2 hi ⟨c, y3, y4, rfl, rfl, hc, hf⟩
      have ec : rows[c]? = some rows[c] := List.getElem?_eq_getElem hc
      obtain ⟨v, hv, hrow⟩ := ha.get ec
      have hi' : rows.length + 1 - i = (rows.length + 1 - (i + 1)) + 1 := by omega
      rw [hi'] at hf
      refine ⟨_, rfl, _, rfl, l, _, _, _, rfl, rfl, sl, atI_nat hv, ?_⟩
      obtain ⟨b, t, rfl, hb, h0, e1, e2, _⟩ := row_zero hrow
      have sb := SqT.of (K := K) (hG.at hb)
      refine ⟨_, rfl, b, _, _, _, rfl, rfl, sb, atI_nat (j := 0) h0, rfl, _, rfl, ?_⟩
      cases er : rows[c] with
      | mesh o u w =>
        rw [er] at e1 e2 hb sb ec h0
        have st : stepW rows s c = some (if s ≤ o then u else w) := by
          unfold stepW
          rw [ec]
        have hstep := (step_lt gd st).2
        rw [fin_step st] at hf
        refine iteT' e1 ?_
        refine ⟨_, rfl, _, rfl, _, rfl, b, _, _, _, rfl, rfl, sb, atI_nat (j := 1) rfl, _, _, rfl, rfl, .inr ⟨_, rfl, ?_⟩⟩
        by_cases z : s ≤ o
        · have e3 : decide ((o : Int) < (s : Int)) = false := decide_eq_false (by omega)
          rw [e3]
          rw [if_pos z] at hf hstep
          exact ⟨_, _, rfl, rfl, b, _, _, _, rfl, rfl, sb, atI_nat (j := 2) rfl, u, _, _, rfl, rfl, hstep, hf⟩
        · have e3 : decide ((o : Int) < (s : Int)) = true := decide_eq_true (by omega)
          rw [e3]
          rw [if_neg z] at hf hstep
          exact ⟨_, _, rfl, rfl, b, _, _, _, rfl, rfl, sb, atI_nat (j := 3) rfl, w, _, _, rfl, rfl, hstep, hf⟩
      | crush u =>
        rw [er] at e1 e2 hb sb ec h0
        refine iteF' e1 ⟨_, rfl, b, _, _, _, rfl, rfl, sb, atI_nat (j := 0) h0, rfl, _, rfl, iteT' e2 ⟨_, rfl, rfl, _, rfl, ite_by (fun z => ?_) (fun z => ?_)⟩⟩
        · have st : stepW rows s c = some u := by
            unfold stepW
            rw [ec]
            show (if s = 1 then some u else none) = _
            rw [if_pos (by have := V.int.inj z; omega)]
          rw [fin_step st] at hf
          exact ⟨_, rfl, b, _, _, _, rfl, rfl, sb, atI_nat (j := 1) rfl, u, _, _, rfl, rfl, (step_lt gd st).2, hf⟩
        · have st : stepW rows s c = none := by
            unfold stepW
            rw [ec]
            show (if s = 1 then some u else none) = _
            rw [if_neg (fun y => z (by rw [y]; rfl))]
          rw [fin_stop st] at hf
          rw [← hf] at k
          exact ⟨_, rfl, k⟩
      | bin n =>
        rw [er] at e1 e2 hb sb ec h0
        have st : stepW rows s c = none := by
          unfold stepW
          rw [ec]
        rw [fin_stop st] at hf
        rw [← hf] at k
        refine iteF' e1 ⟨_, rfl, b, _, _, _, rfl, rfl, sb, atI_nat (j := 0) h0, rfl, _, rfl, iteF' e2 ?_⟩
        exact ⟨_, rfl, k⟩
    · rintro σ H2 ⟨c, y3, y4, rfl, rfl, hc, hf⟩
      have e0 : rows.length + 1 - ((vs.length : Int) + 1).toNat = 0 := by omega
      rw [e0] at hf
      rw [← hf] at k
      exact k
end Mw

set_option Elab.async false
set_option linter.all false
set_option maxRecDepth 100000
set_option maxHeartbeats 4000003
namespace Mw
open PySem.Spec PyProof.Rows L2 LamX PySem
variable {P : Program} {w : World} {K : PySem.W.Frag} {mg : Str → Option Value} {base : Heap} {T : List (Addr × Str)} {C : Addr}
/-! ### _law_stuck, _law_forward -/
theorem sizes_ints (rows : List Rw) : ([.int 1] ++ (toI (opens rows)).map V.int ++ ((toI (opens rows)).map fun x => x + 1).map V.int) = (toI (sizesL rows)).map V.int := by
  unfold sizesL toI
  simp [Function.comp_def]
theorem sizes_len (rows : List Rw) : (sizesL rows).length = 1 + (opens rows).length + (opens rows).length := by
  unfold sizesL
  rw [List.length_append, List.length_append, List.length_map]
  rfl
def spLawStuck (T : List (Addr × Str)) : L2.Sp := fun vs H Q _ => ∃ (G : Hp) (rows : List Rw) (rv : V), vs = [rv] ∧ Sm G H ∧ LstR RowR rows rv G ∧ Good rows ∧ ∀ b : Bool, (b = false → Loose rows) → RetV T (.bl b) G H Q
abbrev sLawStuck : Stmt := topS 54
theorem scLawStuck : FnScope ["rows", "openings", "row", "size", "opening"] ["rows"] (defScope sLawStuck) := ⟨rfl, rfl, rfl, by decide +kernel, rfl, by decide +kernel, by decide +kernel⟩
theorem okLawStuck {f : Addr} {fd : FuncData} (Fn : Fun K "_law_stuck" "_law_stuck" sLawStuck f fd) (Tx : TxtM K mg C) (hLawEnd : Has P w K mg base "_law_end" ["rows", "row", "size"] 1 (spLawEnd T)) : FnOk P w K mg base CX0 2 f fd ["rows"] (spLawStuck T) := by
  refine Fn.ok scLawStuck (fun vs H Q E h => ?_) (fun cdv A outer s H vs Q E hr h => ?_)
  · obtain ⟨G, rows, rv, rfl, _⟩ := h
    rfl
  · obtain ⟨G, rows, rv, rfl, hG, ⟨l, vs, rfl, hl, ha⟩, gd, k⟩ := h
    refine ⟨_, (pss_cons (ps_setLc (i := 1) (own := [("row", 2)]) rfl scLawStuck.nd rfl rfl (sw_true rfl rfl rfl (by decide +kernel)) (itL K (pv 0)) (blkOk_by (N := ["rows", "openings", "row", "size", "opening"]) (sc := defScope sLawStuck) (by decide +kernel)) (fun _ _ _ _ _ => (pg_name (i := 2) scLawStuck.nd rfl (by first | exact .inl rfl | exact .inr rfl))) (fun _ _ _ _ _ => (pts_one (pt_cmpR op_eq (pe_ix (ixT K) (pv 2) pe_int (fun _ _ => rfl)) pe_str (nomark _)))) (fun _ _ _ _ _ => (pe_ix (ixT K) (pv 2) pe_int (fun _ _ => rfl))))
      (pss_cons (ps_for PassesOwn.never rfl (itL K (pe_op op_cat (pe_op op_cat (pe_lst (pa_cons pe_int pa_nil)) (pv 1)) (pe_lc (own := [("opening", 4)]) rfl scLawStuck.nd (itL K (pv 1)) (blkOk_by (N := ["rows", "openings", "row", "size", "opening"]) (sc := defScope sLawStuck) (by decide +kernel)) (fun _ _ _ _ _ => (pg_name (i := 4) scLawStuck.nd rfl (by first | exact .inl rfl | exact .inr rfl))) (fun _ _ _ _ _ => pts_nil) (fun _ _ _ _ _ => (pe_op op_add (pv 4) pe_int))))) (pg_name (i := 3) scLawStuck.nd rfl (by first | exact .inl rfl | exact .inr rfl))
        (pss_one (ps_for PassesOwn.never rfl (pi_range1 (by rfl) Tx.range (pa_cons (pe_callB (lenK K) (by rfl) Tx.len PySem.boot_len (pa_cons (pv 0) pa_nil)) pa_nil)) (pg_name (i := 2) scLawStuck.nd rfl (by first | exact .inl rfl | exact .inr rfl))
          (pss_one (ps_if (pt_cmpR op_isN (pe_def hLawEnd hr (by decide) (by rfl) (pa_cons (pv 0) (pa_cons (pv 2) (pa_cons (pv 3) pa_nil)))) pe_non (nomark _)) (pss_one (ps_ret pe_bl)) pss_nil)))))
      (pss_one  (ps_ret pe_bl)))), ?_⟩
    have few := gd.few
    have hlen := ha.len
    have ol := opens_len rows
    have ol2 := toI_len (opens rows)
    have hrows : LstR RowR rows (.ref l) G := ⟨l, vs, rfl, hl, ha⟩
    refine ⟨_, rfl, l, rfl, ⟨_, SqL.of (hG.at hl)⟩, comp_opens (T := T) hG hl ha (by omega) (fun _ => rfl) (fun _ => rfl) fun D G1 H1 S1 n1 r1 => ?_⟩
    obtain ⟨_, e, h1⟩ := r1
    cases e
    refine ⟨sz1, fun p1 np1 => ?_⟩
    obtain ⟨G2, S2, g2, k2⟩ := S1.lst [.int 1] np1
    refine ⟨_, rfl, p1, D, _, _, rfl, rfl, upd_same, S2.gh.at (g2 _ _ h1), small_le (by rw [List.length_map]; show 1 + _ ≤ _; omega), fun p2 np2 => ?_⟩
    obtain ⟨G3, S3, g3, k3⟩ := S2.lst ([.int 1] ++ (toI (opens rows)).map V.int) np2
    refine ⟨_, rfl, D, rfl, ⟨_, SqL.of (S3.gh.at (g3 _ _ (g2 _ _ h1)))⟩, comp_list (T := T) (S := IntR) (R := IntR) (fun _ => true) (fun x => x + 1) S3.gh (g3 _ _ (g2 _ _ h1)) AllR.of_ints (by omega) (fun _ => rfl) (fun i x v _ _ _ => eb_yes) (fun i x v _ _ r _ H0 g Q q => ?_) fun D2 G4 H4 S4 n4 r4 => ?_⟩
    · cases r
      exact ⟨_, rfl, _, _, rfl, rfl, q _ _ _ (Sit.refl g) rfl⟩
    · rw [filter_yes] at r4
      obtain ⟨_, e, h4⟩ := r4.ints
      cases e
      refine ⟨p2, D2, _, _, rfl, rfl, S4.gh.at (S4.gg _ _ k3), S4.gh.at h4, small_le (by rw [List.length_append, List.length_map, List.length_map, List.length_map]; show 1 + _ + _ ≤ _; omega), fun p3 np3 => ?_⟩
      obtain ⟨G5, S5, g5, k5⟩ := (S3.trans S4).lst ([.int 1] ++ (toI (opens rows)).map V.int ++ ((toI (opens rows)).map fun x => x + 1).map V.int) np3
      refine ⟨p3, rfl, ⟨_, SqL.of (S5.gh.at k5)⟩, ?_⟩
      rw [sizes_ints] at k5
      refine for_list (K := K) (a := p3) (xs := (toI (sizesL rows)).map V.int) (fun i σ H' => ∃ (y2 y3 y4 : Option V), σ = [some (.ref l), some (.ref D), y2, y3, y4] ∧ Sit T G H G5 H' ∧ ∀ z ∈ (sizesL rows).take i, ∀ r, r < rows.length → ∃ e, finish rows z r = some e) ⟨none, none, none, rfl, S5, fun z hz => absurd hz (by simp)⟩ (fun i σ H' _ ⟨_, _, _, _, S, _⟩ => SqL.of (S.gh.at k5)) ?_ ?_
      · rintro i x σ H6 hx ⟨y2, y3, y4, rfl, S6, hd⟩
        obtain ⟨z, hz, rfl⟩ : ∃ z, (sizesL rows)[i]? = some z ∧ x = .int ((z : Nat) : Int) := by
          unfold toI at hx
          rw [List.map_map, List.getElem?_map] at hx
          cases q : (sizesL rows)[i]? with
          | none => rw [q] at hx; cases hx
          | some z => rw [q] at hx; exact ⟨z, rfl, (Option.some.inj hx).symm⟩
        have hl6 := S6.gh.at (S6.gg _ _ hl)
        refine ⟨_, rfl, l, vs, rfl, .inl (SqL.of hl6), _, rfl, by omega, by omega, for_range (lo := 0) (n := ((vs.length : Int)).toNat) (fun j σ H' => ∃ (y2 y4 : Option V), σ = [some (.ref l), some (.ref D), y2, some (.int (z : Int)), y4] ∧ Sit T G H G5 H' ∧ ∀ r, r < j → ∃ e, finish rows z r = some e) ⟨y2, y4, rfl, S6, fun r hr => absurd hr (by omega)⟩ ?_ ?_⟩
        · rintro j σ H7 hj ⟨y2, y4, rfl, S7, hd7⟩
          refine ⟨_, rfl, _, rfl, _, rfl, G5, rows, .ref l, j, z, (by rw [Int.zero_add]; rfl), S7.gh, Up.up (R := LstR RowR) S7.gg hrows, gd, by omega, fun H8 S8 => ?_⟩
          have S78 := S7.trans S8
          cases q : finish rows z j with
          | none => exact ⟨rfl, _, rfl, ite_yes rfl (k true (fun z => by cases z) _ S78.drop)⟩
          | some e =>
            refine ⟨rfl, _, rfl, ite_no (fun z => by cases z) ⟨_, _, rfl, S78, fun r hr => ?_⟩⟩
            by_cases hrj : r < j
            · exact hd7 r hrj
            · have : r = j := by omega
              rw [this]
              exact ⟨e, q⟩
        · rintro σ H7 ⟨y2, y4, rfl, S7, hd7⟩
          refine ⟨_, _, _, rfl, S7, fun z' hz' r hr => ?_⟩
          rw [take_succ_at hz] at hz'
          rcases List.mem_append.mp hz' with h' | h'
          · exact hd z' h' r hr
          · rw [List.mem_singleton.mp h']
            exact hd7 r (by omega)
      · rintro σ H6 ⟨y2, y3, y4, rfl, S6, hd⟩
        refine k false (fun _ => loose_of_sizes fun z hz => hd z ?_) _ S6.drop
        rw [List.length_map, toI_len, List.take_length]
        exact hz
theorem forward_get {rows : List Rw} {i : Nat} {y : Rw} (h : rows[i]? = some y) : (forward rows)[i]? = some (fwd rows.length i y) := by
  have hi := (List.getElem?_eq_some_iff.mp h).1
  have h2 : (forward rows)[i]? = some ((forward rows)[i]'(by rw [forward_length]; exact hi)) := List.getElem?_eq_getElem _
  obtain ⟨y', e1, e2⟩ := forward_at h2
  rw [h2, e2]
  rw [h] at e1
  cases e1
  rfl
theorem fwd_int {n i u : Nat} {x : Int} (h : x = ((n - 1 - i : Nat) : Int)) : 0 + (i : Int) + 1 + (u : Int) % x = ((i + 1 + u % (n - 1 - i) : Nat) : Int) := by
  subst h
  generalize n - 1 - i = q
  rw [Int.zero_add]
  push_cast
  rfl
def spLawForward (T : List (Addr × Str)) : L2.Sp := fun vs H Q _ => ∃ (G : Hp) (rows : List Rw) (rv : V), vs = [rv] ∧ Sm G H ∧ LstR RowR rows rv G ∧ rows.length ≤ 1000 ∧ (∃ b, rows[rows.length - 1]? = some (.bin b)) ∧ Ret T (LstR RowR) (forward rows) G H Q
abbrev sLawForward : Stmt := topS 55
theorem scLawForward : FnScope ["rows", "made", "k", "one", "left"] ["rows"] (defScope sLawForward) := ⟨rfl, rfl, rfl, by decide +kernel, rfl, by decide +kernel, by decide +kernel⟩
theorem okLawForward {f : Addr} {fd : FuncData} (Fn : Fun K "_law_forward" "_law_forward" sLawForward f fd) (Tx : TxtM K mg C) : FnOk P w K mg base CX0 1 f fd ["rows"] (spLawForward T) := by
  refine Fn.ok scLawForward (fun vs H Q E h => ?_) (fun cdv A outer s H vs Q E hr h => ?_)
  · obtain ⟨G, rows, rv, rfl, _⟩ := h
    rfl
  · obtain ⟨G, rows, rv, rfl, hG, ⟨l, vs, rfl, hl, ha⟩, few, ⟨bb, hbb⟩, k⟩ := h
    refine ⟨_, (pss_cons (ps_set (i := 1) scLawForward.nd rfl (by first | exact .inl rfl | exact .inr rfl) (pe_lst pa_nil))
      (pss_cons (ps_for PassesOwn.never rfl (pi_range1 (by rfl) Tx.range (pa_cons (pe_callB (lenK K) (by rfl) Tx.len PySem.boot_len (pa_cons (pv 0) pa_nil)) pa_nil)) (pg_name (i := 2) scLawForward.nd rfl (by first | exact .inl rfl | exact .inr rfl))
        (pss_cons (ps_set (i := 3) scLawForward.nd rfl (by first | exact .inl rfl | exact .inr rfl) (pe_ix (ixL K) (pv 0) (pv 2) (fun _ _ => rfl)))
        (pss_cons (ps_set (i := 4) scLawForward.nd rfl (by first | exact .inl rfl | exact .inr rfl) (pe_op op_sub (pe_op op_sub (pe_callB (lenK K) (by rfl) Tx.len PySem.boot_len (pa_cons (pv 0) pa_nil)) pe_int) (pv 2)))
        (pss_cons (ps_if (pt_cmpR op_eq (pe_ix (ixT K) (pv 3) pe_int (fun _ _ => rfl)) pe_str (nomark _)) (pss_one (ps_set (i := 3) scLawForward.nd rfl (by first | exact .inl rfl | exact .inr rfl) (pe_tup (pa_cons pe_str (pa_cons (pe_ix (ixT K) (pv 3) pe_int (fun _ _ => rfl)) (pa_cons (pe_op op_add (pe_op op_add (pv 2) pe_int) (pe_op op_mod (pe_ix (ixT K) (pv 3) pe_int (fun _ _ => rfl)) (pv 4))) (pa_cons (pe_op op_add (pe_op op_add (pv 2) pe_int) (pe_op op_mod (pe_ix (ixT K) (pv 3) pe_int (fun _ _ => rfl)) (pv 4))) pa_nil))))))) (pss_one (ps_if (pt_cmpR op_eq (pe_ix (ixT K) (pv 3) pe_int (fun _ _ => rfl)) pe_str (nomark _)) (pss_one (ps_set (i := 3) scLawForward.nd rfl (by first | exact .inl rfl | exact .inr rfl) (pe_tup (pa_cons pe_str (pa_cons (pe_op op_add (pe_op op_add (pv 2) pe_int) (pe_op op_mod (pe_ix (ixT K) (pv 3) pe_int (fun _ _ => rfl)) (pv 4))) pa_nil))))) pss_nil)))
        (pss_one (ps_expr (bmK K PySem.F.plainAttrs_list PySem.F.slot_list_append PySem.F.type_list_append mt_append (pv 1) (pa_cons (pv 3) pa_nil))))))))
      (pss_one (ps_ret (pv 1))))), ?_⟩
    have hlen := ha.len
    refine ⟨Nat.zero_le _, fun d nd => ?_⟩
    have S1 := (Sit.refl (T := T) hG).lstc [] nd
    have hd0 := hG.none nd
    have sl1 := S1.gh.at hl
    refine ⟨_, rfl, l, vs, rfl, .inl (SqL.of sl1), _, rfl, by omega, by omega, for_range (lo := 0) (n := ((vs.length : Int)).toNat) (fun i σ H' => ∃ (G' : Hp) (acc : List V) (y2 y3 y4 : Option V), σ = [some (.ref l), some (.ref d), y2, y3, y4] ∧ Sit T G H G' H' ∧ G' d = none ∧ H' d = some (.lst acc) ∧ AllR RowR ((forward rows).take i) acc G') ⟨G, [], none, none, none, rfl, S1, hd0, upd_same, by rw [List.take_zero]; exact AllR.nil⟩ ?_ ?_⟩
    · rintro i σ H2 hi ⟨G2, acc, y2, y3, y4, rfl, S2, hG2, hd2, hall⟩
      have hi : i < rows.length := by omega
      have er : rows[i]? = some rows[i] := List.getElem?_eq_getElem hi
      obtain ⟨v, hv, hrow⟩ := ha.get er
      have hl2 := S2.gh.at (S2.gg _ _ hl)
      have sl := SqL.of (K := K) hl2
      have efw := forward_get er
      have hacc : acc.length = i := by
        rw [hall.len, List.length_take, forward_length]
        omega
      have fin : ∀ (u : V) (G4 H4 : Hp), Sit T G H G4 H4 → G4 d = none → H4 d = some (.lst acc) → AllR RowR ((forward rows).take i) acc G4 → RowR (fwd rows.length i rows[i]) u G4 → ∃ (G' : Hp) (acc' : List V) (y2 y3 y4 : Option V), [some (V.ref l), some (V.ref d), some (V.int (0 + (i : Int))), some u, some (V.int ((vs.length : Int) - 1 - (0 + (i : Int))))] = [some (.ref l), some (.ref d), y2, y3, y4] ∧ Sit T G H G' (upd H4 d (.lst (acc ++ [u]))) ∧ G' d = none ∧ upd H4 d (.lst (acc ++ [u])) d = some (.lst acc') ∧ AllR RowR ((forward rows).take (i + 1)) acc' G' := fun u G4 H4 S4 hG4 hd4 hall4 r4 =>
        ⟨G4, acc ++ [u], _, _, _, rfl, S4.mut nd hG4 hd4 trivial, hG4, upd_same, by rw [take_succ_at efw]; exact hall4.snoc r4⟩
      refine ⟨_, rfl, _, rfl, l, _, _, _, rfl, rfl, sl, (by rw [Int.zero_add]; exact atI_nat hv), ?_⟩
      refine ⟨_, rfl, l, vs, rfl, .inl sl, _, _, rfl, rfl, _, rfl, _, _, rfl, rfl, ?_⟩
      have hrow2 := Up.up (R := RowR) S2.gg hrow
      obtain ⟨b, t, rfl, hb, h0, e1, e2, _⟩ := row_zero hrow2
      have sb := SqT.of (K := K) (S2.gh.at hb)
      have hx : (vs.length : Int) - 1 - (0 + (i : Int)) = ((rows.length - 1 - i : Nat) : Int) := by omega
      refine ⟨_, rfl, b, _, _, _, rfl, rfl, sb, atI_nat (j := 0) h0, rfl, _, rfl, ?_⟩
      cases ek : rows[i] with
      | mesh o u w =>
        rw [ek] at e1 e2 hb sb h0 fin
        have hp : (0 : Int) < (vs.length : Int) - 1 - (0 + (i : Int)) := by
          have : i ≠ rows.length - 1 := fun e => by
            rw [← e, er, ek] at hbb
            cases hbb
          omega
        refine iteT' e1 ?_
        refine ⟨_, rfl, b, _, _, _, rfl, rfl, sb, atI_nat (j := 1) rfl, ?_⟩
        refine ⟨_, rfl, _, _, rfl, rfl, _, rfl, b, _, _, _, rfl, rfl, sb, atI_nat (j := 2) rfl, _, rfl, _, _, rfl, rfl, hp, _, _, rfl, rfl, ?_⟩
        refine ⟨_, rfl, _, _, rfl, rfl, _, rfl, b, _, _, _, rfl, rfl, sb, atI_nat (j := 3) rfl, _, rfl, _, _, rfl, rfl, hp, _, _, rfl, rfl, sz4, fun p np => ?_⟩
        obtain ⟨G3, S3, g3, k3⟩ := (Sit.refl (T := T) S2.gh).tup [.str "mesh", .int (o : Int), .int (0 + (i : Int) + 1 + (u : Int) % ((vs.length : Int) - 1 - (0 + (i : Int)))), .int (0 + (i : Int) + 1 + (w : Int) % ((vs.length : Int) - 1 - (0 + (i : Int))))] np
        obtain ⟨hG3, hd3⟩ := S3.kept hG2 hd2 trivial
        refine ⟨_, rfl, .inl ⟨rfl, _, SqL.of hd3⟩, _, rfl, d, _, _, rfl, rfl, hd3, small_line (by omega), ?_⟩
        refine fin _ G3 _ (S2.trans S3) hG3 hd3 (hall.up g3) ⟨p, rfl, ?_⟩
        rw [k3, fwd_int hx, fwd_int hx]
        rfl
      | crush u =>
        rw [ek] at e1 e2 hb sb h0 fin
        have hp : (0 : Int) < (vs.length : Int) - 1 - (0 + (i : Int)) := by
          have : i ≠ rows.length - 1 := fun e => by
            rw [← e, er, ek] at hbb
            cases hbb
          omega
        refine iteF' e1 ⟨_, rfl, b, _, _, _, rfl, rfl, sb, atI_nat (j := 0) h0, rfl, _, rfl, iteT' e2 ?_⟩
        refine ⟨_, rfl, _, _, rfl, rfl, _, rfl, b, _, _, _, rfl, rfl, sb, atI_nat (j := 1) rfl, _, rfl, _, _, rfl, rfl, hp, _, _, rfl, rfl, sz2, fun p np => ?_⟩
        obtain ⟨G3, S3, g3, k3⟩ := (Sit.refl (T := T) S2.gh).tup [.str "crush", .int (0 + (i : Int) + 1 + (u : Int) % ((vs.length : Int) - 1 - (0 + (i : Int))))] np
        obtain ⟨hG3, hd3⟩ := S3.kept hG2 hd2 trivial
        refine ⟨_, rfl, .inl ⟨rfl, _, SqL.of hd3⟩, _, rfl, d, _, _, rfl, rfl, hd3, small_line (by omega), ?_⟩
        refine fin _ G3 _ (S2.trans S3) hG3 hd3 (hall.up g3) ⟨p, rfl, ?_⟩
        rw [k3, fwd_int hx]
        rfl
      | bin n =>
        rw [ek] at e1 e2 hb sb h0 fin
        refine iteF' e1 ⟨_, rfl, b, _, _, _, rfl, rfl, sb, atI_nat (j := 0) h0, rfl, _, rfl, iteF' e2 ?_⟩
        refine ⟨_, rfl, .inl ⟨rfl, _, SqL.of hd2⟩, _, rfl, d, _, _, rfl, rfl, hd2, small_line (by omega), ?_⟩
        exact fin _ G2 H2 S2 hG2 hd2 hall ⟨b, rfl, hb⟩
    · rintro σ H2 ⟨G2, acc, y2, y3, y4, rfl, S2, hG2, hd2, hall⟩
      refine ⟨_, rfl, k _ _ _ (S2.own nd hG2 hd2 trivial) ⟨d, acc, rfl, upd_same, ?_⟩⟩
      have e : ((vs.length : Int)).toNat = (forward rows).length := by
        rw [forward_length]
        omega
      rw [e, List.take_length] at hall
      exact hall.up (same_new hG2)
end Mw

set_option Elab.async false
set_option linter.all false
set_option maxRecDepth 100000
set_option maxHeartbeats 4000003
namespace Mw
open PySem.Spec PyProof.Rows L2 LamX PySem
variable {P : Program} {w : World} {K : PySem.W.Frag} {mg : Str → Option Value} {base : Heap} {T : List (Addr × Str)} {C : Addr}
/-! ### _law_rows -/
theorem crN_snoc (rows : List Rw) (r : Rw) : crN (rows ++ [r]) = crN rows + if r.isCrush then 1 else 0 := by
  unfold crN
  rw [List.filter_append, List.length_append]
  cases r <;> rfl
def spLawRows (T : List (Addr × Str)) (K : PySem.W.Frag) : L2.Sp := fun vs H Q _ => ∃ (G : Hp) (zs : List Int) (sv : V) (a m : Nat), vs = [sv, .int (a : Int), .int (m : Int), .int 3, .int 2] ∧ Sm G H ∧ ScrR K zs sv G ∧ 1 ≤ m ∧ m ≤ 5 ∧ ∀ rows, Gen rows m 3 → Loose rows → Ret T (LstR RowR) rows G H Q
abbrev sLawRows : Stmt := topS 56
theorem scLawRows : FnScope ["script", "at", "many", "most", "crushers", "rows", "k", "row", "one"] ["script", "at", "many", "most", "crushers"] (defScope sLawRows) := ⟨rfl, rfl, rfl, by decide +kernel, rfl, by decide +kernel, by decide +kernel⟩
theorem okLawRows {f : Addr} {fd : FuncData} (Fn : Fun K "_law_rows" "_law_rows" sLawRows f fd) (Tx : TxtM K mg C) (hLawCell : Has P w K mg base "_law_cell" ["script", "k"] 1 (spLawCell T K)) (hLawRow : Has P w K mg base "_law_row" ["cell", "many", "most"] 1 (spLawRow T)) (hLawStuck : Has P w K mg base "_law_stuck" ["rows"] 2 (spLawStuck T)) (hLawForward : Has P w K mg base "_law_forward" ["rows"] 1 (spLawForward T)) : FnOk P w K mg base CX0 3 f fd ["script", "at", "many", "most", "crushers"] (spLawRows T K) := by
  refine Fn.ok scLawRows (fun vs H Q E h => ?_) (fun cdv A outer s H vs Q E hr h => ?_)
  · obtain ⟨G, zs, sv, a, m, rfl, _⟩ := h
    rfl
  · obtain ⟨G, zs, sv, a, m, rfl, hG, hz, m1, m5, k⟩ := h
    refine ⟨_, (pss_cons (ps_set (i := 5) scLawRows.nd rfl (by first | exact .inl rfl | exact .inr rfl) (pe_lst pa_nil))
      (pss_cons (ps_for PassesOwn.never rfl (pi_range1 (by rfl) Tx.range (pa_cons (pe_op op_sub (pv 2) pe_int) pa_nil)) (pg_name (i := 6) scLawRows.nd rfl (by first | exact .inl rfl | exact .inr rfl))
        (pss_cons (ps_set (i := 7) scLawRows.nd rfl (by first | exact .inl rfl | exact .inr rfl) (pe_def hLawRow hr (by decide) (by rfl) (pa_cons (pe_def hLawCell hr (by decide) (by rfl) (pa_cons (pv 0) (pa_cons (pe_op op_add (pv 1) (pv 6)) pa_nil))) (pa_cons (pv 2) (pa_cons (pv 3) pa_nil)))))
        (pss_cons (ps_if (PW.pt (pw_and (pt_cmpR op_eq (pe_ix (ixT K) (pv 7) pe_int (fun _ _ => rfl)) pe_str (nomark _)) (pw_and1 (pt_cmpR op_ge (pe_callB (lenK K) (by rfl) Tx.len PySem.boot_len (pa_cons (pe_lc (own := [("one", 8)]) rfl scLawRows.nd (itL K (pv 5)) (blkOk_by (N := ["script", "at", "many", "most", "crushers", "rows", "k", "row", "one"]) (sc := defScope sLawRows) (by decide +kernel)) (fun _ _ _ _ _ => (pg_name (i := 8) scLawRows.nd rfl (by first | exact .inl rfl | exact .inr rfl))) (fun _ _ _ _ _ => (pts_one (pt_cmpR op_eq (pe_ix (ixT K) (pv 8) pe_int (fun _ _ => rfl)) pe_str (nomark _)))) (fun _ _ _ _ _ => (pv 8))) pa_nil)) (pv 4) (nomark _))))) (pss_one (ps_set (i := 7) scLawRows.nd rfl (by first | exact .inl rfl | exact .inr rfl) (pe_tup (pa_cons pe_str (pa_cons (pe_op op_mod (pe_ix (ixT K) (pv 7) pe_int (fun _ _ => rfl)) pe_int) pa_nil))))) pss_nil)
        (pss_one (ps_expr (bmK K PySem.F.plainAttrs_list PySem.F.slot_list_append PySem.F.type_list_append mt_append (pv 5) (pa_cons (pv 7) pa_nil)))))))
      (pss_cons (ps_expr (bmK K PySem.F.plainAttrs_list PySem.F.slot_list_append PySem.F.type_list_append mt_append (pv 5) (pa_cons (pe_tup (pa_cons pe_str (pa_cons (pe_op op_mod (pe_def hLawCell hr (by decide) (by rfl) (pa_cons (pv 0) (pa_cons (pe_op op_sub (pe_op op_add (pv 1) (pv 2)) pe_int) pa_nil))) pe_int) pa_nil))) pa_nil)))
      (pss_cons (ps_if (pt_val (pe_def hLawStuck hr (by decide) (by rfl) (pa_cons (pv 5) pa_nil))) (pss_one (ps_ret (pe_def hLawForward hr (by decide) (by rfl) (pa_cons (pv 5) pa_nil)))) pss_nil)
      (pss_one (ps_ret (pv 5))))))), ?_⟩
    refine ⟨Nat.zero_le _, fun d nd => ?_⟩
    have S1 := (Sit.refl (T := T) hG).lstc [] nd
    have hd0 := hG.none nd
    let Inv : List Rw → Nat → Hp → Prop := fun rs i H' => ∃ (G' : Hp) (acc : List V), Sit T G H G' H' ∧ G' d = none ∧ H' d = some (.lst acc) ∧ AllR RowR rs acc G' ∧ rs.length = i ∧ (∀ r ∈ rs, r.ok m) ∧ (∀ o ∈ opens rs, o ≤ 3) ∧ crN rs ≤ 2
    -- one row more
    have more : ∀ (i : Nat) (acc : List V) (rs : List Rw) (r : Rw) (u : V) (G4 H4 : Hp), Sit T G H G4 H4 → G4 d = none → H4 d = some (.lst acc) → AllR RowR rs acc G4 → rs.length = i → (∀ r ∈ rs, r.ok m) → (∀ o ∈ opens rs, o ≤ 3) → RowR r u G4 → r.ok m → (∀ o u v, r = .mesh o u v → o ≤ 3) → crN (rs ++ [r]) ≤ 2 → Inv (rs ++ [r]) (i + 1) (upd H4 d (.lst (acc ++ [u]))) := fun i acc rs r u G4 H4 S4 hG4 hd4 hall hlen hok hlow rr rok rlow hcr => by
      refine ⟨G4, acc ++ [u], S4.mut nd hG4 hd4 trivial, hG4, upd_same, hall.snoc rr, by rw [List.length_append, hlen]; rfl, fun x hx => ?_, fun o ho => ?_, hcr⟩
      · (rcases List.mem_append.mp hx with hx | hx)
        · exact hok x hx
        · rw [List.mem_singleton.mp hx]
          exact rok
      · obtain ⟨p, q, hm⟩ := mem_opens.mp ho
        rcases List.mem_append.mp hm with hx | hx
        · exact hlow o (mem_opens.mpr ⟨p, q, hx⟩)
        · exact rlow o p q (List.mem_singleton.mp hx).symm
    refine ⟨_, rfl, _, _, rfl, rfl, _, rfl, by omega, by omega, for_range (lo := 0) (n := ((m : Int) - 1).toNat) (fun i σ H' => ∃ (y6 y7 : Option V), σ = [some sv, some (.int (a : Int)), some (.int (m : Int)), some (.int 3), some (.int 2), some (.ref d), y6, y7, none] ∧ ∃ rs, Inv rs i H') ⟨none, none, rfl, [], G, [], S1, hd0, upd_same, AllR.nil, rfl, fun r hr => absurd hr (by simp), fun o ho => absurd ho (by simp [opens]), by decide⟩ ?_ ?_⟩
    · rintro i σ H2 hi ⟨y6, y7, rfl, rs, G2, acc, S2, hG2, hd2, hall, hlen, hok, hlow, hcr⟩
      refine ⟨_, rfl, _, rfl, _, rfl, _, _, rfl, rfl, G2, zs, sv, a + i, (by push_cast; rw [Int.zero_add]; rfl), S2.gh, Up.up (R := ScrR K) S2.gg hz, fun n H3 S3 => ?_⟩
      refine ⟨_, rfl, _, rfl, G2, n, m, 3, rfl, S3.gh, m1, by decide, by decide, fun r rok rlow v4 G4 H4 S4 r4 => ?_⟩
      have S34 := S3.trans S4
      have S24 := S2.trans S34
      obtain ⟨hG4, hd4⟩ := S34.kept hG2 hd2 trivial
      have hall4 := hall.up S34.gg
      have hal := hall.len
      obtain ⟨b, t, rfl, hb, h0, e1, e2, _⟩ := row_zero r4
      have sb := SqT.of (K := K) (S24.gh.at hb)
      refine ⟨_, rfl, b, _, _, _, rfl, rfl, sb, atI_nat (j := 0) h0, rfl, _, rfl, ?_⟩
      cases r with
      | crush u =>
        have g5 := sm_own S24.gh hd4 trivial
        have up5 : Same G4 (upd G4 d (.lst acc)) := same_new hG4
        refine iteT' e2 ⟨_, rfl, d, rfl, ⟨_, SqL.of hd4⟩, comp_list (T := T) (S := RowR) (R := RowR) Rw.isCrush (fun x => x) g5 upd_same (hall4.up up5) (by omega) (fun _ => rfl) (fun i x v _ _ r => ev_isCrush rfl r) (fun i x v _ _ r _ => ev_slot rfl r) fun D G6 H6 S6 n6 r6 => ?_⟩
        obtain ⟨u1, u2⟩ := S6.unown hG4
        have hDd : D ≠ d := fun z => by
          rw [z, hd4] at n6
          cases n6
        obtain ⟨D', ys, e, hD, hys⟩ := r6
        cases e
        have hyl : ys.length = crN rs := by
          rw [hys.len, List.length_map]
          rfl
        have S26 := S24.trans u1
        refine ⟨D, ys, rfl, .inl (SqL.of (S6.gh.at hD)), _, rfl, _, _, rfl, rfl, _, rfl, ite_by (fun z => ?_) (fun z => ?_)⟩
        · have hb6 := u1.gg _ _ hb
          obtain ⟨q, hq, hql⟩ := emod_nat (u : Int) (m := 6) (by decide)
          refine ⟨_, rfl, b, _, _, _, rfl, rfl, SqT.of (S26.gh.at hb6), atI_nat (j := 1) rfl, _, _, rfl, rfl, pos6, sz2, fun p np => ?_⟩
          obtain ⟨G7, S7, g7, k7⟩ := (Sit.refl (T := T) S26.gh).tup [.str "bin", .int ((u : Int) % 6)] np
          obtain ⟨hG7, hd7⟩ := S7.kept hide_at u2 trivial
          refine ⟨_, rfl, .inl ⟨rfl, _, SqL.of hd7⟩, _, rfl, d, _, _, rfl, rfl, hd7, small_line (by omega), ?_⟩
          refine ⟨_, _, rfl, _, more i acc rs (.bin q) (.ref p) G7 _ (S26.trans S7) hG7 hd7 ((hall4.up u1.gg).up g7) hlen hok hlow ⟨p, rfl, ?_⟩ (show q ≤ 5 by omega) (fun _ _ _ e => by cases e) ?_⟩
          · rw [k7]
            show some (HO.tup [.str "bin", .int ((u : Int) % ((6 : Nat) : Int))]) = _
            rw [hq]
            rfl
          · rw [crN_snoc]
            exact hcr
        · have hyl2 : ¬ ((2 : Int) ≤ (ys.length : Int)) := z
          refine ⟨_, rfl, .inl ⟨rfl, _, SqL.of u2⟩, _, rfl, d, _, _, rfl, rfl, u2, small_line (by omega), ?_⟩
          refine ⟨_, _, rfl, _, more i acc rs (.crush u) (.ref b) _ _ S26 hide_at u2 (hall4.up u1.gg) hlen hok hlow (Up.up (R := RowR) u1.gg r4) rok (fun _ _ _ e => by cases e) ?_⟩
          rw [crN_snoc]
          show crN rs + 1 ≤ 2
          omega
      | mesh o u v =>
        refine iteF' e2 ⟨_, rfl, .inl ⟨rfl, _, SqL.of hd4⟩, _, rfl, d, _, _, rfl, rfl, hd4, small_line (by omega), ?_⟩
        refine ⟨_, _, rfl, _, more i acc rs (.mesh o u v) (.ref b) _ _ S24 hG4 hd4 hall4 hlen hok hlow r4 rok rlow ?_⟩
        rw [crN_snoc]
        exact hcr
      | bin u =>
        refine iteF' e2 ⟨_, rfl, .inl ⟨rfl, _, SqL.of hd4⟩, _, rfl, d, _, _, rfl, rfl, hd4, small_line (by omega), ?_⟩
        refine ⟨_, _, rfl, _, more i acc rs (.bin u) (.ref b) _ _ S24 hG4 hd4 hall4 hlen hok hlow r4 rok (fun _ _ _ e => by cases e) ?_⟩
        rw [crN_snoc]
        exact hcr
    · rintro σ H2 ⟨y6, y7, rfl, rs, G2, acc, S2, hG2, hd2, hall, hlen, hok, hlow, hcr⟩
      have hal := hall.len
      refine ⟨_, rfl, .inl ⟨rfl, _, SqL.of hd2⟩, _, rfl, _, rfl, _, rfl, _, _, rfl, rfl, _, _, rfl, rfl, G2, zs, sv, a + m - 1, ?_, S2.gh, Up.up (R := ScrR K) S2.gg hz, fun n H3 S3 => ?_⟩
      · have : (a : Int) + (m : Int) - 1 = ((a + m - 1 : Nat) : Int) := by omega
        show [sv, V.int ((a : Int) + (m : Int) - 1)] = _
        rw [this]
      · obtain ⟨q, hq, hql⟩ := emod_nat (n : Int) (m := 6) (by decide)
        refine ⟨_, _, rfl, rfl, pos6, sz2, fun p np => ?_⟩
        have S23 := S2.trans S3
        obtain ⟨hG3, hd3⟩ := S3.kept hG2 hd2 trivial
        obtain ⟨G4, S4, g4, k4⟩ := (Sit.refl (T := T) S23.gh).tup [.str "bin", .int ((n : Int) % 6)] np
        obtain ⟨hG4, hd4⟩ := S4.kept hG3 hd3 trivial
        have S24 := S23.trans S4
        refine ⟨d, _, _, rfl, rfl, hd4, small_line (by omega), ?_⟩
        obtain ⟨G5, acc5, S5, hG5, hd5, hall5, hlen5, hok5, hlow5, hcr5⟩ := more _ acc rs (.bin q) (.ref p) G4 _ S24 hG4 hd4 (hall.up g4) hlen hok hlow ⟨p, rfl, by
          rw [k4]
          show some (HO.tup [.str "bin", .int ((n : Int) % ((6 : Nat) : Int))]) = _
          rw [hq]
          rfl⟩ (show q ≤ 5 by omega) (fun _ _ _ e => by cases e) (by rw [crN_snoc]; exact hcr)
        have hbin : ∃ b, (rs ++ [Rw.bin q])[m - 1]? = some (.bin b) := ⟨q, by
          have e : m - 1 = rs.length := by omega
          rw [e, List.getElem?_append_right (Nat.le_refl _), Nat.sub_self]
          rfl⟩
        have gen : Gen (rs ++ [Rw.bin q]) m 3 := ⟨by rw [hlen5]; omega, hok5, hlow5, hcr5⟩
        have S6 := S5.own nd hG5 hd5 trivial
        have r6 : LstR RowR (rs ++ [Rw.bin q]) (.ref d) (upd G5 d (.lst acc5)) := ⟨d, acc5, rfl, upd_same, hall5.up (same_new hG5)⟩
        refine ⟨_, rfl, _, _, .ref d, rfl, S6.gh, r6, gen.good m1 (by omega), fun b hb H7 S7 => ?_⟩
        have S67 := S6.trans S7
        cases b with
        | true =>
          refine ⟨_, rfl, iteT ⟨_, rfl, _, _, .ref d, rfl, S67.gh, r6, by rw [gen.len]; omega, by rw [gen.len]; exact hbin, fun v8 G8 H8 S8 r8 => ?_⟩⟩
          exact k _ (forward_gen gen hbin) (forward_loose gen m1 (by omega) hbin) _ _ _ (S67.trans S8) r8
        | false =>
          refine ⟨_, rfl, iteF ⟨_, rfl, ?_⟩⟩
          exact k _ gen (hb rfl) _ _ _ S67 r6
end Mw

set_option Elab.async false
set_option linter.all false
set_option maxRecDepth 100000
set_option maxHeartbeats 4000003
namespace Mw
open PySem.Spec PyProof.Rows L2 LamX PySem
variable {P : Program} {w : World} {K : PySem.W.Frag} {mg : Str → Option Value} {base : Heap} {T : List (Addr × Str)} {C : Addr}
/-! ### _law_renamed -/
theorem ixN_of {n j : Nat} (hj : j < n) : ixN n (j : Int) = some j := by
  unfold ixN
  (rw [if_pos (by omega), if_pos (by omega)])
  simp
theorem Names.inj {names : List Nat} {m i j : Nat} (N : Names names m) (hi : i < m) (hj : j < m) (h : names.getD i 0 = names.getD j 0) : i = j := by
  have e1 := (N.at hi).1
  have e2 := (N.at hj).1
  rw [h] at e1
  have li : i < names.length := by rw [N.len]; exact hi
  have lj : j < names.length := by rw [N.len]; exact hj
  have d := List.pairwise_iff_getElem.mp N.nd
  rw [List.getElem?_eq_getElem li] at e1
  rw [List.getElem?_eq_getElem lj] at e2
  have e : names[i] = names[j] := by rw [Option.some.inj e1, Option.some.inj e2]
  rcases Nat.lt_trichotomy i j with q | q | q
  · exact absurd e (d i j li lj q)
  · exact q
  · exact absurd e.symm (d j i lj li q)
/-- the renamed rows from the list that the loop filled -/
theorem renamed_of {rows : List Rw} {names : List Nat} {m : Nat} {acc : List V} {G : Hp} (N : Names names m) (hm : rows.length = m) (hl : acc.length = m) (h : ∀ k, k < m → ∀ y, rows[k]? = some y → ∃ v, acc[names.getD k 0]? = some v ∧ RowR (ren names y) v G) : ∃ made, Ren rows made names ∧ AllR RowR made acc G := by
  have pick : ∀ c, c < m → ∃ k, k < m ∧ names.getD k 0 = c := fun c hc => by
    obtain ⟨k, hk, e⟩ := List.getElem_of_mem (N.has hc)
    have hk' : k < m := by rw [← N.len]; exact hk
    refine ⟨k, hk', ?_⟩
    have := (N.at hk').1
    rw [List.getElem?_eq_getElem hk] at this
    rw [← Option.some.inj this, e]
  have each : ∀ n, n ≤ m → ∃ made : List Rw, made.length = n ∧ ∀ c, c < n → ∀ k, k < m → names.getD k 0 = c → ∀ y, rows[k]? = some y → made[c]? = some (ren names y) := fun n => by
    induction n with
    | zero => exact fun _ => ⟨[], rfl, fun c hc => absurd hc (by omega)⟩
    | succ n ih =>
      intro hn
      obtain ⟨made, h1, h2⟩ := ih (by omega)
      obtain ⟨k0, hk0, ek0⟩ := pick n (by omega)
      have er : rows[k0]? = some (rows[k0]'(by omega)) := List.getElem?_eq_getElem _
      refine ⟨made ++ [ren names (rows[k0]'(by omega))], by rw [List.length_append, h1]; rfl, fun c hc k hk ek y hy => ?_⟩
      by_cases z : c < n
      · rw [List.getElem?_append_left (by omega)]
        exact h2 c z k hk ek y hy
      · have ec : c = n := by omega
        have : k = k0 := N.inj hk hk0 (by rw [ek, ek0, ec])
        subst this
        rw [er] at hy
        rw [← Option.some.inj hy, ec, ← h1, List.getElem?_append_right (Nat.le_refl _), Nat.sub_self]
        rfl
  obtain ⟨made, h1, h2⟩ := each m (Nat.le_refl _)
  refine ⟨made, ⟨by rw [h1, hm], fun k y hy => ?_⟩, by rw [hl, h1], fun c x v e1 e2 => ?_⟩
  · have hk : k < m := by
      have := (List.getElem?_eq_some_iff.mp hy).1
      omega
    exact h2 _ (N.at hk).2 k hk rfl y hy
  · have hc : c < m := by
      have := (List.getElem?_eq_some_iff.mp e1).1
      omega
    obtain ⟨k, hk, ek⟩ := pick c hc
    have er : rows[k]? = some (rows[k]'(by omega)) := List.getElem?_eq_getElem _
    have q := h2 c hc k hk ek _ er
    rw [e1] at q
    obtain ⟨u, hu, r⟩ := h k hk _ er
    rw [ek, e2] at hu
    rw [Option.some.inj q, Option.some.inj hu]
    exact r
def NonR : Rel Nat := fun _ v _ => v = .non
instance : Up NonR := ⟨fun _ h => h⟩
def spLawRenamed (T : List (Addr × Str)) : L2.Sp := fun vs H Q _ => ∃ (G : Hp) (rows : List Rw) (names : List Nat) (m : Nat) (rv nv : V), vs = [rv, nv] ∧ Sm G H ∧ LstR RowR rows rv G ∧ IntsR (toI names) nv G ∧ Names names m ∧ rows.length = m ∧ m ≤ 6 ∧ (∀ r ∈ rows, r.ok m) ∧ ∀ made, Ren rows made names → Ret T (LstR RowR) made G H Q
abbrev sLawRenamed : Stmt := topS 60
theorem scLawRenamed : FnScope ["rows", "names", "made", "row", "k", "one"] ["rows", "names"] (defScope sLawRenamed) := ⟨rfl, rfl, rfl, by decide +kernel, rfl, by decide +kernel, by decide +kernel⟩
theorem okLawRenamed {f : Addr} {fd : FuncData} (Fn : Fun K "_law_renamed" "_law_renamed" sLawRenamed f fd) (Tx : TxtM K mg C) : FnOk P w K mg base CX0 1 f fd ["rows", "names"] (spLawRenamed T) := by
  refine Fn.ok scLawRenamed (fun vs H Q E h => ?_) (fun cdv A outer s H vs Q E hr h => ?_)
  · obtain ⟨G, rows, names, m, rv, nv, rfl, _⟩ := h
    rfl
  · obtain ⟨G, rows, names, m, rv, nv, rfl, hG, ⟨l, vs, rfl, hl, ha⟩, ⟨nn, rfl, hnn⟩, N, hm, m6, hok, k⟩ := h
    refine ⟨_, (pss_cons (ps_setLc (i := 2) (own := [("row", 3)]) rfl scLawRenamed.nd rfl rfl (sw_true rfl rfl rfl (by decide +kernel)) (itL K (pv 0)) (blkOk_by (N := ["rows", "names", "made", "row", "k", "one"]) (sc := defScope sLawRenamed) (by decide +kernel)) (fun _ _ _ _ _ => (pg_name (i := 3) scLawRenamed.nd rfl (by first | exact .inl rfl | exact .inr rfl))) (fun _ _ _ _ _ => pts_nil) (fun _ _ _ _ _ => pe_non))
      (pss_cons (ps_for PassesOwn.never rfl (pi_range1 (by rfl) Tx.range (pa_cons (pe_callB (lenK K) (by rfl) Tx.len PySem.boot_len (pa_cons (pv 0) pa_nil)) pa_nil)) (pg_name (i := 4) scLawRenamed.nd rfl (by first | exact .inl rfl | exact .inr rfl))
        (pss_cons (ps_set (i := 5) scLawRenamed.nd rfl (by first | exact .inl rfl | exact .inr rfl) (pe_ix (ixL K) (pv 0) (pv 4) (fun _ _ => rfl)))
        (pss_cons (ps_if (pt_cmpR op_eq (pe_ix (ixT K) (pv 5) pe_int (fun _ _ => rfl)) pe_str (nomark _)) (pss_one (ps_set (i := 5) scLawRenamed.nd rfl (by first | exact .inl rfl | exact .inr rfl) (pe_tup (pa_cons pe_str (pa_cons (pe_ix (ixT K) (pv 5) pe_int (fun _ _ => rfl)) (pa_cons (pe_ix (ixL K) (pv 1) (pe_ix (ixT K) (pv 5) pe_int (fun _ _ => rfl)) (fun _ _ => rfl)) (pa_cons (pe_ix (ixL K) (pv 1) (pe_ix (ixT K) (pv 5) pe_int (fun _ _ => rfl)) (fun _ _ => rfl)) pa_nil))))))) (pss_one (ps_if (pt_cmpR op_eq (pe_ix (ixT K) (pv 5) pe_int (fun _ _ => rfl)) pe_str (nomark _)) (pss_one (ps_set (i := 5) scLawRenamed.nd rfl (by first | exact .inl rfl | exact .inr rfl) (pe_tup (pa_cons pe_str (pa_cons (pe_ix (ixL K) (pv 1) (pe_ix (ixT K) (pv 5) pe_int (fun _ _ => rfl)) (fun _ _ => rfl)) pa_nil))))) pss_nil)))
        (pss_one (ps_asg (pv 5) (pg_sub (pv 2) (pe_ix (ixL K) (pv 1) (pv 4) (fun _ _ => rfl)) set_list))))))
      (pss_one (ps_ret (pv 2))))), ?_⟩
    have hlen := ha.len
    refine ⟨_, rfl, l, rfl, ⟨_, SqL.of (hG.at hl)⟩, comp_list (T := T) (S := NonR) (R := RowR) (fun _ => true) (fun _ => 0) hG hl ha (by omega) (fun _ => rfl) (fun i x v _ _ _ => eb_yes) (fun i x v _ _ r _ H0 g Q q => q _ _ _ (Sit.refl g) rfl) fun D G1 H1 S1 n1 r1 => ?_⟩
    rw [filter_yes] at r1
    obtain ⟨_, acc0, e, hD1, hacc0⟩ := r1
    cases e
    have hacc0l : acc0.length = m := by rw [hacc0.len, List.length_map, hm]
    have hGD := hG.none n1
    have S2 := S1.drop
    have hD2 := S1.gh.at hD1
    refine ⟨_, rfl, l, vs, rfl, .inl (SqL.of (S2.gh.at hl)), _, rfl, by omega, by omega, for_range (lo := 0) (n := ((vs.length : Int)).toNat) (fun i σ H' => ∃ (G' : Hp) (acc : List V) (y4 y5 : Option V), σ = [some (.ref l), some (.ref nn), some (.ref D), none, y4, y5] ∧ Sit T G H G' H' ∧ G' D = none ∧ H' D = some (.lst acc) ∧ acc.length = m ∧ ∀ k, k < i → ∀ y, rows[k]? = some y → ∃ v, acc[names.getD k 0]? = some v ∧ RowR (ren names y) v G') ⟨G, acc0, none, none, rfl, S2, hGD, hD2, hacc0l, fun k hk => absurd hk (by omega)⟩ ?_ ?_⟩
    · rintro i σ H2 hi ⟨G2, acc, y4, y5, rfl, S2, hG2, hd2, hal, hdone⟩
      have hi : i < m := by omega
      have er : rows[i]? = some (rows[i]'(by omega)) := List.getElem?_eq_getElem _
      obtain ⟨v, hv, hrow⟩ := ha.get er
      have sl := SqL.of (K := K) (S2.gh.at (S2.gg _ _ hl))
      have fin : ∀ (u : V) (G4 H4 : Hp), Sit T G2 H2 G4 H4 → G4 D = none → H4 D = some (.lst acc) → RowR (ren names (rows[i]'(by omega))) u G4 → ∃ (G' : Hp) (acc' : List V) (y4 y5 : Option V), [some (V.ref l), some (V.ref nn), some (V.ref D), none, some (V.int (0 + (i : Int))), some u] = [some (.ref l), some (.ref nn), some (.ref D), none, y4, y5] ∧ Sit T G H G' (upd H4 D (.lst (acc.set (names.getD i 0) u))) ∧ G' D = none ∧ upd H4 D (.lst (acc.set (names.getD i 0) u)) D = some (.lst acc') ∧ acc'.length = m ∧ ∀ k, k < i + 1 → ∀ y, rows[k]? = some y → ∃ v, acc'[names.getD k 0]? = some v ∧ RowR (ren names y) v G' := fun u G4 H4 S4 hG4 hd4 r4 => by
        refine ⟨G4, acc.set (names.getD i 0) u, _, _, rfl, (S2.trans S4).mut n1 hG4 hd4 trivial, hG4, upd_same, by rw [List.length_set, hal], fun k' hk y hy => ?_⟩
        by_cases z : k' < i
        · obtain ⟨v', h1, h2⟩ := hdone k' z y hy
          refine ⟨v', ?_, Up.up (R := RowR) S4.gg h2⟩
          rw [List.getElem?_set_ne (fun e => by
            have := N.inj hi (show k' < m by omega) e
            omega)]
          exact h1
        · have : k' = i := by omega
          subst this
          rw [er] at hy
          rw [← Option.some.inj hy]
          exact ⟨u, by rw [List.getElem?_set_self (by rw [hal]; exact (N.at hi).2)], r4⟩
      refine ⟨_, rfl, _, rfl, l, _, _, _, rfl, rfl, sl, (by rw [Int.zero_add]; exact atI_nat hv), ?_⟩
      have hrow2 := Up.up (R := RowR) S2.gg hrow
      have rok := hok _ (List.mem_of_getElem? er)
      obtain ⟨b, t, rfl, hb, h0, e1, e2, _⟩ := row_zero hrow2
      have sb := SqT.of (K := K) (S2.gh.at hb)
      have sn := SqL.of (K := K) (S2.gh.at (S2.gg _ _ hnn))
      have nat : ∀ {u : Nat}, u < m → atI ((toI names).map V.int) (u : Int) = some (.int (names.getD u 0 : Nat)) := fun {u} hu => atI_nat (ints_at (by
        unfold toI
        rw [List.getElem?_map, (N.at hu).1]
        rfl))
      refine ⟨_, rfl, b, _, _, _, rfl, rfl, sb, atI_nat (j := 0) h0, rfl, _, rfl, ?_⟩
      cases ek : (rows[i]'(by omega)) with
      | mesh o u w =>
        rw [ek] at e1 e2 hb sb h0 fin rok
        unfold Rw.ok at rok
        refine iteT' e1 ⟨_, rfl, b, _, _, _, rfl, rfl, sb, atI_nat (j := 1) rfl, ?_⟩
        refine ⟨_, rfl, _, rfl, b, _, _, _, rfl, rfl, sb, atI_nat (j := 2) rfl, nn, _, _, _, rfl, rfl, sn, nat rok.2.2.1, ?_⟩
        refine ⟨_, rfl, _, rfl, b, _, _, _, rfl, rfl, sb, atI_nat (j := 3) rfl, nn, _, _, _, rfl, rfl, sn, nat rok.2.2.2, sz4, fun p np => ?_⟩
        obtain ⟨G3, S3, g3, k3⟩ := (Sit.refl (T := T) S2.gh).tup [.str "mesh", .int (o : Int), .int (names.getD u 0 : Nat), .int (names.getD w 0 : Nat)] np
        obtain ⟨hG3, hd3⟩ := S3.kept hG2 hd2 trivial
        refine ⟨_, rfl, _, rfl, _, rfl, _, rfl, nn, _, _, _, rfl, rfl, SqL.of (S3.gh.at (g3 _ _ (S2.gg _ _ hnn))), (by rw [Int.zero_add]; exact nat hi), D, acc, _, _, rfl, rfl, hd3, ixN_of (by rw [hal]; exact (N.at hi).2), ?_⟩
        exact fin _ G3 _ S3 hG3 hd3 ⟨p, rfl, k3⟩
      | crush u =>
        rw [ek] at e1 e2 hb sb h0 fin rok
        refine iteF' e1 ⟨_, rfl, b, _, _, _, rfl, rfl, sb, atI_nat (j := 0) h0, rfl, _, rfl, iteT' e2 ?_⟩
        refine ⟨_, rfl, _, rfl, b, _, _, _, rfl, rfl, sb, atI_nat (j := 1) rfl, nn, _, _, _, rfl, rfl, sn, nat rok, sz2, fun p np => ?_⟩
        obtain ⟨G3, S3, g3, k3⟩ := (Sit.refl (T := T) S2.gh).tup [.str "crush", .int (names.getD u 0 : Nat)] np
        obtain ⟨hG3, hd3⟩ := S3.kept hG2 hd2 trivial
        refine ⟨_, rfl, _, rfl, _, rfl, _, rfl, nn, _, _, _, rfl, rfl, SqL.of (S3.gh.at (g3 _ _ (S2.gg _ _ hnn))), (by rw [Int.zero_add]; exact nat hi), D, acc, _, _, rfl, rfl, hd3, ixN_of (by rw [hal]; exact (N.at hi).2), ?_⟩
        exact fin _ G3 _ S3 hG3 hd3 ⟨p, rfl, k3⟩
      | bin n =>
        rw [ek] at e1 e2 hb sb h0 fin
        refine iteF' e1 ⟨_, rfl, b, _, _, _, rfl, rfl, sb, atI_nat (j := 0) h0, rfl, _, rfl, iteF' e2 ?_⟩
        refine ⟨_, rfl, _, rfl, _, rfl, _, rfl, nn, _, _, _, rfl, rfl, sn, (by rw [Int.zero_add]; exact nat hi), D, acc, _, _, rfl, rfl, hd2, ixN_of (by rw [hal]; exact (N.at hi).2), ?_⟩
        exact fin _ G2 H2 (Sit.refl S2.gh) hG2 hd2 ⟨b, rfl, hb⟩
    · rintro σ H2 ⟨G2, acc, y4, y5, rfl, S2, hG2, hd2, hal, hdone⟩
      have en : ((vs.length : Int)).toNat = m := by omega
      rw [en] at hdone
      obtain ⟨made, R, hmade⟩ := renamed_of N hm hal hdone
      exact ⟨_, rfl, k made R _ _ _ (S2.own n1 hG2 hd2 trivial) ⟨D, acc, rfl, upd_same, hmade.up (same_new hG2)⟩⟩
/-! ### _law_redirected -/
def spLawRedirected (T : List (Addr × Str)) : L2.Sp := fun vs H Q _ => ∃ (G : Hp) (rows : List Rw) (rv : V) (a o n : Nat) (r : Rw), vs = [rv, .int (a : Int), .int (o : Int), .int (n : Int)] ∧ Sm G H ∧ LstR RowR rows rv G ∧ rows[a]? = some r ∧ Ret T RowR (redir o n r) G H Q
theorem int_dec {u o : Nat} : decide (V.int (u : Int) = V.int (o : Int)) = decide (u = o) := by
  by_cases h : u = o
  · rw [decide_eq_true h, decide_eq_true (by rw [h])]
  · rw [decide_eq_false h, decide_eq_false (ine (by omega))]
abbrev sLawRedirected : Stmt := topS 61
theorem scLawRedirected : FnScope ["rows", "at", "old", "new", "one"] ["rows", "at", "old", "new"] (defScope sLawRedirected) := ⟨rfl, rfl, rfl, by decide +kernel, rfl, by decide +kernel, by decide +kernel⟩
theorem okLawRedirected {f : Addr} {fd : FuncData} (Fn : Fun K "_law_redirected" "_law_redirected" sLawRedirected f fd) (Tx : TxtM K mg C) : FnOk P w K mg base CX0 1 f fd ["rows", "at", "old", "new"] (spLawRedirected T) := by
  refine Fn.ok scLawRedirected (fun vs H Q E h => ?_) (fun cdv A outer s H vs Q E hr h => ?_)
  · obtain ⟨G, rows, rv, a, o, n, r, rfl, _⟩ := h
    rfl
  · obtain ⟨G, rows, rv, a, old, new, r, rfl, hG, ⟨l, vs, rfl, hl, ha⟩, her, k⟩ := h
    refine ⟨_, (pss_cons (ps_set (i := 4) scLawRedirected.nd rfl (by first | exact .inl rfl | exact .inr rfl) (pe_ix (ixL K) (pv 0) (pv 1) (fun _ _ => rfl)))
      (pss_cons (ps_if (pt_cmpR op_eq (pe_ix (ixT K) (pv 4) pe_int (fun _ _ => rfl)) pe_str (nomark _)) (pss_one (ps_ret (pe_tup (pa_cons pe_str (pa_cons (pe_ix (ixT K) (pv 4) pe_int (fun _ _ => rfl)) (pa_cons (pe_ix (ixL K) (pe_lst (pa_cons (pe_ix (ixT K) (pv 4) pe_int (fun _ _ => rfl)) (pa_cons (pv 3) pa_nil))) (pe_callTy call_int1 (by rfl) Tx.int (by decide +kernel) (pa_cons (pe_cmpR op_eq (pe_ix (ixT K) (pv 4) pe_int (fun _ _ => rfl)) (pv 2) (nomark _)) pa_nil)) (fun _ _ => rfl)) (pa_cons (pe_ix (ixT K) (pv 4) pe_int (fun _ _ => rfl)) pa_nil))))))) pss_nil)
      (pss_cons (ps_if (pt_cmpR op_eq (pe_ix (ixT K) (pv 4) pe_int (fun _ _ => rfl)) pe_str (nomark _)) (pss_one (ps_ret (pe_tup (pa_cons pe_str (pa_cons (pe_ix (ixL K) (pe_lst (pa_cons (pe_ix (ixT K) (pv 4) pe_int (fun _ _ => rfl)) (pa_cons (pv 3) pa_nil))) (pe_callTy call_int1 (by rfl) Tx.int (by decide +kernel) (pa_cons (pe_cmpR op_eq (pe_ix (ixT K) (pv 4) pe_int (fun _ _ => rfl)) (pv 2) (nomark _)) pa_nil)) (fun _ _ => rfl)) pa_nil))))) pss_nil)
      (pss_one (ps_ret (pv 4)))))), ?_⟩
    obtain ⟨v, hv, hrow⟩ := ha.get her
    have S0 := Sit.refl (T := T) hG
    obtain ⟨b, t, rfl, hb, h0, e1, e2, _⟩ := row_zero hrow
    have sb := SqT.of (K := K) (hG.at hb)
    refine ⟨_, rfl, _, rfl, l, _, _, _, rfl, rfl, SqL.of (hG.at hl), atI_nat hv, ?_⟩
    refine ⟨_, rfl, b, _, _, _, rfl, rfl, sb, atI_nat (j := 0) h0, rfl, _, rfl, ?_⟩
    have pick : ∀ u : Nat, ∀ ns : List V, ns = [.int (u : Int), .int (new : Int)] → atI ns (if decide (V.int (u : Int) = V.int (old : Int)) = true then 1 else 0) = some (.int ((if u = old then new else u : Nat) : Int)) := fun u ns e => by
      rw [int_dec, e]
      by_cases z : u = old
      · rw [decide_eq_true z, if_pos rfl, if_pos z]
        exact atI_nat (j := 1) rfl
      · rw [decide_eq_false z, if_neg (by decide), if_neg z]
        exact atI_nat (j := 0) rfl
    cases r with
    | mesh o u w =>
      refine iteT' e1 ⟨_, rfl, b, _, _, _, rfl, rfl, sb, atI_nat (j := 1) rfl, ?_⟩
      refine ⟨_, rfl, b, _, _, _, rfl, rfl, sb, atI_nat (j := 2) rfl, _, rfl, sz2, fun p np => ?_⟩
      obtain ⟨G1, S1, g1, k1⟩ := S0.lst [.int (u : Int), .int (new : Int)] np
      have sb1 := SqT.of (K := K) (S1.gh.at (g1 _ _ hb))
      refine ⟨_, rfl, b, _, _, _, rfl, rfl, sb1, atI_nat (j := 2) rfl, _, rfl, rfl, .inr ⟨_, rfl, p, _, _, _, rfl, rfl, SqL.of (S1.gh.at k1), pick u _ rfl, ?_⟩⟩
      refine ⟨_, rfl, b, _, _, _, rfl, rfl, sb1, atI_nat (j := 3) rfl, sz4, fun p2 np2 => ?_⟩
      obtain ⟨G2, S2, g2, k2⟩ := S1.tup [.str "mesh", .int (o : Int), .int ((if u = old then new else u : Nat) : Int), .int (w : Int)] np2
      exact k _ _ _ S2 ⟨p2, rfl, k2⟩
    | crush u =>
      refine iteF' e1 ⟨_, rfl, b, _, _, _, rfl, rfl, sb, atI_nat (j := 0) h0, rfl, _, rfl, iteT' e2 ?_⟩
      refine ⟨_, rfl, b, _, _, _, rfl, rfl, sb, atI_nat (j := 1) rfl, _, rfl, sz2, fun p np => ?_⟩
      obtain ⟨G1, S1, g1, k1⟩ := S0.lst [.int (u : Int), .int (new : Int)] np
      have sb1 := SqT.of (K := K) (S1.gh.at (g1 _ _ hb))
      refine ⟨_, rfl, b, _, _, _, rfl, rfl, sb1, atI_nat (j := 1) rfl, _, rfl, rfl, .inr ⟨_, rfl, p, _, _, _, rfl, rfl, SqL.of (S1.gh.at k1), pick u _ rfl, sz2, fun p2 np2 => ?_⟩⟩
      obtain ⟨G2, S2, g2, k2⟩ := S1.tup [.str "crush", .int ((if u = old then new else u : Nat) : Int)] np2
      exact k _ _ _ S2 ⟨p2, rfl, k2⟩
    | bin n =>
      refine iteF' e1 ⟨_, rfl, b, _, _, _, rfl, rfl, sb, atI_nat (j := 0) h0, rfl, _, rfl, iteF' e2 ⟨_, rfl, ?_⟩⟩
      exact k _ _ _ S0 ⟨b, rfl, hb⟩
end Mw

set_option Elab.async false
set_option linter.all false
set_option maxRecDepth 100000
set_option maxHeartbeats 4000003
namespace Mw
open PySem.Spec PyProof.Rows L2 LamX PySem
variable {P : Program} {w : World} {K : PySem.W.Frag} {mg : Str → Option Value} {base : Heap} {T : List (Addr × Str)} {C : Addr}
/-! ### _law_nearly -/
theorem pos2 : (0 : Int) < 2 := by decide
theorem pos5 : (0 : Int) < 5 := by decide
theorem crN_cons (r : Rw) (rows : List Rw) : crN (r :: rows) = crN rows + if r.isCrush = true then 1 else 0 := by
  cases r <;> rfl
theorem crN_set : ∀ (rows : List Rw) (j : Nat) (x : Rw), crN (rows.set j x) ≤ crN rows + 1
  | [], j, x => by
    rw [List.set_nil]
    omega
  | r :: rows, 0, x => by
    rw [List.set_cons_zero, crN_cons, crN_cons]
    split <;> omega
  | r :: rows, j + 1, x => by
    have ih := crN_set rows j x
    rw [List.set_cons_succ, crN_cons, crN_cons]
    omega
theorem good_set {rows : List Rw} {m top j : Nat} {x : Rw} (g : Gen rows m top) (h1 : 1 ≤ m) (h2 : m ≤ 6) (hx : x.ok m) : Good (rows.set j x) := by
  refine ⟨by rw [List.length_set, g.len]; exact h1, by rw [List.length_set, g.len]; exact h2, fun r hr => ?_⟩
  rw [List.length_set, g.len]
  rcases List.mem_or_eq_of_mem_set hr with h | h
  · exact g.ok r h
  · rw [h]
    exact hx
def spLawNear (T : List (Addr × Str)) : L2.Sp := fun vs H Q _ => ∃ (G : Hp) (rows : List Rw) (rv : V) (c m : Nat), vs = [rv, .int (c : Int)] ∧ Sm G H ∧ LstR RowR rows rv G ∧ Gen rows m 3 ∧ Loose rows ∧ 1 ≤ m ∧ m ≤ 5 ∧ ∀ made, Good made → Loose made → crN made ≤ 3 → Ret T (LstR RowR) made G H Q
abbrev sLawNearly : Stmt := topS 62
theorem scLawNearly : FnScope ["rows", "cell", "made", "at", "one"] ["rows", "cell"] (defScope sLawNearly) := ⟨rfl, rfl, rfl, by decide +kernel, rfl, by decide +kernel, by decide +kernel⟩
theorem okLawNearly {f : Addr} {fd : FuncData} (Fn : Fun K "_law_nearly" "_law_nearly" sLawNearly f fd) (Tx : TxtM K mg C) (hLawStuck : Has P w K mg base "_law_stuck" ["rows"] 2 (spLawStuck T)) : FnOk P w K mg base CX0 3 f fd ["rows", "cell"] (spLawNear T) := by
  refine Fn.ok scLawNearly (fun vs H Q E h => ?_) (fun cdv A outer s H vs Q E hr h => ?_)
  · obtain ⟨G, rows, rv, c, m, rfl, _⟩ := h
    rfl
  · obtain ⟨G, rows, rv, c, m, rfl, hG, ⟨l, vs, rfl, hl, ha⟩, gen, hL, m1, m5, k⟩ := h
    refine ⟨_, (pss_cons (ps_set (i := 2) scLawNearly.nd rfl (by first | exact .inl rfl | exact .inr rfl) (pe_callTy (listK K) (by rfl) Tx.list (by decide +kernel) (pa_cons (pv 0) pa_nil)))
      (pss_cons (ps_set (i := 3) scLawNearly.nd rfl (by first | exact .inl rfl | exact .inr rfl) (pe_op op_mod (pv 1) (pe_callB (lenK K) (by rfl) Tx.len PySem.boot_len (pa_cons (pv 0) pa_nil))))
      (pss_cons (ps_set (i := 4) scLawNearly.nd rfl (by first | exact .inl rfl | exact .inr rfl) (pe_ix (ixL K) (pv 0) (pv 3) (fun _ _ => rfl)))
      (pss_cons (ps_if (pt_cmpR op_eq (pe_ix (ixT K) (pv 4) pe_int (fun _ _ => rfl)) pe_str (nomark _)) (pss_one (ps_asg (pe_ix (ixL K) (pe_lst (pa_cons (pe_tup (pa_cons pe_str (pa_cons (pe_op op_add (pe_ix (ixT K) (pv 4) pe_int (fun _ _ => rfl)) pe_int) (pa_cons (pe_ix (ixT K) (pv 4) pe_int (fun _ _ => rfl)) (pa_cons (pe_ix (ixT K) (pv 4) pe_int (fun _ _ => rfl)) pa_nil))))) (pa_cons (pe_tup (pa_cons pe_str (pa_cons (pe_ix (ixT K) (pv 4) pe_int (fun _ _ => rfl)) (pa_cons (pe_ix (ixT K) (pv 4) pe_int (fun _ _ => rfl)) (pa_cons (pe_ix (ixT K) (pv 4) pe_int (fun _ _ => rfl)) pa_nil))))) pa_nil))) (pe_op op_mod (pe_op op_fdiv (pv 1) pe_int) pe_int) (fun _ _ => rfl)) (pg_sub (pv 2) (pv 3) set_list))) (pss_one (ps_if (pt_cmpR op_eq (pe_ix (ixT K) (pv 4) pe_int (fun _ _ => rfl)) pe_str (nomark _)) (pss_one (ps_asg (pe_tup (pa_cons pe_str (pa_cons (pe_op op_mod (pe_op op_fdiv (pv 1) pe_int) (pe_callB (lenK K) (by rfl) Tx.len PySem.boot_len (pa_cons (pv 0) pa_nil))) pa_nil))) (pg_sub (pv 2) (pv 3) set_list))) (pss_one (ps_asg (pe_tup (pa_cons pe_str (pa_cons (pe_op op_mod (pe_op op_add (pe_ix (ixT K) (pv 4) pe_int (fun _ _ => rfl)) pe_int) pe_int) pa_nil))) (pg_sub (pv 2) (pv 3) set_list))))))
      (pss_cons (ps_if (pt_val (pe_def hLawStuck hr (by decide) (by rfl) (pa_cons (pv 2) pa_nil))) (pss_one (ps_ret (pv 0))) pss_nil)
      (pss_one (ps_ret (pv 2)))))))), ?_⟩
    have hlen := ha.len
    have gl := gen.len
    have gcr := gen.cr
    refine ⟨_, rfl, l, vs, rfl, .inl (SqL.of (hG.at hl)), fun d nd => ?_⟩
    have S1 := (Sit.refl (T := T) hG).lstc vs nd
    have hGd := hG.none nd
    have sl := SqL.of (K := K) (S1.gh.at hl)
    obtain ⟨j, hj, hjl⟩ := emod_nat (c : Int) (m := vs.length) (by omega)
    have er : rows[j]? = some (rows[j]'(by omega)) := List.getElem?_eq_getElem _
    obtain ⟨v, hv, hrow⟩ := ha.get er
    have rok := gen.ok _ (List.mem_of_getElem? er)
    have fin : ∀ (x : Rw) (u : V) (G4 H4 : Hp), Sit T G (upd H d (.lst vs)) G4 H4 → G4 d = none → H4 d = some (.lst vs) → RowR x u G4 → x.ok m → Sit T G H (upd G4 d (.lst (vs.set j u))) (upd H4 d (.lst (vs.set j u))) ∧ LstR RowR (rows.set j x) (.ref d) (upd G4 d (.lst (vs.set j u))) ∧ Good (rows.set j x) ∧ crN (rows.set j x) ≤ 3 := fun x u G4 H4 S4 hG4 hd4 rx xok => by
      have S5 := ((S1.trans S4).mut (u := .lst (vs.set j u)) nd hG4 hd4 trivial).own nd hG4 upd_same trivial
      have hs := crN_set rows j x
      exact ⟨S5, ⟨d, _, rfl, upd_same, (AllR.set (ha.up S4.gg) rx).up (same_new hG4)⟩, good_set gen m1 (by omega) xok, by omega⟩
    have back : ∀ (G4 H4 : Hp), Sit T G H G4 H4 → Q (.ref l) H4 := fun G4 H4 S4 => k rows (gen.good m1 (by omega)) hL (by omega) _ _ _ S4.drop ⟨l, vs, rfl, hl, ha⟩
    have hpos : (0 : Int) < (vs.length : Int) := by omega
    refine ⟨_, rfl, _, rfl, l, vs, rfl, .inl sl, _, _, rfl, rfl, hpos, ?_⟩
    refine ⟨_, rfl, _, rfl, l, _, _, _, rfl, rfl, sl, (by rw [hj]; exact atI_nat hv), ?_⟩
    obtain ⟨b, t, rfl, hb, h0, e1, e2, _⟩ := row_zero hrow
    have sb := SqT.of (K := K) (S1.gh.at hb)
    refine ⟨_, rfl, b, _, _, _, rfl, rfl, sb, atI_nat (j := 0) h0, rfl, _, rfl, ?_⟩
    have S1' := Sit.refl (T := T) S1.gh
    cases ek : (rows[j]'(by omega)) with
    | mesh o u w =>
      rw [ek] at e1 e2 hb sb h0 rok er
      have hlow := gen.low o (mem_opens.mpr ⟨u, w, List.mem_of_getElem? er⟩)
      unfold Rw.ok at rok
      refine iteT' e1 ⟨_, rfl, b, _, _, _, rfl, rfl, sb, atI_nat (j := 1) rfl, _, _, rfl, rfl, _, rfl, b, _, _, _, rfl, rfl, sb, atI_nat (j := 2) rfl, _, rfl, b, _, _, _, rfl, rfl, sb, atI_nat (j := 3) rfl, sz4, fun p1 np1 => ?_⟩
      obtain ⟨G2, S2, g2, k2⟩ := S1'.tup [.str "mesh", .int ((o : Int) + 1), .int (u : Int), .int (w : Int)] np1
      have sb2 := SqT.of (K := K) (S2.gh.at (g2 _ _ hb))
      refine ⟨_, rfl, b, _, _, _, rfl, rfl, sb2, atI_nat (j := 1) rfl, _, rfl, b, _, _, _, rfl, rfl, sb2, atI_nat (j := 3) rfl, _, rfl, b, _, _, _, rfl, rfl, sb2, atI_nat (j := 2) rfl, sz4, fun p2 np2 => ?_⟩
      obtain ⟨G3, S3, g3, k3⟩ := S2.tup [.str "mesh", .int (o : Int), .int (w : Int), .int (u : Int)] np2
      refine ⟨sz2, fun p3 np3 => ?_⟩
      have S4 := S3.lstc [.ref p1, .ref p2] np3
      obtain ⟨hG4, hd4⟩ := S4.kept hGd upd_same trivial
      obtain ⟨q, hq, hql⟩ := emod_nat ((c : Int) / 12) (m := 2) (by decide)
      have two : ∀ z : Int, z = (q : Int) → ∃ u', atI [V.ref p1, V.ref p2] z = some u' ∧ ((u' = .ref p1 ∧ q = 0) ∨ (u' = .ref p2 ∧ q = 1)) := fun z ez => by
        rw [ez]
        rcases (show q = 0 ∨ q = 1 by omega) with e | e
        · rw [e]
          exact ⟨_, atI_nat (j := 0) rfl, .inl ⟨rfl, rfl⟩⟩
        · rw [e]
          exact ⟨_, atI_nat (j := 1) rfl, .inr ⟨rfl, rfl⟩⟩
      obtain ⟨u', hu', wh⟩ := two _ hq
      refine ⟨_, rfl, _, _, rfl, rfl, ⟨by decide, by decide⟩, _, _, rfl, rfl, pos2, p3, _, _, _, rfl, rfl, SqL.of upd_same, hu', ?_⟩
      obtain ⟨x, rx, xok⟩ : ∃ x, RowR x u' G3 ∧ Rw.ok m x := by
        rcases wh with ⟨e, _⟩ | ⟨e, _⟩
        · rw [e]
          exact ⟨.mesh (o + 1) u w, ⟨p1, rfl, g3 _ _ k2⟩, by omega, by omega, rok.2.2.1, rok.2.2.2⟩
        · rw [e]
          exact ⟨.mesh o w u, ⟨p2, rfl, k3⟩, rok.1, rok.2.1, rok.2.2.2, rok.2.2.1⟩
      refine ⟨_, rfl, _, rfl, d, vs, _, j, rfl, rfl, hd4, (by rw [hj]; exact ixN_of hjl), ?_⟩
      obtain ⟨S6, r6, gd6, c6⟩ := fin x u' _ _ S4 hG4 hd4 rx xok
      refine ⟨_, rfl, _, _, .ref d, rfl, S6.gh, r6, gd6, fun b hb H7 S7 => ?_⟩
      cases b with
      | true => exact ⟨_, rfl, iteT ⟨_, rfl, back _ _ (S6.trans S7)⟩⟩
      | false => exact ⟨_, rfl, iteF ⟨_, rfl, k _ gd6 (hb rfl) c6 _ _ _ (S6.trans S7) r6⟩⟩
    | crush u =>
      rw [ek] at e1 e2 hb sb h0 rok
      obtain ⟨q, hq, hql⟩ := emod_nat ((c : Int) / 12) (m := vs.length) (by omega)
      refine iteF' e1 ⟨_, rfl, b, _, _, _, rfl, rfl, sb, atI_nat (j := 0) h0, rfl, _, rfl, iteT' e2 ?_⟩
      refine ⟨_, rfl, _, _, rfl, rfl, ⟨by decide, by decide⟩, _, rfl, l, vs, rfl, .inl sl, _, _, rfl, rfl, hpos, sz2, fun p1 np1 => ?_⟩
      obtain ⟨G2, S2, g2, k2⟩ := S1'.tup [.str "crush", .int ((c : Int) / 12 % (vs.length : Int))] np1
      obtain ⟨hG4, hd4⟩ := S2.kept hGd upd_same trivial
      refine ⟨_, rfl, _, rfl, d, vs, _, j, rfl, rfl, hd4, (by rw [hj]; exact ixN_of hjl), ?_⟩
      obtain ⟨S6, r6, gd6, c6⟩ := fin (.crush q) _ _ _ S2 hG4 hd4 ⟨p1, rfl, by rw [k2, hq]; rfl⟩ (show q < m by omega)
      refine ⟨_, rfl, _, _, .ref d, rfl, S6.gh, r6, gd6, fun b hb H7 S7 => ?_⟩
      cases b with
      | true => exact ⟨_, rfl, iteT ⟨_, rfl, back _ _ (S6.trans S7)⟩⟩
      | false => exact ⟨_, rfl, iteF ⟨_, rfl, k _ gd6 (hb rfl) c6 _ _ _ (S6.trans S7) r6⟩⟩
    | bin n =>
      rw [ek] at e1 e2 hb sb h0 rok
      obtain ⟨q, hq, hql⟩ := emod_nat ((n : Int) + 1) (m := 6) (by omega)
      refine iteF' e1 ⟨_, rfl, b, _, _, _, rfl, rfl, sb, atI_nat (j := 0) h0, rfl, _, rfl, iteF' e2 ?_⟩
      refine ⟨_, rfl, b, _, _, _, rfl, rfl, sb, atI_nat (j := 1) rfl, _, _, rfl, rfl, _, _, rfl, rfl, pos6, sz2, fun p1 np1 => ?_⟩
      obtain ⟨G2, S2, g2, k2⟩ := S1'.tup [.str "bin", .int (((n : Int) + 1) % 6)] np1
      obtain ⟨hG4, hd4⟩ := S2.kept hGd upd_same trivial
      refine ⟨_, rfl, _, rfl, d, vs, _, j, rfl, rfl, hd4, (by rw [hj]; exact ixN_of hjl), ?_⟩
      obtain ⟨S6, r6, gd6, c6⟩ := fin (.bin q) _ _ _ S2 hG4 hd4 ⟨p1, rfl, by
        rw [k2]
        show some (HO.tup [.str "bin", .int (((n : Int) + 1) % ((6 : Nat) : Int))]) = _
        rw [hq]
        rfl⟩ (show q ≤ 5 by omega)
      refine ⟨_, rfl, _, _, .ref d, rfl, S6.gh, r6, gd6, fun b hb H7 S7 => ?_⟩
      cases b with
      | true => exact ⟨_, rfl, iteT ⟨_, rfl, back _ _ (S6.trans S7)⟩⟩
      | false => exact ⟨_, rfl, iteF ⟨_, rfl, k _ gd6 (hb rfl) c6 _ _ _ (S6.trans S7) r6⟩⟩
end Mw

set_option Elab.async false
set_option linter.all false
set_option maxRecDepth 100000
set_option maxHeartbeats 4000003
namespace Mw
open PySem.Spec PyProof.Rows L2 LamX PySem
variable {P : Program} {w : World} {K : PySem.W.Frag} {mg : Str → Option Value} {base : Heap} {T : List (Addr × Str)} {C : Addr}
/-! ### _law_beside, _law_two -/
theorem rg_names {m j : Nat} (hm : 1 ≤ m) (hj : j < m) : ∃ names : List Nat, Names names m ∧ [V.int 0] ++ cutV (rgV 1 (m : Int)) (some (j : Int)) none ++ cutV (rgV 1 (m : Int)) none (some (j : Int)) = (toI names).map V.int := by
  have el : rgV 1 (m : Int) = (toI ((List.range (m - 1)).map fun i => 1 + i)).map V.int := by
    unfold rgV toI
    rw [List.map_map, List.map_map, show ((m : Int) - 1).toNat = m - 1 by omega]
    (refine List.map_congr_left fun i _ => ?_)
    show V.int (1 + (i : Int)) = V.int ((1 + i : Nat) : Int)
    rw [Int.natCast_add]
    rfl
  have eL : (rgV 1 (m : Int)).length = m - 1 := by
    rw [rgV_length]
    omega
  let R : List Nat := (List.range (m - 1)).map fun i => 1 + i
  have eR : R.length = m - 1 := by
    show ((List.range (m - 1)).map fun i => 1 + i).length = _
    (rw [List.length_map, List.length_range])
  have perm : ([0] ++ R.drop j ++ R.take j).Perm (List.range m) := by
    have e : List.range m = 0 :: R := by
      have : m = (m - 1) + 1 := by omega
      rw [this, List.range_succ_eq_map]
      show 0 :: List.map Nat.succ (List.range (m - 1)) = 0 :: List.map (fun i => 1 + i) (List.range (m - 1 + 1 - 1))
      rw [Nat.add_sub_cancel]
      congr 1
      (refine List.map_congr_left fun i _ => ?_)
      omega
    rw [e, List.append_assoc]
    refine List.Perm.cons 0 ?_
    show (R.drop j ++ R.take j).Perm R
    refine List.perm_append_comm.trans ?_
    rw [List.take_append_drop]
  refine ⟨[0] ++ R.drop j ++ R.take j, ⟨by rw [perm.length_eq, List.length_range], perm.nodup_iff.mpr List.nodup_range, fun x hx => List.mem_range.mp (perm.mem_iff.mp hx)⟩, ?_⟩
  unfold cutV
  rw [HT.sIx_nat, HT.sIx_nat, HT.sIx_none, HT.sIx_none, eL, show min j (m - 1) = j by omega, el]
  show [V.int 0] ++ (((toI R).map V.int).drop j).take (m - 1 - j) ++ (((toI R).map V.int).drop 0).take (j - 0) = (toI ([0] ++ R.drop j ++ R.take j)).map V.int
  rw [List.take_of_length_le (l := ((toI R).map V.int).drop j) (by rw [List.length_drop, List.length_map, toI_len, eR]; exact Nat.le_refl _), List.drop_zero, Nat.sub_zero]
  unfold toI
  rw [List.map_append, List.map_append, List.map_append, List.map_append, List.map_drop, List.map_drop, List.map_take, List.map_take]
  rfl
theorem redir_rows {rows : List Rw} {old m : Nat} (h : rows.length = m) : ((List.range m).map fun j => redir old m (rows.getD j (.bin 0))) = rows.map (redir old rows.length) := by
  subst h
  refine List.ext_getElem? fun i => ?_
  (rw [List.getElem?_map, List.getElem?_map])
  by_cases hi : i < rows.length
  · rw [List.getElem?_range hi, List.getElem?_eq_getElem hi]
    show some (redir old rows.length (rows.getD i (.bin 0))) = some (redir old rows.length rows[i])
    (rw [List.getD_eq_getElem?_getD, List.getElem?_eq_getElem hi])
    rfl
  · rw [List.getElem?_eq_none (by rw [List.length_range]; omega), List.getElem?_eq_none (by omega)]
    rfl
def spLawBeside (T : List (Addr × Str)) : L2.Sp := fun vs H Q _ => ∃ (G : Hp) (rows : List Rw) (rv : V) (c m : Nat), vs = [rv, .int (c : Int)] ∧ Sm G H ∧ LstR RowR rows rv G ∧ Gen rows m 3 ∧ Loose rows ∧ 1 ≤ m ∧ m ≤ 5 ∧ ∀ made, Good made → Loose made → crN made ≤ 3 → Ret T (LstR RowR) made G H Q
abbrev sLawBeside : Stmt := topS 63
theorem scLawBeside : FnScope ["rows", "cell", "way", "many", "old", "names", "added", "one", "made", "k"] ["rows", "cell"] (defScope sLawBeside) := ⟨rfl, rfl, rfl, by decide +kernel, rfl, by decide +kernel, by decide +kernel⟩
theorem okLawBeside {f : Addr} {fd : FuncData} (Fn : Fun K "_law_beside" "_law_beside" sLawBeside f fd) (Tx : TxtM K mg C) (hLawNearly : Has P w K mg base "_law_nearly" ["rows", "cell"] 3 (spLawNear T)) (hLawRedirected : Has P w K mg base "_law_redirected" ["rows", "at", "old", "new"] 1 (spLawRedirected T)) (hLawRenamed : Has P w K mg base "_law_renamed" ["rows", "names"] 1 (spLawRenamed T)) : FnOk P w K mg base CX0 4 f fd ["rows", "cell"] (spLawBeside T) := by
  refine Fn.ok scLawBeside (fun vs H Q E h => ?_) (fun cdv A outer s H vs Q E hr h => ?_)
  · obtain ⟨G, rows, rv, c, m, rfl, _⟩ := h
    rfl
  · obtain ⟨G, rows, rv, c, m, rfl, hG, ⟨l, vs, rfl, hl, ha⟩, gen, hL, m1, m5, k⟩ := h
    refine ⟨_, (pss_cons (ps_set (i := 2) scLawBeside.nd rfl (by first | exact .inl rfl | exact .inr rfl) (pe_op op_mod (pv 1) pe_int))
      (pss_cons (ps_set (i := 1) scLawBeside.nd rfl (by first | exact .inl rfl | exact .inr rfl) (pe_op op_fdiv (pv 1) pe_int))
      (pss_cons (ps_set (i := 3) scLawBeside.nd rfl (by first | exact .inl rfl | exact .inr rfl) (pe_callB (lenK K) (by rfl) Tx.len PySem.boot_len (pa_cons (pv 0) pa_nil)))
      (pss_cons (ps_set (i := 4) scLawBeside.nd rfl (by first | exact .inl rfl | exact .inr rfl) (pe_op op_mod (pv 1) (pv 3)))
      (pss_cons (ps_if (pt_cmpR op_eq (pv 2) pe_int (nomark _)) (pss_cons (ps_set (i := 5) scLawBeside.nd rfl (by first | exact .inl rfl | exact .inr rfl) (pe_listRg rfl (by rfl) Tx.list (prg_2 (by rfl) Tx.range pe_int (pv 3))))
        (pss_cons (ps_set (i := 5) scLawBeside.nd rfl (by first | exact .inl rfl | exact .inr rfl) (pe_op op_cat (pe_op op_cat (pe_lst (pa_cons pe_int pa_nil)) (pe_slice (slL K) (pv 5) (po_some (pe_op op_mod (pe_op op_fdiv (pv 1) pe_int) (pv 3))) po_none)) (pe_slice (slL K) (pv 5) po_none (po_some (pe_op op_mod (pe_op op_fdiv (pv 1) pe_int) (pv 3))))))
        (pss_one (ps_ret (pe_def hLawRenamed hr (by decide) (by rfl) (pa_cons (pv 0) (pa_cons (pv 5) pa_nil))))))) pss_nil)
      (pss_cons (ps_if (PW.pt (pw_or (pt_cmpR op_eq (pv 2) pe_int (nomark _)) (pw_or1 (pt_cmpR op_eq (pv 2) pe_int (nomark _))))) (pss_one (ps_ret (pe_def hLawNearly hr (by decide) (by rfl) (pa_cons (pv 0) (pa_cons (pv 1) pa_nil))))) pss_nil)
      (pss_cons (ps_set (i := 6) scLawBeside.nd rfl (by first | exact .inl rfl | exact .inr rfl) (pe_ix (ixL K) (pv 0) (pv 4) (fun _ _ => rfl)))
      (pss_cons (ps_if (pt_cmpR op_eq (pv 2) pe_int (nomark _)) (pss_one (ps_set (i := 6) scLawBeside.nd rfl (by first | exact .inl rfl | exact .inr rfl) (pe_tup (pa_cons pe_str (pa_cons (pe_op op_add pe_int (pe_op op_mod (pe_op op_fdiv (pv 1) pe_int) pe_int)) (pa_cons (pv 4) (pa_cons (pv 4) pa_nil))))))) pss_nil)
      (pss_cons (ps_if (PW.pt (pw_and (pt_cmpR op_eq (pe_ix (ixT K) (pv 6) pe_int (fun _ _ => rfl)) pe_str (nomark _)) (pw_and1 (pt_cmpR op_gt (pe_callB (lenK K) (by rfl) Tx.len PySem.boot_len (pa_cons (pe_lc (own := [("one", 7)]) rfl scLawBeside.nd (itL K (pv 0)) (blkOk_by (N := ["rows", "cell", "way", "many", "old", "names", "added", "one", "made", "k"]) (sc := defScope sLawBeside) (by decide +kernel)) (fun _ _ _ _ _ => (pg_name (i := 7) scLawBeside.nd rfl (by first | exact .inl rfl | exact .inr rfl))) (fun _ _ _ _ _ => (pts_one (pt_cmpR op_eq (pe_ix (ixT K) (pv 7) pe_int (fun _ _ => rfl)) pe_str (nomark _)))) (fun _ _ _ _ _ => (pv 7))) pa_nil)) pe_int (nomark _))))) (pss_one (ps_set (i := 6) scLawBeside.nd rfl (by first | exact .inl rfl | exact .inr rfl) (pe_tup (pa_cons pe_str (pa_cons pe_int pa_nil))))) pss_nil)
      (pss_cons (ps_setLc (i := 8) (own := [("k", 9)]) rfl scLawBeside.nd rfl rfl (sw_true rfl rfl rfl (by decide +kernel)) (pi_range1 (by rfl) Tx.range (pa_cons (pv 3) pa_nil)) (blkOk_by (N := ["rows", "cell", "way", "many", "old", "names", "added", "one", "made", "k"]) (sc := defScope sLawBeside) (by decide +kernel)) (fun _ _ _ _ _ => (pg_name (i := 9) scLawBeside.nd rfl (by first | exact .inl rfl | exact .inr rfl))) (fun _ _ _ _ _ => pts_nil) (fun _ _ _ _ _ => (pe_def hLawRedirected hr (by decide) (by rfl) (pa_cons (pv 0) (pa_cons (pv 9) (pa_cons (pv 4) (pa_cons (pv 3) pa_nil)))))))
      (pss_cons (ps_if (pt_cmpR (eqK K hr.units) (pv 6) (pe_tup (pa_cons pe_str (pa_cons pe_int pa_nil))) (nomark _)) (pss_one (ps_ret (pv 0))) pss_nil)
      (pss_one (ps_ret (pe_op op_cat (pv 8) (pe_lst (pa_cons (pv 6) pa_nil)))))))))))))))), ?_⟩
    have hlen := ha.len
    have gl := gen.len
    have gcr := gen.cr
    have gd := gen.good m1 (by omega)
    have S0 := Sit.refl (T := T) hG
    have sl := SqL.of (K := K) (hG.at hl)
    have hrows : LstR RowR rows (.ref l) G := ⟨l, vs, rfl, hl, ha⟩
    have back : ∀ (G4 H4 : Hp), Sit T G H G4 H4 → Q (.ref l) H4 := fun G4 H4 S4 => k rows gd hL (by omega) _ _ _ S4.drop hrows
    have evl : vs.length = m := by omega
    have mpos : (0 : Int) < (m : Int) := by omega
    obtain ⟨c2, hc2⟩ : ∃ c2 : Nat, (c : Int) / 5 = (c2 : Int) := ⟨c / 5, by push_cast; rfl⟩
    obtain ⟨old, hold, holdl⟩ := emod_nat (c2 : Int) (m := m) (by omega)
    refine ⟨_, rfl, _, _, rfl, rfl, pos5, _, rfl, _, _, rfl, rfl, ⟨by decide, by decide⟩, _, rfl, l, vs, rfl, .inl sl, ?_⟩
    rw [evl]
    show _
    refine ⟨_, rfl, _, rfl, _, _, rfl, rfl, mpos, ?_⟩
    have near : ∀ vs', vs' = [V.ref l, V.int ((c : Int) / 5)] → spLawNear T vs' H Q E0 := fun vs' e => by
      rw [e, hc2]
      exact ⟨G, rows, .ref l, c2, m, rfl, hG, hrows, gen, hL, m1, m5, k⟩
    refine ⟨_, rfl, rfl, _, rfl, ite_by (fun z => ?_) (fun z => ⟨_, rfl, rfl, _, rfl, ite_by (fun y => iteT ⟨_, rfl, _, rfl, near _ rfl⟩) (fun y => ⟨_, rfl, rfl, _, rfl, ite_by (fun x => ⟨_, rfl, _, rfl, near _ rfl⟩) (fun x => ?_)⟩)⟩)⟩
    · -- other names
      refine ⟨_, rfl, _, _, rfl, rfl, ⟨by omega, by omega, by omega, by omega, by omega⟩, fun q nq => ?_⟩
      obtain ⟨G1, S1, g1, k1⟩ := S0.lst (rgV 1 (m : Int)) nq
      refine ⟨sz1, fun p1 np1 => ?_⟩
      obtain ⟨G2, S2, g2, k2⟩ := S1.lst [.int 0] np1
      obtain ⟨j, hj, hjl⟩ := emod_nat ((c : Int) / 5 / 8) (m := m) (by omega)
      obtain ⟨names, N, en⟩ := rg_names m1 hjl
      have el : (rgV 1 (m : Int)).length = m - 1 := by
        rw [rgV_length]
        omega
      have cl := cutV_length (rgV 1 (m : Int)) (some ((c : Int) / 5 / 8 % (m : Int))) none
      have cl2 := cutV_length (rgV 1 (m : Int)) none (some ((c : Int) / 5 / 8 % (m : Int)))
      refine ⟨_, rfl, _, rfl, _, _, rfl, rfl, ⟨by decide, by decide⟩, _, rfl, _, _, rfl, rfl, mpos, _, rfl, q, _, rfl, SqL.of (S2.gh.at (g2 _ _ k1)), fun p3 np3 => ?_⟩
      obtain ⟨G3, S3, g3, k3⟩ := S2.lst (cutV (rgV 1 (m : Int)) (some ((c : Int) / 5 / 8 % (m : Int))) none) np3
      refine ⟨p1, p3, _, _, rfl, rfl, S3.gh.at (g3 _ _ k2), S3.gh.at k3, small_le (by show 1 + _ ≤ _; omega), fun p4 np4 => ?_⟩
      obtain ⟨G4, S4, g4, k4⟩ := S3.lst ([.int 0] ++ cutV (rgV 1 (m : Int)) (some ((c : Int) / 5 / 8 % (m : Int))) none) np4
      refine ⟨_, rfl, _, rfl, _, _, rfl, rfl, ⟨by decide, by decide⟩, _, rfl, _, _, rfl, rfl, mpos, _, rfl, q, _, rfl, SqL.of (S4.gh.at (g4 _ _ (g3 _ _ (g2 _ _ k1)))), fun p5 np5 => ?_⟩
      obtain ⟨G5, S5, g5, k5⟩ := S4.lst (cutV (rgV 1 (m : Int)) none (some ((c : Int) / 5 / 8 % (m : Int)))) np5
      refine ⟨p4, p5, _, _, rfl, rfl, S5.gh.at (g5 _ _ k4), S5.gh.at k5, small_le (by rw [List.length_append]; show 1 + _ + _ ≤ _; omega), fun p6 np6 => ?_⟩
      obtain ⟨G6, S6, g6, k6⟩ := S5.lst ([.int 0] ++ cutV (rgV 1 (m : Int)) (some ((c : Int) / 5 / 8 % (m : Int))) none ++ cutV (rgV 1 (m : Int)) none (some ((c : Int) / 5 / 8 % (m : Int)))) np6
      rw [hj, en] at k6
      refine ⟨_, rfl, _, rfl, G6, rows, names, m, .ref l, .ref p6, rfl, S6.gh, Up.up (R := LstR RowR) S6.gg hrows, ⟨p6, rfl, k6⟩, N, gl, by omega, gen.ok, fun made R v7 G7 H7 S7 r7 => ?_⟩
      have gM := ren_gen N gen R
      have := gM.cr
      exact k made (gM.good m1 (by omega)) (ren_loose m1 (by omega) N gen hL R) (by omega) _ _ _ (S6.trans S7) r7
    · -- a row more
      have er : rows[old]? = some (rows[old]'(by omega)) := List.getElem?_eq_getElem _
      obtain ⟨v, hv, hrow⟩ := ha.get er
      have oldok := gen.ok _ (List.mem_of_getElem? er)
      refine ⟨_, rfl, _, rfl, l, _, _, _, rfl, rfl, sl, (by rw [hc2, hold]; exact atI_nat hv), ?_⟩
      obtain ⟨b, rfl, hb⟩ := hrow
      have e4 : (c : Int) / 5 % (m : Int) = (old : Int) := by rw [hc2, hold]
      refine ⟨_, rfl, rfl, _, rfl, ite_by (fun z3 => ?_) (fun z3 => ?_)⟩
      · obtain ⟨o, ho, hol⟩ := emod_nat ((c : Int) / 5 / 99) (m := 4) (by decide)
        refine ⟨_, rfl, _, _, rfl, rfl, ⟨by decide, by decide⟩, _, _, rfl, rfl, pos4, _, _, rfl, rfl, _, rfl, _, rfl, sz4, fun b nb => ?_⟩
        obtain ⟨G4, S4, g4, k4⟩ := S0.tup [.str "mesh", .int (1 + (c : Int) / 5 / 99 % 4), .int ((c : Int) / 5 % (m : Int)), .int ((c : Int) / 5 % (m : Int))] nb
        obtain ⟨x, hx⟩ : ∃ x, x = Rw.mesh (1 + o) old old := ⟨_, rfl⟩
        have hb4 : G4 b = some (.tup (rowV x)) := by
          rw [k4, e4, hx]
          show some (HO.tup [.str "mesh", .int (1 + (c : Int) / 5 / 99 % ((4 : Nat) : Int)), .int (old : Int), .int (old : Int)]) = _
          rw [ho]
          rfl
        have xok : x.ok m := by
          rw [hx]
          exact ⟨by omega, by omega, holdl, holdl⟩
        have xold : rows[old]? = some x ∨ ∃ o, x = .mesh o old old := .inr ⟨_, hx⟩
        clear ho hx
        obtain ⟨_, t, e, hbb, h0, _, e2, _⟩ := row_zero (show RowR x (.ref b) G4 from ⟨b, rfl, hb4⟩)
        cases e
        refine ⟨_, rfl, b, _, _, _, rfl, rfl, SqT.of (S4.gh.at hb4), atI_nat (j := 0) h0, rfl, _, rfl, ?_⟩
        cases qx : x.isCrush with
        | true =>
          refine iteT' (e2.trans qx) ⟨_, rfl, l, rfl, ⟨_, SqL.of (S4.gh.at (S4.gg _ _ hl))⟩, comp_list (T := T) (S := RowR) (R := RowR) Rw.isCrush (fun x => x) S4.gh (S4.gg _ _ hl) (ha.up S4.gg) (by omega) (fun _ => rfl) (fun i x v _ _ r => ev_isCrush rfl r) (fun i x v _ _ r _ => ev_slot rfl r) fun D G5 H5 S5 n5 r5 => ?_⟩
          obtain ⟨_, ys, e, hD, hys⟩ := r5
          cases e
          have hyl : ys.length = crN rows := by
            rw [hys.len, List.length_map]
            rfl
          refine ⟨D, ys, rfl, .inl (SqL.of (S5.gh.at hD)), _, _, rfl, rfl, _, rfl, ite_no (by omega) ?_⟩
          obtain ⟨G6, S6, hb6⟩ : ∃ G6, Sit T G H G6 H5 ∧ G6 b = some (.tup (rowV x)) := ⟨G5, S4.trans S5, S5.gg _ _ hb4⟩
          refine ⟨_, rfl, _, rfl, by omega, by omega, comp_range (T := T) (S := RowR) (lo := 0) (fun _ => true) (fun j => redir old m (rows.getD j (.bin 0))) S6.gh (by omega) (fun _ => rfl) (fun _ _ => eb_yes) (fun j hj _ H0 g Q q => ?_) fun D G7 H7 S7 n7 r7 => ?_⟩
          · have hj : j < rows.length := by omega
            refine ⟨_, rfl, _, rfl, _, rfl, _, rfl, G6, rows, .ref l, j, old, m, rows.getD j (.bin 0), ?_, g, Up.up (R := LstR RowR) S6.gg hrows, ?_, fun v2 G2 H2 S2 r2 => q _ _ _ S2 r2⟩
            · show [V.ref l, V.int (0 + (j : Int)), V.int ((c : Int) / 5 % (m : Int)), V.int (m : Int)] = _
              rw [Int.zero_add, e4]
            · rw [List.getD_eq_getElem?_getD, List.getElem?_eq_getElem hj]
              rfl
          · rw [filter_yes, Int.toNat_natCast, redir_rows gl] at r7
            obtain ⟨_, ds, e, hD7, hds⟩ := r7
            cases e
            have hdl := hds.len
            rw [List.length_map] at hdl
            refine ⟨_, rfl, sz2, fun t nt => ?_⟩
            obtain ⟨G8, S8, g8, k8⟩ := (S6.trans S7).tup [.str "bin", .int 5] nt
            have hb8 := g8 _ _ (S7.gg _ _ hb6)
            refine ⟨_, _, .tup (SqT.of (S8.gh.at hb8)) (rowD_dp _), .tup (SqT.of (S8.gh.at k8)) (rowD_dp (.bin 5)), rowD_shaped _, rowD_shaped (.bin 5), _, rfl, ?_⟩
            by_cases hx5 : x = .bin 5
            · exact iteT' (by rw [rowD_eq, decide_eq_true hx5]) ⟨_, rfl, back _ _ S8⟩
            · refine iteF' (by rw [rowD_eq, decide_eq_false hx5]) ⟨_, rfl, _, rfl, sz1, fun p np => ?_⟩
              obtain ⟨G9, S9, g9, k9⟩ := S8.lst [.ref b] np
              have hD9 := g9 _ _ (g8 _ _ hD7)
              refine ⟨D, p, _, _, rfl, rfl, S9.gh.at hD9, S9.gh.at k9, small_le (by show _ + 1 ≤ _; omega), fun p2 np2 => ?_⟩
              obtain ⟨G10, S10, g10, k10⟩ := S9.lst (ds ++ [.ref b]) np2
              have gn := grown_good (old := old) (x := x) (⟨gen.len, gen.ok, fun o ho => by have := gen.low o ho; omega, gen.cr⟩ : Gen rows m 4) m1 m5 xok
              have hc9 := grown_crN (rows := rows) (old := old) (x := x)
              exact k (grown rows old x) gn (grown_loose gd hL gn (by omega) xold) (by omega) _ _ _ S10 ⟨p2, _, rfl, k10, AllR.snoc (hds.up ((g8.trans g9).trans g10)) ⟨b, rfl, g10 _ _ (g9 _ _ hb8)⟩⟩
        | false =>
          refine iteF' (e2.trans qx) ?_
          obtain ⟨G6, S6, hb6⟩ : ∃ G6, Sit T G H G6 _ ∧ G6 b = some (.tup (rowV x)) := ⟨G4, S4, hb4⟩
          refine ⟨_, rfl, _, rfl, by omega, by omega, comp_range (T := T) (S := RowR) (lo := 0) (fun _ => true) (fun j => redir old m (rows.getD j (.bin 0))) S6.gh (by omega) (fun _ => rfl) (fun _ _ => eb_yes) (fun j hj _ H0 g Q q => ?_) fun D G7 H7 S7 n7 r7 => ?_⟩
          · have hj : j < rows.length := by omega
            refine ⟨_, rfl, _, rfl, _, rfl, _, rfl, G6, rows, .ref l, j, old, m, rows.getD j (.bin 0), ?_, g, Up.up (R := LstR RowR) S6.gg hrows, ?_, fun v2 G2 H2 S2 r2 => q _ _ _ S2 r2⟩
            · show [V.ref l, V.int (0 + (j : Int)), V.int ((c : Int) / 5 % (m : Int)), V.int (m : Int)] = _
              rw [Int.zero_add, e4]
            · rw [List.getD_eq_getElem?_getD, List.getElem?_eq_getElem hj]
              rfl
          · rw [filter_yes, Int.toNat_natCast, redir_rows gl] at r7
            obtain ⟨_, ds, e, hD7, hds⟩ := r7
            cases e
            have hdl := hds.len
            rw [List.length_map] at hdl
            refine ⟨_, rfl, sz2, fun t nt => ?_⟩
            obtain ⟨G8, S8, g8, k8⟩ := (S6.trans S7).tup [.str "bin", .int 5] nt
            have hb8 := g8 _ _ (S7.gg _ _ hb6)
            refine ⟨_, _, .tup (SqT.of (S8.gh.at hb8)) (rowD_dp _), .tup (SqT.of (S8.gh.at k8)) (rowD_dp (.bin 5)), rowD_shaped _, rowD_shaped (.bin 5), _, rfl, ?_⟩
            by_cases hx5 : x = .bin 5
            · exact iteT' (by rw [rowD_eq, decide_eq_true hx5]) ⟨_, rfl, back _ _ S8⟩
            · refine iteF' (by rw [rowD_eq, decide_eq_false hx5]) ⟨_, rfl, _, rfl, sz1, fun p np => ?_⟩
              obtain ⟨G9, S9, g9, k9⟩ := S8.lst [.ref b] np
              have hD9 := g9 _ _ (g8 _ _ hD7)
              refine ⟨D, p, _, _, rfl, rfl, S9.gh.at hD9, S9.gh.at k9, small_le (by show _ + 1 ≤ _; omega), fun p2 np2 => ?_⟩
              obtain ⟨G10, S10, g10, k10⟩ := S9.lst (ds ++ [.ref b]) np2
              have gn := grown_good (old := old) (x := x) (⟨gen.len, gen.ok, fun o ho => by have := gen.low o ho; omega, gen.cr⟩ : Gen rows m 4) m1 m5 xok
              have hc9 := grown_crN (rows := rows) (old := old) (x := x)
              exact k (grown rows old x) gn (grown_loose gd hL gn (by omega) xold) (by omega) _ _ _ S10 ⟨p2, _, rfl, k10, AllR.snoc (hds.up ((g8.trans g9).trans g10)) ⟨b, rfl, g10 _ _ (g9 _ _ hb8)⟩⟩
      · obtain ⟨G4, S4, g4, hb4⟩ : ∃ G4, Sit T G H G4 H ∧ Same G G4 ∧ G4 b = some (.tup (rowV (rows[old]'(by omega)))) := ⟨G, S0, Same.refl G, hb⟩
        have xold : rows[old]? = some (rows[old]'(by omega)) ∨ ∃ o, (rows[old]'(by omega)) = .mesh o old old := .inl er
        have xok := oldok
        generalize (rows[old]'(by omega)) = x at hb4 xok xold
        obtain ⟨_, t, e, hbb, h0, _, e2, _⟩ := row_zero (show RowR x (.ref b) G4 from ⟨b, rfl, hb4⟩)
        cases e
        refine ⟨_, rfl, b, _, _, _, rfl, rfl, SqT.of (S4.gh.at hb4), atI_nat (j := 0) h0, rfl, _, rfl, ?_⟩
        cases qx : x.isCrush with
        | true =>
          refine iteT' (e2.trans qx) ⟨_, rfl, l, rfl, ⟨_, SqL.of (S4.gh.at (S4.gg _ _ hl))⟩, comp_list (T := T) (S := RowR) (R := RowR) Rw.isCrush (fun x => x) S4.gh (S4.gg _ _ hl) (ha.up S4.gg) (by omega) (fun _ => rfl) (fun i x v _ _ r => ev_isCrush rfl r) (fun i x v _ _ r _ => ev_slot rfl r) fun D G5 H5 S5 n5 r5 => ?_⟩
          obtain ⟨_, ys, e, hD, hys⟩ := r5
          cases e
          have hyl : ys.length = crN rows := by
            rw [hys.len, List.length_map]
            rfl
          refine ⟨D, ys, rfl, .inl (SqL.of (S5.gh.at hD)), _, _, rfl, rfl, _, rfl, ite_no (by omega) ?_⟩
          obtain ⟨G6, S6, hb6⟩ : ∃ G6, Sit T G H G6 H5 ∧ G6 b = some (.tup (rowV x)) := ⟨G5, S4.trans S5, S5.gg _ _ hb4⟩
          refine ⟨_, rfl, _, rfl, by omega, by omega, comp_range (T := T) (S := RowR) (lo := 0) (fun _ => true) (fun j => redir old m (rows.getD j (.bin 0))) S6.gh (by omega) (fun _ => rfl) (fun _ _ => eb_yes) (fun j hj _ H0 g Q q => ?_) fun D G7 H7 S7 n7 r7 => ?_⟩
          · have hj : j < rows.length := by omega
            refine ⟨_, rfl, _, rfl, _, rfl, _, rfl, G6, rows, .ref l, j, old, m, rows.getD j (.bin 0), ?_, g, Up.up (R := LstR RowR) S6.gg hrows, ?_, fun v2 G2 H2 S2 r2 => q _ _ _ S2 r2⟩
            · show [V.ref l, V.int (0 + (j : Int)), V.int ((c : Int) / 5 % (m : Int)), V.int (m : Int)] = _
              rw [Int.zero_add, e4]
            · rw [List.getD_eq_getElem?_getD, List.getElem?_eq_getElem hj]
              rfl
          · rw [filter_yes, Int.toNat_natCast, redir_rows gl] at r7
            obtain ⟨_, ds, e, hD7, hds⟩ := r7
            cases e
            have hdl := hds.len
            rw [List.length_map] at hdl
            refine ⟨_, rfl, sz2, fun t nt => ?_⟩
            obtain ⟨G8, S8, g8, k8⟩ := (S6.trans S7).tup [.str "bin", .int 5] nt
            have hb8 := g8 _ _ (S7.gg _ _ hb6)
            refine ⟨_, _, .tup (SqT.of (S8.gh.at hb8)) (rowD_dp _), .tup (SqT.of (S8.gh.at k8)) (rowD_dp (.bin 5)), rowD_shaped _, rowD_shaped (.bin 5), _, rfl, ?_⟩
            by_cases hx5 : x = .bin 5
            · exact iteT' (by rw [rowD_eq, decide_eq_true hx5]) ⟨_, rfl, back _ _ S8⟩
            · refine iteF' (by rw [rowD_eq, decide_eq_false hx5]) ⟨_, rfl, _, rfl, sz1, fun p np => ?_⟩
              obtain ⟨G9, S9, g9, k9⟩ := S8.lst [.ref b] np
              have hD9 := g9 _ _ (g8 _ _ hD7)
              refine ⟨D, p, _, _, rfl, rfl, S9.gh.at hD9, S9.gh.at k9, small_le (by show _ + 1 ≤ _; omega), fun p2 np2 => ?_⟩
              obtain ⟨G10, S10, g10, k10⟩ := S9.lst (ds ++ [.ref b]) np2
              have gn := grown_good (old := old) (x := x) (⟨gen.len, gen.ok, fun o ho => by have := gen.low o ho; omega, gen.cr⟩ : Gen rows m 4) m1 m5 xok
              have hc9 := grown_crN (rows := rows) (old := old) (x := x)
              exact k (grown rows old x) gn (grown_loose gd hL gn (by omega) xold) (by omega) _ _ _ S10 ⟨p2, _, rfl, k10, AllR.snoc (hds.up ((g8.trans g9).trans g10)) ⟨b, rfl, g10 _ _ (g9 _ _ hb8)⟩⟩
        | false =>
          refine iteF' (e2.trans qx) ?_
          obtain ⟨G6, S6, hb6⟩ : ∃ G6, Sit T G H G6 _ ∧ G6 b = some (.tup (rowV x)) := ⟨G4, S4, hb4⟩
          refine ⟨_, rfl, _, rfl, by omega, by omega, comp_range (T := T) (S := RowR) (lo := 0) (fun _ => true) (fun j => redir old m (rows.getD j (.bin 0))) S6.gh (by omega) (fun _ => rfl) (fun _ _ => eb_yes) (fun j hj _ H0 g Q q => ?_) fun D G7 H7 S7 n7 r7 => ?_⟩
          · have hj : j < rows.length := by omega
            refine ⟨_, rfl, _, rfl, _, rfl, _, rfl, G6, rows, .ref l, j, old, m, rows.getD j (.bin 0), ?_, g, Up.up (R := LstR RowR) S6.gg hrows, ?_, fun v2 G2 H2 S2 r2 => q _ _ _ S2 r2⟩
            · show [V.ref l, V.int (0 + (j : Int)), V.int ((c : Int) / 5 % (m : Int)), V.int (m : Int)] = _
              rw [Int.zero_add, e4]
            · rw [List.getD_eq_getElem?_getD, List.getElem?_eq_getElem hj]
              rfl
          · rw [filter_yes, Int.toNat_natCast, redir_rows gl] at r7
            obtain ⟨_, ds, e, hD7, hds⟩ := r7
            cases e
            have hdl := hds.len
            rw [List.length_map] at hdl
            refine ⟨_, rfl, sz2, fun t nt => ?_⟩
            obtain ⟨G8, S8, g8, k8⟩ := (S6.trans S7).tup [.str "bin", .int 5] nt
            have hb8 := g8 _ _ (S7.gg _ _ hb6)
            refine ⟨_, _, .tup (SqT.of (S8.gh.at hb8)) (rowD_dp _), .tup (SqT.of (S8.gh.at k8)) (rowD_dp (.bin 5)), rowD_shaped _, rowD_shaped (.bin 5), _, rfl, ?_⟩
            by_cases hx5 : x = .bin 5
            · exact iteT' (by rw [rowD_eq, decide_eq_true hx5]) ⟨_, rfl, back _ _ S8⟩
            · refine iteF' (by rw [rowD_eq, decide_eq_false hx5]) ⟨_, rfl, _, rfl, sz1, fun p np => ?_⟩
              obtain ⟨G9, S9, g9, k9⟩ := S8.lst [.ref b] np
              have hD9 := g9 _ _ (g8 _ _ hD7)
              refine ⟨D, p, _, _, rfl, rfl, S9.gh.at hD9, S9.gh.at k9, small_le (by show _ + 1 ≤ _; omega), fun p2 np2 => ?_⟩
              obtain ⟨G10, S10, g10, k10⟩ := S9.lst (ds ++ [.ref b]) np2
              have gn := grown_good (old := old) (x := x) (⟨gen.len, gen.ok, fun o ho => by have := gen.low o ho; omega, gen.cr⟩ : Gen rows m 4) m1 m5 xok
              have hc9 := grown_crN (rows := rows) (old := old) (x := x)
              exact k (grown rows old x) gn (grown_loose gd hL gn (by omega) xold) (by omega) _ _ _ S10 ⟨p2, _, rfl, k10, AllR.snoc (hds.up ((g8.trans g9).trans g10)) ⟨b, rfl, g10 _ _ (g9 _ _ hb8)⟩⟩
def spLawTwo (T : List (Addr × Str)) (K : PySem.W.Frag) : L2.Sp := fun vs H Q _ => ∃ (G : Hp) (zs : List Int) (sv : V) (m : Nat), vs = [sv, .int (m : Int), .int 3, .int 2] ∧ Sm G H ∧ ScrR K zs sv G ∧ 1 ≤ m ∧ m ≤ 5 ∧ ∀ A B, Good A → Loose A → crN A ≤ 2 → Good B → Loose B → crN B ≤ 3 → Ret T (LstR (LstR RowR)) [A, B] G H Q
abbrev sLawTwo : Stmt := topS 64
theorem scLawTwo : FnScope ["script", "many", "most", "crushers", "one", "cell"] ["script", "many", "most", "crushers"] (defScope sLawTwo) := ⟨rfl, rfl, rfl, by decide +kernel, rfl, by decide +kernel, by decide +kernel⟩
theorem okLawTwo {f : Addr} {fd : FuncData} (Fn : Fun K "_law_two" "_law_two" sLawTwo f fd) (Tx : TxtM K mg C) (hLawCell : Has P w K mg base "_law_cell" ["script", "k"] 1 (spLawCell T K)) (hLawRows : Has P w K mg base "_law_rows" ["script", "at", "many", "most", "crushers"] 3 (spLawRows T K)) (hLawBeside : Has P w K mg base "_law_beside" ["rows", "cell"] 4 (spLawBeside T)) : FnOk P w K mg base CX0 5 f fd ["script", "many", "most", "crushers"] (spLawTwo T K) := by
  refine Fn.ok scLawTwo (fun vs H Q E h => ?_) (fun cdv A outer s H vs Q E hr h => ?_)
  · obtain ⟨G, zs, sv, m, rfl, _⟩ := h
    rfl
  · obtain ⟨G, zs, sv, m, rfl, hG, hz, m1, m5, k⟩ := h
    refine ⟨_, (pss_cons (ps_set (i := 4) scLawTwo.nd rfl (by first | exact .inl rfl | exact .inr rfl) (pe_def hLawRows hr (by decide) (by rfl) (pa_cons (pv 0) (pa_cons pe_int (pa_cons (pv 1) (pa_cons (pv 2) (pa_cons (pv 3) pa_nil)))))))
      (pss_cons (ps_set (i := 5) scLawTwo.nd rfl (by first | exact .inl rfl | exact .inr rfl) (pe_def hLawCell hr (by decide) (by rfl) (pa_cons (pv 0) (pa_cons pe_int pa_nil))))
      (pss_cons (ps_if (pt_cmpR op_eq (pe_op op_mod (pv 5) pe_int) pe_int (nomark _)) (pss_one (ps_ret (pe_lst (pa_cons (pv 4) (pa_cons (pe_def hLawRows hr (by decide) (by rfl) (pa_cons (pv 0) (pa_cons pe_int (pa_cons (pv 1) (pa_cons (pv 2) (pa_cons (pv 3) pa_nil)))))) pa_nil))))) pss_nil)
      (pss_one (ps_ret (pe_lst (pa_cons (pv 4) (pa_cons (pe_def hLawBeside hr (by decide) (by rfl) (pa_cons (pv 4) (pa_cons (pe_op op_fdiv (pv 5) pe_int) pa_nil))) pa_nil)))))))), ?_⟩
    refine ⟨_, rfl, _, rfl, _, rfl, _, rfl, G, zs, sv, 1, m, rfl, hG, hz, m1, m5, fun A gA lA v1 G1 H1 S1 r1 => ?_⟩
    have hz1 := Up.up (R := ScrR K) S1.gg hz
    have goodA := gA.good m1 (by omega)
    refine ⟨_, rfl, G1, zs, sv, 9, rfl, S1.gh, hz1, fun c H2 S2 => ?_⟩
    have S12 := S1.trans S2
    refine ⟨_, rfl, _, _, rfl, rfl, pos6, rfl, _, rfl, ite_by (fun z => ?_) (fun z => ?_)⟩
    · refine ⟨_, rfl, _, rfl, _, rfl, _, rfl, _, rfl, G1, zs, sv, 10, m, rfl, S2.gh, hz1, m1, m5, fun B gB lB v3 G3 H3 S3 r3 => ⟨sz2, fun p np => ?_⟩⟩
      obtain ⟨G4, S4, g4, k4⟩ := (S12.trans S3).lst [v1, v3] np
      have := gB.cr
      exact k A B goodA lA gA.cr (gB.good m1 (by omega)) lB (by omega) _ _ _ S4 ⟨p, _, rfl, k4, two_all (Up.up (R := LstR RowR) (S3.gg.trans g4) r1) (Up.up (R := LstR RowR) g4 r3)⟩
    · obtain ⟨c6, hc6⟩ : ∃ c6 : Nat, (c : Int) / 6 = (c6 : Int) := ⟨c / 6, by push_cast; rfl⟩
      refine ⟨_, rfl, _, rfl, _, rfl, _, _, rfl, rfl, ⟨by decide, by decide⟩, G1, A, v1, c6, m, ?_, S2.gh, r1, gA, lA, m1, m5, fun B gB lB cB v3 G3 H3 S3 r3 => ⟨sz2, fun p np => ?_⟩⟩
      · show [v1, V.int ((c : Int) / 6)] = _
        rw [hc6]
      · obtain ⟨G4, S4, g4, k4⟩ := (S12.trans S3).lst [v1, v3] np
        exact k A B goodA lA gA.cr gB lB cB _ _ _ S4 ⟨p, _, rfl, k4, two_all (Up.up (R := LstR RowR) (S3.gg.trans g4) r1) (Up.up (R := LstR RowR) g4 r3)⟩
end Mw

set_option Elab.async false
set_option linter.all false
set_option maxRecDepth 100000
set_option maxHeartbeats 4000003
namespace Mw
open PySem.Spec PyProof.Rows L2 LamX PySem
variable {P : Program} {w : World} {K : PySem.W.Frag} {mg : Str → Option Value} {base : Heap} {T : List (Addr × Str)} {C : Addr}
/-! ### _law_crushers -/
def spLawCrushers (T : List (Addr × Str)) : L2.Sp := fun vs H Q _ => ∃ (G : Hp) (rows : List Rw) (rv : V), vs = [rv] ∧ Sm G H ∧ LstR RowR rows rv G ∧ rows.length ≤ 1000 ∧ Ret T IntsR (toI (crs rows)) G H Q
abbrev sLawCrushers : Stmt := topS 68
theorem scLawCrushers : FnScope ["rows", "row"] ["rows"] (defScope sLawCrushers) := ⟨rfl, rfl, rfl, by decide +kernel, rfl, by decide +kernel, by decide +kernel⟩
theorem okLawCrushers {f : Addr} {fd : FuncData} (Fn : Fun K "_law_crushers" "_law_crushers" sLawCrushers f fd) (Tx : TxtM K mg C) : FnOk P w K mg base CX0 1 f fd ["rows"] (spLawCrushers T) := by
  refine Fn.ok scLawCrushers (fun vs H Q E h => ?_) (fun cdv A outer s H vs Q E hr h => ?_)
  · obtain ⟨G, rows, rv, rfl, _⟩ := h
    rfl
  · obtain ⟨G, rows, rv, rfl, hG, ⟨l, vs, rfl, hl, ha⟩, few, k⟩ := h
    refine ⟨_, (pss_one (ps_ret (pe_lc (own := [("row", 1)]) rfl scLawCrushers.nd (pi_range1 (by rfl) Tx.range (pa_cons (pe_callB (lenK K) (by rfl) Tx.len PySem.boot_len (pa_cons (pv 0) pa_nil)) pa_nil)) (blkOk_by (N := ["rows", "row"]) (sc := defScope sLawCrushers) (by decide +kernel)) (fun _ _ _ _ _ => (pg_name (i := 1) scLawCrushers.nd rfl (by first | exact .inl rfl | exact .inr rfl))) (fun _ _ _ _ _ => (pts_one (pt_cmpR op_eq (pe_ix (ixT K) (pe_ix (ixL K) (pv 0) (pv 1) (fun _ _ => rfl)) pe_int (fun _ _ => rfl)) pe_str (nomark _)))) (fun _ _ _ _ _ => (pv 1))))), ?_⟩
    have hlen := ha.len
    refine ⟨_, rfl, l, vs, rfl, .inl (SqL.of (hG.at hl)), _, rfl, by omega, by omega, ?_⟩
    refine comp_range (T := T) (S := NatR) (lo := 0) (isCr rows) (fun i => i) hG (by omega) (fun _ => rfl) (fun j hj H0 g Q q => ?_) (fun j hj _ => ev_slot rfl (by rw [Int.zero_add]; rfl)) fun D G1 H1 S1 n1 r1 => ?_
    · have hj : j < rows.length := by omega
      have er : rows[j]? = some rows[j] := List.getElem?_eq_getElem hj
      obtain ⟨v, hv, rv⟩ := ha.get er
      obtain ⟨a, t, rfl, hat, h0, _, e1, _⟩ := row_zero rv
      refine ⟨_, rfl, _, rfl, l, _, _, _, rfl, rfl, SqL.of (g.at hl), (by rw [Int.zero_add]; exact atI_nat hv), a, _, _, _, rfl, rfl, SqT.of (g.at hat), atI_nat (j := 0) h0, rfl, _, rfl, ?_⟩
      show Q (decide (V.str t = V.str "crush")) H0
      rw [e1, ← isCr_at er]
      exact q H0 (Sit.refl g)
    · have en : ((vs.length : Int)).toNat = rows.length := by omega
      rw [en, ← crs_eq] at r1
      exact k _ _ _ S1 (nats_ints r1)
/-! ### the law's tables -/
def wrow (p : Nat) (rows : List Rw) (num s : Nat) : List Int := toI ((List.range rows.length).map fun r => wt p rows num s r)
theorem wrow_at {p num s r : Nat} {rows : List Rw} (h : r < rows.length) : (wrow p rows num s)[r]? = some (wt p rows num s r : Int) := by
  unfold wrow toI
  rw [List.getElem?_map, List.getElem?_map, List.getElem?_range h]
  rfl
def TabD (p : Nat) (rows : List Rw) (num : Nat) (known : Nat → Prop) : V → Hp → Prop := fun tv G => ∃ td kvs, tv = .ref td ∧ G td = some (.dK kvs) ∧ ∀ x, known x → ∃ v, valV kvs (Sum.inl (x : Int) : Key) = some v ∧ IntsR (wrow p rows num x) v G
theorem TabD.read {p num x : Nat} {rows : List Rw} {known : Nat → Prop} {tv : V} {G H : Hp} (h : TabD p rows num known tv G) (s : Sm G H) (hx : known x) : ∃ td c, tv = .ref td ∧ DGet H td (.int (x : Int)) (some (.ref c)) ∧ G c = some (.lst ((wrow p rows num x).map V.int)) := by
  obtain ⟨td, kvs, e, ht, hk⟩ := h
  obtain ⟨v, hv, c, rfl, hc⟩ := hk x hx
  refine ⟨td, c, e, ?_, hc⟩
  rw [← hv]
  exact DGet.k (k := Sum.inl (x : Int)) (s.at ht)
/-! ### _law_laid -/
def spLawLaid (T : List (Addr × Str)) : L2.Sp := fun vs H Q _ => ∃ (G : Hp) (p : Nat) (rows : List Rw) (rv tv : V) (r s num : Nat) (known : Nat → Prop), vs = [.int (p : Int), rv, .int (r : Int), .int (s : Int), .int (num : Int), tv] ∧ Sm G H ∧ 2 ≤ p ∧ p ≤ 3 ∧ LstR RowR rows rv G ∧ Good rows ∧ Loose rows ∧ r < rows.length ∧ 1 ≤ s ∧ TabD p rows num known tv G ∧
  (2 ≤ s → known (s / p) ∧ (0 < s % p → known (s / p + 1))) ∧ RetV T (.int (wt p rows num s r : Int)) G H Q
abbrev sLawLaid : Stmt := topS 57
theorem scLawLaid : FnScope ["parts", "rows", "row", "size", "number", "table", "one", "weight"] ["parts", "rows", "row", "size", "number", "table"] (defScope sLawLaid) := ⟨rfl, rfl, rfl, by decide +kernel, rfl, by decide +kernel, by decide +kernel⟩
theorem okLawLaid {f : Addr} {fd : FuncData} (Fn : Fun K "_law_laid" "_law_laid" sLawLaid f fd) (Tx : TxtM K mg C) (hLawEnd : Has P w K mg base "_law_end" ["rows", "row", "size"] 1 (spLawEnd T)) : FnOk P w K mg base CX0 2 f fd ["parts", "rows", "row", "size", "number", "table"] (spLawLaid T) := by
  refine Fn.ok scLawLaid (fun vs H Q E h => ?_) (fun cdv A outer s H vs Q E hr h => ?_)
  · obtain ⟨G, p, rows, rv, tv, r, s, num, known, rfl, _⟩ := h
    rfl
  · obtain ⟨G, p, rows, rv, tv, r, s, num, known, rfl, hG, p2, p3, hrows, gd, hL, hrl, hs1, ht, hkn, k⟩ := h
    refine ⟨_, (pss_cons (ps_set (i := 6) scLawLaid.nd rfl (by first | exact .inl rfl | exact .inr rfl) (pe_ix (ixL K) (pv 1) (pe_def hLawEnd hr (by decide) (by rfl) (pa_cons (pv 1) (pa_cons (pv 2) (pa_cons (pv 3) pa_nil)))) (fun _ _ => rfl)))
      (pss_cons (ps_if (pt_cmpR op_eq (pe_ix (ixT K) (pv 6) pe_int (fun _ _ => rfl)) pe_str (nomark _)) (pss_one (ps_ret (pe_op op_mul (pv 3) (pe_callTy call_int1 (by rfl) Tx.int (by decide +kernel) (pa_cons (pe_cmpR op_eq (pe_ix (ixT K) (pv 6) pe_int (fun _ _ => rfl)) (pv 4) (nomark _)) pa_nil))))) pss_nil)
      (pss_cons (ps_set (i := 7) scLawLaid.nd rfl (by first | exact .inl rfl | exact .inr rfl) (pe_op op_mul (pe_op op_sub (pv 0) (pe_op op_mod (pv 3) (pv 0))) (pe_ix (ixL K) (pe_dget (hu_of hr) (pv 5) (pe_op op_fdiv (pv 3) (pv 0)) (fun _ _ => rfl)) (pe_ix (ixT K) (pv 6) pe_int (fun _ _ => rfl)) (fun _ _ => rfl))))
      (pss_cons (ps_if (pt_cmpR op_gt (pe_op op_mod (pv 3) (pv 0)) pe_int (nomark _)) (pss_one (ps_set (i := 7) scLawLaid.nd rfl (by first | exact .inl rfl | exact .inr rfl) (pe_op op_add (pv 7) (pe_op op_mul (pe_op op_mod (pv 3) (pv 0)) (pe_ix (ixL K) (pe_dget (hu_of hr) (pv 5) (pe_op op_add (pe_op op_fdiv (pv 3) (pv 0)) pe_int) (fun _ _ => rfl)) (pe_ix (ixT K) (pv 6) pe_int (fun _ _ => rfl)) (fun _ _ => rfl)))))) pss_nil)
      (pss_one (ps_ret (pv 7))))))), ?_⟩
    obtain ⟨l, vs, rfl, hl, ha⟩ := hrows
    have hrows : LstR RowR rows (.ref l) G := ⟨l, vs, rfl, hl, ha⟩
    obtain ⟨e, he⟩ := hL s r hs1 hrl
    have hel := fin_lt gd hrl he
    have er : rows[e]? = some rows[e] := List.getElem?_eq_getElem hel
    obtain ⟨v, hv, hrow⟩ := ha.get er
    have hrl2 : rows.length ≤ 6 := gd.few
    refine ⟨_, rfl, _, rfl, _, rfl, _, rfl, G, rows, .ref l, r, s, rfl, hG, hrows, gd, hrl, fun H1 S1 => ?_⟩
    rw [he]
    refine ⟨l, _, _, _, rfl, rfl, SqL.of (S1.gh.at hl), atI_nat hv, ?_⟩
    obtain ⟨b, t, rfl, hb, h0, _, _, e3⟩ := row_zero hrow
    have sb := SqT.of (K := K) (S1.gh.at hb)
    refine ⟨_, rfl, b, _, _, _, rfl, rfl, sb, atI_nat (j := 0) h0, rfl, _, rfl, ?_⟩
    rcases end_kind gd hrl he with ⟨n, hn, _⟩ | ⟨hs2, t', htt, htl⟩
    · rw [er] at hn
      have ek := Option.some.inj hn
      rw [ek] at hb e3 sb h0
      rw [wt_bin he (by rw [er, ek])] at k
      refine iteT' e3 ⟨_, rfl, _, rfl, b, _, _, _, rfl, rfl, sb, atI_nat (j := 1) rfl, _, rfl, rfl, .inr ⟨_, rfl, _, _, rfl, rfl, .inr ⟨by split <;> decide, by split <;> decide⟩, ?_⟩⟩
      have ev : (s : Int) * (if decide (V.int (n : Int) = V.int (num : Int)) = true then 1 else 0) = ((if n = num then s else 0 : Nat) : Int) := by
        rw [int_dec]
        by_cases z : n = num
        · rw [decide_eq_true z, if_pos rfl, if_pos z, Int.mul_one]
        · rw [decide_eq_false z, if_neg (by decide), if_neg z, Int.mul_zero]
          rfl
      rw [← ev] at k
      exact k _ S1
    · rw [er] at htt
      have ek := Option.some.inj htt
      rw [ek] at hb e3 sb h0
      have hs2' : 2 ≤ s := by omega
      obtain ⟨k1, k2⟩ := hkn hs2'
      rw [wt_crush p2 hs2' he (by rw [er, ek])] at k
      have dv : (s : Int) / (p : Int) = ((s / p : Nat) : Int) := by push_cast; rfl
      have md : (s : Int) % (p : Int) = ((s % p : Nat) : Int) := by push_cast; rfl
      have mlt := Nat.mod_lt s (show 0 < p by omega)
      have cd : CDiv (s : Int) (p : Int) := ⟨by omega, by omega⟩
      have pp : (0 : Int) < (p : Int) := by omega
      obtain ⟨td, c, rfl, hd, hc⟩ := ht.read S1.gh k1
      refine iteF' e3 ?_
      refine ⟨_, rfl, _, rfl, _, rfl, _, _, rfl, rfl, pp, _, _, rfl, rfl, _, rfl, _, rfl, _, rfl, _, _, rfl, rfl, cd, td, _, rfl, (by show DGet _ td (.int ((s : Int) / (p : Int))) _; rw [dv]; exact hd), ?_⟩
      refine ⟨_, rfl, b, _, _, _, rfl, rfl, sb, atI_nat (j := 1) rfl, c, _, _, _, rfl, rfl, SqL.of (S1.gh.at hc), atI_nat (ints_at (wrow_at htl)), _, _, rfl, rfl, .inl ⟨by omega, by omega⟩, ?_⟩
      refine ⟨_, rfl, _, rfl, _, _, rfl, rfl, pp, _, _, rfl, rfl, _, rfl, ite_by (fun z => ?_) (fun z => ?_)⟩
      · have z : (0 : Int) < (s : Int) % (p : Int) := z
        obtain ⟨td2, c2, e2, hd2, hc2⟩ := ht.read S1.gh (k2 (by omega))
        cases e2
        refine ⟨_, rfl, _, rfl, _, rfl, _, _, rfl, rfl, pp, _, rfl, _, rfl, _, rfl, _, _, rfl, rfl, cd, _, _, rfl, rfl, td, _, rfl, (by show DGet _ td (.int ((s : Int) / (p : Int) + 1)) _; rw [dv]; exact hd2), ?_⟩
        refine ⟨_, rfl, b, _, _, _, rfl, rfl, sb, atI_nat (j := 1) rfl, c2, _, _, _, rfl, rfl, SqL.of (S1.gh.at hc2), atI_nat (ints_at (wrow_at htl)), _, _, rfl, rfl, .inl ⟨by omega, by omega⟩, _, _, rfl, rfl, _, rfl, ?_⟩
        have ev : ((p : Int) - (s : Int) % (p : Int)) * (wt p rows num (s / p) t' : Int) + (s : Int) % (p : Int) * (wt p rows num (s / p + 1) t' : Int) = (((p - s % p) * wt p rows num (s / p) t' + s % p * wt p rows num (s / p + 1) t' : Nat) : Int) := by
          rw [Int.natCast_add, Int.natCast_mul, Int.natCast_mul, Int.natCast_sub (Nat.le_of_lt mlt), md]
        rw [← ev] at k
        exact k _ S1
      · have z : ¬ (0 : Int) < (s : Int) % (p : Int) := z
        have z0 : s % p = 0 := by omega
        refine ⟨_, rfl, ?_⟩
        have ev : ((p : Int) - (s : Int) % (p : Int)) * (wt p rows num (s / p) t' : Int) = (((p - s % p) * wt p rows num (s / p) t' + s % p * wt p rows num (s / p + 1) t' : Nat) : Int) := by
          rw [z0, Nat.zero_mul, Nat.add_zero, Int.natCast_mul, md, z0]
          rfl
        rw [← ev] at k
        exact k _ S1
end Mw

set_option Elab.async false
set_option linter.all false
set_option maxRecDepth 100000
set_option maxHeartbeats 4000003
namespace Mw
open PySem.Spec PyProof.Rows L2 LamX PySem
variable {P : Program} {w : World} {K : PySem.W.Frag} {mg : Str → Option Value} {base : Heap} {T : List (Addr × Str)} {C : Addr}
/-! ### the sizes that one size asks for -/
def Dn (p x : Nat) (S : List Nat) : Prop := (x / p = 0 ∨ x / p ∈ S) ∧ (0 < x % p → x / p + 1 ∈ S)
theorem Dn.more {p x : Nat} {S S' : List Nat} (h : Dn p x S) (s : ∀ y ∈ S, y ∈ S') : Dn p x S' := ⟨h.1.imp id (s _), fun z => s _ (h.2 z)⟩
structure SizesOk (p s : Nat) (ns : List Nat) : Prop where
  rise : ns.Pairwise (· < ·)
  pos : ∀ x ∈ ns, 1 ≤ x
  has : s ∈ ns
  down : ∀ x ∈ ns, 2 ≤ x → Dn p x ns
/-- the sizes on the way down -/
structure Way (p s : Nat) (S : List Nat) (low high : Nat) : Prop where
  has : s ∈ S
  lo : low ∈ S
  hi : high ∈ S
  near : low ≤ high ∧ high ≤ low + 1
  rest : ∀ x ∈ S, x = low ∨ x = high ∨ Dn p x S
theorem way_step {p s : Nat} {S : List Nat} {low high : Nat} (p2 : 2 ≤ p) (p3 : p ≤ 3) (W : Way p s S low high) : Way p s ([low / p, high / p + if 0 < high % p then 1 else 0] ++ S) (low / p) (high / p + if 0 < high % p then 1 else 0) := by
  obtain ⟨n1, n2⟩ := W.near
  have key : ∀ h' : Nat, h' = high / p + (if 0 < high % p then 1 else 0) → low / p ≤ h' ∧ h' ≤ low / p + 1 ∧ (0 < low % p → low / p + 1 = h') ∧ (high / p = low / p ∨ high / p = h') ∧ (0 < high % p → high / p + 1 = h') := fun h' e => by
    rcases (show p = 2 ∨ p = 3 by omega) with rfl | rfl
    · split at e <;> omega
    · split at e <;> omega
  obtain ⟨k1, k2, k3, k4, k5⟩ := key _ rfl
  generalize high / p + (if 0 < high % p then 1 else 0) = h' at k1 k2 k3 k4 k5
  have sub : ∀ y ∈ S, y ∈ [low / p, h'] ++ S := fun y hy => List.mem_append_right _ hy
  have ml : low / p ∈ [low / p, h'] ++ S := List.mem_append_left _ List.mem_cons_self
  have mh : h' ∈ [low / p, h'] ++ S := List.mem_append_left _ (List.mem_cons_of_mem _ List.mem_cons_self)
  have dl : Dn p low ([low / p, h'] ++ S) := ⟨.inr ml, fun z => by rw [k3 z]; exact mh⟩
  have dh : Dn p high ([low / p, h'] ++ S) := ⟨.inr (by rcases k4 with e | e <;> rw [e] <;> assumption), fun z => by rw [k5 z]; exact mh⟩
  refine ⟨sub _ W.has, ml, mh, ⟨k1, k2⟩, fun x hx => ?_⟩
  (rcases List.mem_append.mp hx with hx | hx)
  · rcases List.mem_cons.mp hx with e | hx
    · exact .inl e
    · exact .inr (.inl (List.mem_singleton.mp hx))
  · rcases W.rest x hx with e | e | d
    · rw [e]
      exact .inr (.inr dl)
    · rw [e]
      exact .inr (.inr dh)
    · exact .inr (.inr (d.more sub))
theorem way_end {p s : Nat} {S ns : List Nat} {low high : Nat} (p2 : 2 ≤ p) (p3 : p ≤ 3) (W : Way p s S low high) (hs : 1 ≤ s) (hl : low ≤ 1) (rise : ns.Pairwise (· < ·)) (hm : ∀ x, x ∈ ns ↔ (x ∈ S ∨ x = 1) ∧ 0 < x) : SizesOk p s ns := by
  have m1 : 1 ∈ ns := (hm 1).mpr ⟨.inr rfl, by decide⟩
  obtain ⟨n1, n2⟩ := W.near
  refine ⟨rise, fun x hx => ((hm x).mp hx).2, (hm s).mpr ⟨.inl W.has, hs⟩, fun x hx h2 => ?_⟩
  obtain ⟨h | h, _⟩ := (hm x).mp hx
  · rcases W.rest x h with e | e | d
    · omega
    · have e2 : x = 2 := by omega
      subst e2
      rcases (show p = 2 ∨ p = 3 by omega) with rfl | rfl
      · exact ⟨.inr m1, fun z => absurd z (by decide)⟩
      · exact ⟨.inl (by decide), fun _ => m1⟩
    · refine ⟨?_, fun z => (hm _).mpr ⟨.inl (d.2 z), Nat.succ_pos _⟩⟩
      rcases d.1 with e | e
      · exact .inl e
      · by_cases z : x / p = 0
        · exact .inl z
        · exact .inr ((hm _).mpr ⟨.inl e, Nat.pos_of_ne_zero z⟩)
  · omega
/-! ### the dict of the sizes -/
def keyed (ns : List Int) : List (Key × V) := ns.map fun n => ((Sum.inl n : Key), V.int 0)
theorem keyed_any (ms : List Int) (n : Int) : ((keyed ms).any fun kv => decide (kv.1 = (Sum.inl n : Key))) = decide (n ∈ ms) := by
  unfold keyed
  rw [List.any_map]
  induction ms with
  | nil => rfl
  | cons a l ih =>
    rw [List.any_cons, ih]
    show (decide ((Sum.inl a : Key) = Sum.inl n) || decide (n ∈ l)) = decide (n ∈ a :: l)
    by_cases h : a = n
    · subst h
      simp
    · have h' : ¬ n = a := fun e => h e.symm
      simp [h, h']
theorem keyed_merge : ∀ (ns ms : List Int), ms.Nodup → ∃ ks : List Int, mergeK (keyed ms) (keyed ns) = keyed ks ∧ ks.Nodup ∧ ∀ x, x ∈ ks ↔ x ∈ ms ∨ x ∈ ns
  | [], ms, h => ⟨ms, rfl, h, fun x => by simp⟩
  | n :: ns, ms, h => by
    by_cases q : n ∈ ms
    · have e : putK (keyed ms) (Sum.inl n) (V.int 0) = keyed ms := by
        unfold putK
        rw [keyed_any, if_pos (decide_eq_true q)]
        unfold keyed
        rw [List.map_map]
        refine List.map_congr_left fun a _ => ?_
        show (if (Sum.inl a : Key) = Sum.inl n then ((Sum.inl a : Key), V.int 0) else (Sum.inl a, V.int 0)) = _
        split <;> rfl
      obtain ⟨ks, k1, k2, k3⟩ := keyed_merge ns ms h
      refine ⟨ks, ?_, k2, fun x => ?_⟩
      · rw [← k1]
        show mergeK (putK (keyed ms) (Sum.inl n) (V.int 0)) (keyed ns) = _
        rw [e]
      · rw [k3]
        constructor
        · rintro (h | h)
          · exact .inl h
          · exact .inr (List.mem_cons_of_mem _ h)
        · rintro (h | h)
          · exact .inl h
          · (rcases List.mem_cons.mp h with e | h)
            · rw [e]
              exact .inl q
            · exact .inr h
    · have e : putK (keyed ms) (Sum.inl n) (V.int 0) = keyed (ms ++ [n]) := by
        unfold putK
        rw [keyed_any, if_neg (by simpa using q)]
        unfold keyed
        rw [List.map_append]
        rfl
      obtain ⟨ks, k1, k2, k3⟩ := keyed_merge ns (ms ++ [n]) (by
        rw [List.nodup_append]
        refine ⟨h, by simp, fun a ha b hb => ?_⟩
        rw [List.mem_singleton.mp hb]
        intro z
        rw [z] at ha
        exact q ha)
      refine ⟨ks, ?_, k2, fun x => ?_⟩
      · rw [← k1]
        show mergeK (putK (keyed ms) (Sum.inl n) (V.int 0)) (keyed ns) = _
        rw [e]
      · rw [k3, List.mem_append, List.mem_singleton, List.mem_cons]
        constructor
        · rintro ((h | h) | h)
          · exact .inl h
          · exact .inr (.inl h)
          · exact .inr (.inr h)
        · rintro (h | h | h)
          · exact .inl (.inl h)
          · exact .inl (.inr h)
          · exact .inr h
def OneR : Rel Int := fun z v G => TupR [.int z, .int 0] v G
instance : Up OneR := ⟨fun g h => Up.up (R := TupR) g h⟩
theorem ones_paired {G H : Hp} (s : Sm G H) : ∀ {zs : List Int} {vs : List V}, AllR OneR zs vs G → ∃ ps : List Addr, vs = ps.map V.ref ∧ Paired (fun p (kv : Key × V) => SqT K H p [kV kv.1, kv.2]) ps (keyed zs)
  | [], vs, h => by
    have : vs = [] := List.eq_nil_of_length_eq_zero h.len
    exact ⟨[], this, .nil⟩
  | z :: zs, [], h => by
    have := h.len
    cases this
  | z :: zs, v :: vs, h => by
    obtain ⟨⟨a, e, ha⟩, h2⟩ := h.drop1
    obtain ⟨ps, e2, r⟩ := ones_paired s h2
    exact ⟨a :: ps, by rw [e, e2]; rfl, .cons (SqT.of (s.at ha)) r⟩
theorem filter_map_id (f : Int → Bool) (l : List Int) : (l.filter f).map (fun x => x) = l.filter f := List.map_id' _
/-! ### _law_sizes -/
def spLawSizes (T : List (Addr × Str)) : L2.Sp := fun vs H Q _ => ∃ (G : Hp) (p s : Nat), vs = [.int (p : Int), .int (s : Int)] ∧ Sm G H ∧ 2 ≤ p ∧ p ≤ 3 ∧ 1 ≤ s ∧ s < 2 ^ 64 ∧ ∀ ns : List Nat, SizesOk p s ns → ns.length ≤ 1000 → Ret T IntsR (toI ns) G H Q
abbrev sLawSizes : Stmt := topS 58
theorem scLawSizes : FnScope ["parts", "size", "sizes", "low", "high", "one"] ["parts", "size"] (defScope sLawSizes) := ⟨rfl, rfl, rfl, by decide +kernel, rfl, by decide +kernel, by decide +kernel⟩
theorem okLawSizes {f : Addr} {fd : FuncData} (Fn : Fun K "_law_sizes" "_law_sizes" sLawSizes f fd) (Tx : TxtM K mg C) : FnOk P w K mg base CX0 1 f fd ["parts", "size"] (spLawSizes T) := by
  refine Fn.ok scLawSizes (fun vs H Q E h => ?_) (fun cdv A outer s H vs Q E hr h => ?_)
  · obtain ⟨G, p, s, rfl, _⟩ := h
    rfl
  · obtain ⟨G, p, s, rfl, hG, p2, p3, hs1, hs64, k⟩ := h
    refine ⟨_, (pss_cons (ps_set (i := 2) scLawSizes.nd rfl (by first | exact .inl rfl | exact .inr rfl) (pe_lst (pa_cons (pv 1) pa_nil)))
      (pss_cons (ps_set (i := 3) scLawSizes.nd rfl (by first | exact .inl rfl | exact .inr rfl) (pv 1))
      (pss_cons (ps_set (i := 4) scLawSizes.nd rfl (by first | exact .inl rfl | exact .inr rfl) (pv 1))
      (pss_cons (ps_while PassesOwn.never (pt_cmpR op_gt (pv 3) pe_int (nomark _)) (pss_cons (ps_set (i := 4) scLawSizes.nd rfl (by first | exact .inl rfl | exact .inr rfl) (pe_op op_add (pe_op op_fdiv (pv 4) (pv 0)) (pe_callTy call_int1 (by rfl) Tx.int (by decide +kernel) (pa_cons (pe_cmpR op_gt (pe_op op_mod (pv 4) (pv 0)) pe_int (nomark _)) pa_nil))))
        (pss_cons (ps_set (i := 3) scLawSizes.nd rfl (by first | exact .inl rfl | exact .inr rfl) (pe_op op_fdiv (pv 3) (pv 0)))
        (pss_one (ps_set (i := 2) scLawSizes.nd rfl (by first | exact .inl rfl | exact .inr rfl) (pe_op op_cat (pe_lst (pa_cons (pv 3) (pa_cons (pv 4) pa_nil))) (pv 2)))))))
      (pss_one (ps_ret (pe_callB (sortK K) (by rfl) Tx.sorted (by decide +kernel) (pa_cons (pe_callTy (call_list_dK rfl) (by rfl) Tx.list (by decide +kernel) (pa_cons (pe_callTy (dictK K) (by rfl) Tx.dict (by decide +kernel) (pa_cons (pe_lc (own := [("one", 5)]) rfl scLawSizes.nd (itL K (pe_op op_cat (pv 2) (pe_lst (pa_cons pe_int pa_nil)))) (blkOk_by (N := ["parts", "size", "sizes", "low", "high", "one"]) (sc := defScope sLawSizes) (by decide +kernel)) (fun _ _ _ _ _ => (pg_name (i := 5) scLawSizes.nd rfl (by first | exact .inl rfl | exact .inr rfl))) (fun _ _ _ _ _ => (pts_one (pt_cmpR op_gt (pv 5) pe_int (nomark _)))) (fun _ _ _ _ _ => (pe_tup (pa_cons (pv 5) (pa_cons pe_int pa_nil))))) pa_nil)) pa_nil)) pa_nil)))))))), ?_⟩
    have cd : ∀ x : Nat, CDiv (x : Int) (p : Int) := fun x => ⟨by omega, by omega⟩
    have pp : (0 : Int) < (p : Int) := by omega
    refine ⟨_, rfl, sz1, fun p1 np1 => ?_⟩
    obtain ⟨G1, S1, g1, k1⟩ := (Sit.refl (T := T) hG).lst [.int (s : Int)] np1
    refine ⟨_, rfl, _, rfl, ?_⟩
    refine ⟨fun m σ H' => ∃ (G' : Hp) (a : Addr) (S : List Nat) (low high : Nat), σ = [some (.int (p : Int)), some (.int (s : Int)), some (.ref a), some (.int (low : Int)), some (.int (high : Int)), none] ∧ Sit T G H G' H' ∧ G' a = some (.lst ((toI S).map V.int)) ∧ Way p s S low high ∧ low < 2 ^ m ∧ S.length + 2 * m ≤ 200,
      ⟨64, G1, p1, [s], s, s, rfl, S1, k1, ⟨List.mem_singleton.mpr rfl, List.mem_singleton.mpr rfl, List.mem_singleton.mpr rfl, ⟨Nat.le_refl _, Nat.le_succ _⟩, fun x hx => .inl (List.mem_singleton.mp hx)⟩, hs64, by show 1 + 2 * 64 ≤ 200; omega⟩, ?_⟩
    rintro m σ H2 ⟨G2, a, S, low, high, rfl, S2, ha, W, hlow, hlen⟩
    refine ⟨_, rfl, _, _, rfl, rfl, _, rfl, ite_by (fun z => ?_) (fun z => ?_)⟩
    · have z : (1 : Int) < (low : Int) := z
      cases m with
      | zero =>
        have : low < 1 := hlow
        omega
      | succ m' =>
        refine ⟨fun σ H' => ∃ m1, m1 < m' + 1 ∧ _, fun σ' H' z => z, ?_⟩
        refine ⟨_, rfl, _, rfl, _, _, rfl, rfl, cd high, _, rfl, _, rfl, _, _, rfl, rfl, pp, _, _, rfl, rfl, .inr ⟨_, rfl, _, _, rfl, rfl, ?_⟩⟩
        refine ⟨_, rfl, _, rfl, _, _, rfl, rfl, cd low, ?_⟩
        refine ⟨_, rfl, _, rfl, sz2, fun q nq => ?_⟩
        have eh : (high : Int) / (p : Int) + (if decide ((0 : Int) < (high : Int) % (p : Int)) = true then 1 else 0) = ((high / p + if 0 < high % p then 1 else 0 : Nat) : Int) := by
          have md : (high : Int) % (p : Int) = ((high % p : Nat) : Int) := by push_cast; rfl
          have dv : (high : Int) / (p : Int) = ((high / p : Nat) : Int) := by push_cast; rfl
          rw [md, dv]
          by_cases y : 0 < high % p
          · rw [decide_eq_true (show (0 : Int) < ((high % p : Nat) : Int) by omega), if_pos rfl, if_pos y]
            push_cast
            rfl
          · rw [decide_eq_false (show ¬ (0 : Int) < ((high % p : Nat) : Int) by omega), if_neg (by decide), if_neg y]
            rfl
        have el : (low : Int) / (p : Int) = ((low / p : Nat) : Int) := by push_cast; rfl
        obtain ⟨G3, S3, g3, k3⟩ := S2.lst [.int ((low : Int) / (p : Int)), .int ((high : Int) / (p : Int) + (if decide ((0 : Int) < (high : Int) % (p : Int)) = true then 1 else 0))] nq
        have ha3 := g3 _ _ ha
        refine ⟨_, rfl, q, a, _, _, rfl, rfl, S3.gh.at k3, S3.gh.at ha3, small_le (by rw [List.length_map, toI_len]; show 2 + _ ≤ _; omega), fun r nr => ?_⟩
        obtain ⟨G4, S4, g4, k4⟩ := S3.lst ([.int ((low : Int) / (p : Int)), .int ((high : Int) / (p : Int) + (if decide ((0 : Int) < (high : Int) % (p : Int)) = true then 1 else 0))] ++ (toI S).map V.int) nr
        refine ⟨m', by omega, G4, r, [low / p, high / p + if 0 < high % p then 1 else 0] ++ S, low / p, high / p + (if 0 < high % p then 1 else 0), ?_, S4, ?_, way_step p2 p3 W, ?_, by rw [List.length_append]; show 2 + _ + _ ≤ _; omega⟩
        · rw [← eh, ← el]
          rfl
        · rw [k4, eh, el]
          unfold toI
          rw [List.map_append, List.map_append]
          rfl
        · have h1 : low / p ≤ low / 2 := Nat.div_le_div_left p2 (by decide)
          rw [Nat.pow_succ] at hlow
          omega
    · have z : ¬ (1 : Int) < (low : Int) := z
      refine ⟨_, rfl, sz1, fun q nq => ?_⟩
      obtain ⟨G3, S3, g3, k3⟩ := S2.lst [.int 1] nq
      have ha3 := g3 _ _ ha
      refine ⟨a, q, _, _, rfl, rfl, S3.gh.at ha3, S3.gh.at k3, small_le (by rw [List.length_map, toI_len]; show _ + 1 ≤ _; omega), fun r nr => ?_⟩
      obtain ⟨G4, S4, g4, k4⟩ := S3.lst ((toI S).map V.int ++ [.int 1]) nr
      have e4 : (toI S).map V.int ++ [V.int 1] = (toI (S ++ [1])).map V.int := by
        unfold toI
        rw [List.map_append, List.map_append]
        rfl
      rw [e4] at k4
      have hln : (toI (S ++ [1])).length ≤ 1000 := by
        rw [toI_len, List.length_append]
        show _ + 1 ≤ _
        omega
      refine ⟨r, rfl, ⟨_, SqL.of (S4.gh.at k4)⟩, comp_list (T := T) (S := OneR) (R := IntR) (fun x => decide ((0 : Int) < x)) (fun x => x) S4.gh k4 AllR.of_ints (by omega) (fun _ => rfl) (fun i x v _ _ rx H0 g Q' q' => ?_) (fun i x v _ _ rx _ H0 g Q' q' => ?_) fun D G5 H5 S5 n5 r5 => ?_⟩
      · cases rx
        exact ⟨_, rfl, _, _, rfl, rfl, _, rfl, q' H0 (Sit.refl g)⟩
      · cases rx
        refine ⟨_, rfl, sz2, fun t nt => ?_⟩
        obtain ⟨G6, S6, g6, k6⟩ := (Sit.refl (T := T) g).tup [.int x, .int 0] nt
        exact q' _ _ _ S6 ⟨t, rfl, k6⟩
      · obtain ⟨_, us, e, hD, hus⟩ := r5
        cases e
        rw [filter_map_id] at hus
        have S45 := S4.trans S5
        obtain ⟨ps, e1, hp⟩ := ones_paired (K := K) S5.gh hus
        rw [e1] at hD
        obtain ⟨ks, e2, nd, mem⟩ := keyed_merge ((toI (S ++ [1])).filter fun x => decide ((0 : Int) < x)) [] List.nodup_nil
        refine ⟨D, ps, _, rfl, SqL.of (S5.gh.at hD), hp, fun d nd2 => ?_⟩
        rw [show mergeK [] (keyed ((toI (S ++ [1])).filter fun x => decide ((0 : Int) < x))) = keyed ks from e2]
        have S6 : Sit T G H G5 (upd H5 d (.dK (keyed ks))) := S45.trans (Sit.cell S5.gh nd2 (fun ps z => by cases z))
        refine ⟨d, _, rfl, upd_same, fun l nlz => ?_⟩
        have ekeys : (keyed ks).map (fun kv => kV kv.1) = ks.map V.int := by
          unfold keyed
          rw [List.map_map]
          rfl
        rw [ekeys]
        obtain ⟨G7, S7, g7, k7⟩ := S6.lst (ks.map V.int) nlz
        refine ⟨l, ks, rfl, SqL.of (S7.gh.at k7), fun ns' t hp' hw nt => ?_⟩
        obtain ⟨G8, S8, g8, k8⟩ := S7.lst (ns'.map V.int) nt
        have memN : ∀ x : Int, x ∈ ns' ↔ x ∈ toI (S ++ [1]) ∧ 0 < x := fun x => by
          rw [hp'.mem_iff, mem, List.mem_filter]
          simp
        have hnd : ns'.Nodup := hp'.nodup_iff.mpr nd
        have toN : ns' = toI (ns'.map Int.toNat) := by
          unfold toI
          rw [List.map_map]
          refine List.ext_getElem? fun i => ?_
          rw [List.getElem?_map]
          cases hx : ns'[i]? with
          | none => rfl
          | some x =>
            have := ((memN x).mp (List.mem_of_getElem? hx)).2
            show some x = some ((x.toNat : Nat) : Int)
            rw [Int.toNat_of_nonneg (by omega)]
        have rise : (ns'.map Int.toNat).Pairwise (· < ·) := by
          rw [List.pairwise_map]
          refine List.pairwise_iff_getElem.mpr fun i j hi hj hij => ?_
          have a1 := List.pairwise_iff_getElem.mp hw i j hi hj hij
          have a2 := List.pairwise_iff_getElem.mp hnd i j hi hj hij
          have a3 := ((memN ns'[i]).mp (List.getElem_mem _)).2
          omega
        have hmem : ∀ x : Nat, x ∈ ns'.map Int.toNat ↔ (x ∈ S ∨ x = 1) ∧ 0 < x := fun x => by
          rw [← mem_toI, ← toN, memN, mem_toI, List.mem_append, List.mem_singleton]
          constructor
          · rintro ⟨h1, h2⟩
            exact ⟨h1, by omega⟩
          · rintro ⟨h1, h2⟩
            exact ⟨h1, by omega⟩
        have ok := way_end p2 p3 W hs1 (by omega) rise hmem
        have hlen2 : (ns'.map Int.toNat).length ≤ 1000 := by
          have q := len_le_of_sub (l := ns'.map Int.toNat) (m := S ++ [1]) (nodup_of_lt rise) fun x hx => by
            obtain ⟨h1, _⟩ := (hmem x).mp hx
            rw [List.mem_append, List.mem_singleton]
            exact h1
          rw [toI_len] at hln
          omega
        refine k _ ok hlen2 _ _ _ S8 ⟨t, rfl, ?_⟩
        rw [k8]
        conv => lhs; rw [toN]
end Mw

set_option Elab.async false
set_option linter.all false
set_option maxRecDepth 100000
set_option maxHeartbeats 4000003
namespace Mw
open PySem.Spec PyProof.Rows L2 LamX PySem
variable {P : Program} {w : World} {K : PySem.W.Frag} {mg : Str → Option Value} {base : Heap} {T : List (Addr × Str)} {C : Addr}
/-! ### _law_far_row -/
theorem take_has {l : List Nat} (rise : l.Pairwise (· < ·)) {i s x : Nat} (hi : l[i]? = some s) (hx : x ∈ l) (hlt : x < s) : x ∈ l.take i := by
  obtain ⟨j, hj, e⟩ := List.getElem_of_mem hx
  obtain ⟨hi', es⟩ := List.getElem?_eq_some_iff.mp hi
  have : j < i := by
    refine Decidable.byContradiction fun z => ?_
    rcases Nat.lt_or_ge i j with q | q
    · have := List.pairwise_iff_getElem.mp rise i j hi' hj q
      omega
    · have : i = j := by omega
      subst this
      omega
  rw [← e]
  exact List.mem_iff_getElem.mpr ⟨j, by rw [List.length_take]; omega, by rw [List.getElem_take]⟩
def spLawFar (T : List (Addr × Str)) : L2.Sp := fun vs H Q _ => ∃ (G : Hp) (p : Nat) (rows : List Rw) (rv : V) (s num : Nat), vs = [.int (p : Int), rv, .int (s : Int), .int (num : Int)] ∧ Sm G H ∧ 2 ≤ p ∧ p ≤ 3 ∧ LstR RowR rows rv G ∧ Good rows ∧ Loose rows ∧ 1 ≤ s ∧ s < 2 ^ 64 ∧ Ret T IntsR (wrow p rows num s) G H Q
abbrev sLawFarRow : Stmt := topS 59
theorem scLawFarRow : FnScope ["parts", "rows", "size", "number", "table", "row", "one"] ["parts", "rows", "size", "number"] (defScope sLawFarRow) := ⟨rfl, rfl, rfl, by decide +kernel, rfl, by decide +kernel, by decide +kernel⟩
theorem okLawFarRow {f : Addr} {fd : FuncData} (Fn : Fun K "_law_far_row" "_law_far_row" sLawFarRow f fd) (Tx : TxtM K mg C) (hLawLaid : Has P w K mg base "_law_laid" ["parts", "rows", "row", "size", "number", "table"] 2 (spLawLaid T)) (hLawSizes : Has P w K mg base "_law_sizes" ["parts", "size"] 1 (spLawSizes T)) : FnOk P w K mg base CX0 3 f fd ["parts", "rows", "size", "number"] (spLawFar T) := by
  refine Fn.ok scLawFarRow (fun vs H Q E h => ?_) (fun cdv A outer s H vs Q E hr h => ?_)
  · obtain ⟨G, p, rows, rv, s, num, rfl, _⟩ := h
    rfl
  · obtain ⟨G, p, rows, rv, s, num, rfl, hG, p2, p3, ⟨l, vs, rfl, hl, ha⟩, gd, hL, hs1, hs64, k⟩ := h
    refine ⟨_, (pss_cons (ps_set (i := 4) scLawFarRow.nd rfl (by first | exact .inl rfl | exact .inr rfl) (pe_disp (pps_cons pe_int (pe_lc (own := [("row", 5)]) rfl scLawFarRow.nd (itL K (pv 1)) (blkOk_by (N := ["parts", "rows", "size", "number", "table", "row", "one"]) (sc := defScope sLawFarRow) (by decide +kernel)) (fun _ _ _ _ _ => (pg_name (i := 5) scLawFarRow.nd rfl (by first | exact .inl rfl | exact .inr rfl))) (fun _ _ _ _ _ => pts_nil) (fun _ _ _ _ _ => pe_int)) pps_nil) (by rfl) (by rfl) (fun z => by cases z) (by decide)))
      (pss_cons (ps_for PassesOwn.never rfl (itL K (pe_def hLawSizes hr (by decide) (by rfl) (pa_cons (pv 0) (pa_cons (pv 2) pa_nil)))) (pg_name (i := 6) scLawFarRow.nd rfl (by first | exact .inl rfl | exact .inr rfl))
        (pss_one (ps_dput (hu_of hr) (pv 4) (pv 6) (pe_lc (own := [("row", 5)]) rfl scLawFarRow.nd (pi_range1 (by rfl) Tx.range (pa_cons (pe_callB (lenK K) (by rfl) Tx.len PySem.boot_len (pa_cons (pv 1) pa_nil)) pa_nil)) (blkOk_by (N := ["parts", "rows", "size", "number", "table", "row", "one"]) (sc := defScope sLawFarRow) (by decide +kernel)) (fun _ _ _ _ _ => (pg_name (i := 5) scLawFarRow.nd rfl (by first | exact .inl rfl | exact .inr rfl))) (fun _ _ _ _ _ => pts_nil) (fun _ _ _ _ _ => (pe_def hLawLaid hr (by decide) (by rfl) (pa_cons (pv 0) (pa_cons (pv 1) (pa_cons (pv 5) (pa_cons (pv 6) (pa_cons (pv 3) (pa_cons (pv 4) pa_nil))))))))) rfl)))
      (pss_one (ps_ret (pe_dget (hu_of hr) (pv 4) (pv 2) (fun _ _ => rfl)))))), ?_⟩
    have hlen := ha.len
    have few := gd.few
    have hrows : LstR RowR rows (.ref l) G := ⟨l, vs, rfl, hl, ha⟩
    refine fun d nd => ?_
    have S0 : Sit T G H G (upd H d (.dK [])) := Sit.cell hG nd (fun ps z => by cases z)
    have hGd := hG.none nd
    refine ⟨_, rfl, l, rfl, ⟨_, SqL.of (S0.gh.at hl)⟩, comp_list (T := T) (S := NatR) (R := RowR) (fun _ => true) (fun _ => 0) S0.gh hl ha (by omega) (fun _ => rfl) (fun i x v _ _ _ => eb_yes) (fun i x v _ _ r _ H0 g Q q => q _ _ _ (Sit.refl g) rfl) fun D G1 H1 S1 n1 r1 => ?_⟩
    rw [filter_yes] at r1
    have e0 : toI (rows.map fun _ => 0) = wrow p rows num 0 := by
      unfold wrow
      congr 1
      refine List.ext_getElem? fun i => ?_
      (rw [List.getElem?_map, List.getElem?_map])
      by_cases hi : i < rows.length
      · rw [List.getElem?_range hi, List.getElem?_eq_getElem hi]
        show some 0 = some (wt p rows num 0 i)
        rw [wt_zero]
      · rw [List.getElem?_eq_none (by omega), List.getElem?_eq_none (by rw [List.length_range]; omega)]
        rfl
    have r1 := nats_ints r1
    rw [e0] at r1
    obtain ⟨hG1, hd1⟩ := S1.kept hGd upd_same trivial
    have S01 := S0.trans S1
    refine ⟨hd1, [(Sum.inl 0, .ref D)], rfl, by show 1 ≤ 15; omega, ?_⟩
    have S2 : Sit T G H G1 (upd H1 d (.dK (mergeK [] [(Sum.inl 0, .ref D)]))) := S01.mut nd hG1 hd1 trivial
    refine ⟨_, rfl, _, rfl, G1, p, s, rfl, S2.gh, p2, p3, hs1, hs64, fun ns ok nsl v3 G3 H3 S3 r3 => ?_⟩
    obtain ⟨na, rfl, hna⟩ := r3
    have S23 := S2.trans S3
    obtain ⟨hG3, hd3⟩ := S3.kept hG1 upd_same trivial
    have base0 : TabD p rows num (fun x => x = 0) (.ref d) (upd G3 d (.dK (mergeK [] [(Sum.inl 0, .ref D)]))) := ⟨d, _, rfl, upd_same, fun x hx => by
      cases hx
      exact ⟨.ref D, rfl, Up.up (R := IntsR) (S3.gg.trans (same_new hG3)) r1⟩⟩
    refine ⟨na, rfl, ⟨_, SqL.of (S3.gh.at hna)⟩, for_list (K := K) (a := na) (xs := (toI ns).map V.int) (fun i σ H' => ∃ (G' : Hp) (kvs : List (Key × V)) (y6 : Option V), σ = [some (.int (p : Int)), some (.ref l), some (.int (s : Int)), some (.int (num : Int)), some (.ref d), none, y6] ∧ Sit T G H G' H' ∧ G' na = some (.lst ((toI ns).map V.int)) ∧ G' d = none ∧ H' d = some (.dK kvs) ∧ kvs.length ≤ 1 + i ∧ ∀ x, (x = 0 ∨ x ∈ ns.take i) → ∃ v, valV kvs (Sum.inl (x : Int) : Key) = some v ∧ IntsR (wrow p rows num x) v G')
      ⟨G3, _, none, rfl, S23, hna, hG3, hd3, by show 1 ≤ 1 + 0; omega, fun x hx => ?_⟩ (fun i σ H' _ ⟨_, _, _, _, S, h, _⟩ => SqL.of (S.gh.at h)) ?_ ?_⟩
    · have hx : x = 0 := by
        rcases hx with hx | hx
        · exact hx
        · simp at hx
      cases hx
      exact ⟨.ref D, rfl, Up.up (R := IntsR) S3.gg r1⟩
    · rintro i x σ H4 hx ⟨G4, kvs, y6, rfl, S4, hna4, hG4, hd4, hkl, hkv⟩
      obtain ⟨z, hz, rfl⟩ : ∃ z, ns[i]? = some z ∧ x = .int ((z : Nat) : Int) := by
        unfold toI at hx
        rw [List.map_map, List.getElem?_map] at hx
        cases q : ns[i]? with
        | none => rw [q] at hx; cases hx
        | some z => rw [q] at hx; exact ⟨z, rfl, (Option.some.inj hx).symm⟩
      have hil : i < ns.length := (List.getElem?_eq_some_iff.mp hz).1
      have zm := List.mem_of_getElem? hz
      have g5 := sm_own S4.gh hd4 trivial
      have up5 : Same G4 (upd G4 d (.dK kvs)) := same_new hG4
      have tab5 : TabD p rows num (fun x => x = 0 ∨ x ∈ ns.take i) (.ref d) (upd G4 d (.dK kvs)) := ⟨d, kvs, rfl, upd_same, fun x hx => by
        obtain ⟨v, h1, h2⟩ := hkv x hx
        exact ⟨v, h1, Up.up (R := IntsR) up5 h2⟩⟩
      have hl5 := up5 _ _ (S4.gg _ _ hl)
      have hrows5 := Up.up (R := LstR RowR) (S4.gg.trans up5) hrows
      refine ⟨_, rfl, l, vs, rfl, .inl (SqL.of (g5.at hl5)), _, rfl, by omega, by omega, comp_range (T := T) (S := NatR) (lo := 0) (fun _ => true) (fun r => wt p rows num z r) g5 (by omega) (fun _ => rfl) (fun _ _ => eb_yes) (fun j hj _ H0 g Q q => ?_) fun D2 G6 H6 S6 n6 r6 => ?_⟩
      · have hj : j < rows.length := by omega
        refine ⟨_, rfl, _, rfl, _, rfl, _, rfl, _, rfl, _, rfl, _, p, rows, .ref l, .ref d, j, z, num, _, (by rw [Int.zero_add]; rfl), g, p2, p3, hrows5, gd, hL, hj, ok.pos z zm, tab5, fun z2 => ?_, fun H7 S7 => q _ _ _ S7 rfl⟩
        obtain ⟨d1, d2⟩ := ok.down z zm z2
        have lt1 : z / p < z := Nat.div_lt_self (by omega) p2
        refine ⟨?_, fun zr => .inr (take_has ok.rise hz (d2 zr) ?_)⟩
        · rcases d1 with e | e
          · exact .inl e
          · exact .inr (take_has ok.rise hz e lt1)
        · rcases (show p = 2 ∨ p = 3 by omega) with rfl | rfl <;> omega
      · rw [filter_yes] at r6
        have en : ((vs.length : Int)).toNat = rows.length := by omega
        rw [en] at r6
        obtain ⟨u1, u2⟩ := S6.unown hG4
        obtain ⟨c, e, hc⟩ := nats_ints r6
        cases e
        have hDd : D2 ≠ d := fun q => by
          rw [q, hd4] at n6
          cases n6
        have S46 := S4.trans u1
        refine ⟨_, rfl, _, rfl, d, _, rfl, DPut.k (k := Sum.inl (z : Int)) u2 (small_line (by omega)), ?_⟩
        refine ⟨hide G6 d, putK kvs (Sum.inl (z : Int)) (.ref D2), _, rfl, S46.mut nd hide_at u2 trivial, u1.gg _ _ hna4, hide_at, upd_same, ?_, fun x hx => ?_⟩
        · have := length_putK kvs (Sum.inl (z : Int) : Key) (V.ref D2)
          omega
        · rw [valV_put]
          by_cases q : x = z
          · rw [if_pos (by rw [q]), q]
            exact ⟨.ref D2, rfl, D2, rfl, by rw [hide_ne hDd]; exact hc⟩
          · rw [if_neg (fun w => q (by have := Sum.inl.inj w; omega))]
            have hx' : x = 0 ∨ x ∈ ns.take i := by
              rcases hx with hx | hx
              · exact .inl hx
              · rw [take_succ_at hz] at hx
                (rcases List.mem_append.mp hx with hx | hx)
                · exact .inr hx
                · exact absurd (List.mem_singleton.mp hx) q
            obtain ⟨v, h1, h2⟩ := hkv x hx'
            exact ⟨v, h1, Up.up (R := IntsR) u1.gg h2⟩
    · rintro σ H4 ⟨G4, kvs, y6, rfl, S4, hna4, hG4, hd4, hkl, hkv⟩
      obtain ⟨v, h1, h2⟩ := hkv s (.inr (by rw [List.length_map, toI_len, List.take_length]; exact ok.has))
      refine ⟨_, rfl, _, rfl, d, v, rfl, ?_, k v _ _ S4 h2⟩
      rw [← h1]
      exact DGet.k (k := Sum.inl (s : Int)) hd4
/-! ### _law_tail -/
def spLawTail (T : List (Addr × Str)) : L2.Sp := fun vs H Q _ => ∃ (G : Hp) (p : Nat) (A B : List Rw) (pv : V) (s num : Nat), vs = [.int (p : Int), pv, .int (s : Int), .int (num : Int)] ∧ Sm G H ∧ 2 ≤ p ∧ p ≤ 3 ∧ LstR (LstR RowR) [A, B] pv G ∧ Good A ∧ Loose A ∧ Good B ∧ Loose B ∧ 1 ≤ s ∧ s + 1 < 2 ^ 64 ∧ Ret T IntsR (tail p A B num s) G H Q
theorem two_rows_len {p : Nat} {rows : List Rw} {num s : Nat} (g : Good rows) : (two p rows num s).length ≤ 12 := by
  have h1 : (crs rows).length ≤ rows.length := by
    unfold crs
    refine Nat.le_trans (List.length_filter_le _ _) ?_
    rw [List.length_range]
    exact Nat.le_refl _
  have := g.few
  rw [two_length]
  omega
abbrev sLawTail : Stmt := topS 69
theorem scLawTail : FnScope ["parts", "pair", "size", "number", "places", "rows", "low", "high", "row"] ["parts", "pair", "size", "number"] (defScope sLawTail) := ⟨rfl, rfl, rfl, by decide +kernel, rfl, by decide +kernel, by decide +kernel⟩
theorem okLawTail {f : Addr} {fd : FuncData} (Fn : Fun K "_law_tail" "_law_tail" sLawTail f fd) (Tx : TxtM K mg C) (hLawFarRow : Has P w K mg base "_law_far_row" ["parts", "rows", "size", "number"] 3 (spLawFar T)) (hLawCrushers : Has P w K mg base "_law_crushers" ["rows"] 1 (spLawCrushers T)) : FnOk P w K mg base CX0 4 f fd ["parts", "pair", "size", "number"] (spLawTail T) := by
  refine Fn.ok scLawTail (fun vs H Q E h => ?_) (fun cdv A outer s H vs Q E hr h => ?_)
  · obtain ⟨G, p, A, B, pv', s, num, rfl, _⟩ := h
    rfl
  · obtain ⟨G, p, A, B, pv', s, num, rfl, hG, p2, p3, ⟨pa, pvs, rfl, hpa, pall⟩, gA, lA, gB, lB, hs1, hs64, k⟩ := h
    refine ⟨_, (pss_cons (ps_set (i := 4) scLawTail.nd rfl (by first | exact .inl rfl | exact .inr rfl) (pe_lst pa_nil))
      (pss_cons (ps_for PassesOwn.never rfl (itL K (pv 1)) (pg_name (i := 5) scLawTail.nd rfl (by first | exact .inl rfl | exact .inr rfl))
        (pss_cons (ps_set (i := 6) scLawTail.nd rfl (by first | exact .inl rfl | exact .inr rfl) (pe_def hLawFarRow hr (by decide) (by rfl) (pa_cons (pv 0) (pa_cons (pv 5) (pa_cons (pv 2) (pa_cons (pv 3) pa_nil))))))
        (pss_cons (ps_set (i := 7) scLawTail.nd rfl (by first | exact .inl rfl | exact .inr rfl) (pe_def hLawFarRow hr (by decide) (by rfl) (pa_cons (pv 0) (pa_cons (pv 5) (pa_cons (pe_op op_add (pv 2) pe_int) (pa_cons (pv 3) pa_nil))))))
        (pss_one (ps_for PassesOwn.never rfl (itL K (pe_def hLawCrushers hr (by decide) (by rfl) (pa_cons (pv 5) pa_nil))) (pg_name (i := 8) scLawTail.nd rfl (by first | exact .inl rfl | exact .inr rfl))
          (pss_one (ps_set (i := 4) scLawTail.nd rfl (by first | exact .inl rfl | exact .inr rfl) (pe_op op_cat (pv 4) (pe_lst (pa_cons (pe_ix (ixL K) (pv 6) (pv 8) (fun _ _ => rfl)) (pa_cons (pe_ix (ixL K) (pv 7) (pv 8) (fun _ _ => rfl)) pa_nil)))))))))))
      (pss_one (ps_ret (pe_op op_cat (pv 4) (pe_lst (pa_cons (pv 2) (pa_cons pe_int pa_nil)))))))), ?_⟩
    refine ⟨Nat.zero_le _, fun q nq => ?_⟩
    obtain ⟨G1, S1, g1, k1⟩ := (Sit.refl (T := T) hG).lst [] nq
    -- what was found of the first i works
    have good : ∀ (i : Nat) (rows : List Rw), [A, B][i]? = some rows → Good rows ∧ Loose rows := fun i rows h => by
      rcases List.mem_cons.mp (List.mem_of_getElem? h) with e | h'
      · rw [e]
        exact ⟨gA, lA⟩
      · rw [List.mem_singleton.mp h']
        exact ⟨gB, lB⟩
    let done : Nat → List Int := fun i => ([A, B].take i).flatMap fun rows => two p rows num s
    have doneL : ∀ i, (done i).length ≤ 100 := fun i => by
      have la := two_rows_len (p := p) (num := num) (s := s) gA
      have lb := two_rows_len (p := p) (num := num) (s := s) gB
      rcases i with _ | _ | i
      · show 0 ≤ 100
        omega
      · show (two p A num s ++ []).length ≤ 100
        rw [List.append_nil]
        omega
      · show (([A, B].take (i + 2)).flatMap fun rows => two p rows num s).length ≤ 100
        rw [List.take_of_length_le (by show 2 ≤ i + 2; omega)]
        show (two p A num s ++ (two p B num s ++ [])).length ≤ 100
        rw [List.length_append, List.append_nil]
        omega
    refine ⟨_, rfl, pa, rfl, ⟨_, SqL.of (S1.gh.at (S1.gg _ _ hpa))⟩, for_list (K := K) (a := pa) (xs := pvs) (fun i σ H' => ∃ (G' : Hp) (a : Addr) (y5 y6 y7 y8 : Option V), σ = [some (.int (p : Int)), some (.ref pa), some (.int (s : Int)), some (.int (num : Int)), some (.ref a), y5, y6, y7, y8] ∧ Sit T G H G' H' ∧ G' a = some (.lst ((done i).map V.int))) ⟨G1, q, none, none, none, none, rfl, S1, k1⟩ (fun i σ H' _ ⟨_, _, _, _, _, _, _, S, _⟩ => SqL.of (S.gh.at (S.gg _ _ hpa))) ?_ ?_⟩
    · rintro i x σ H2 hx ⟨G2, a, y5, y6, y7, y8, rfl, S2, ha⟩
      obtain ⟨rows, hrow, rr⟩ := pall.back hx
      obtain ⟨gR, lR⟩ := good i rows hrow
      have few := gR.few
      refine ⟨_, rfl, _, rfl, _, rfl, _, rfl, G2, p, rows, x, s, num, rfl, S2.gh, p2, p3, Up.up (R := LstR RowR) S2.gg rr, gR, lR, hs1, by omega, fun v3 G3 H3 S3 r3 => ?_⟩
      obtain ⟨lo, rfl, hlo⟩ := r3
      have S23 := S2.trans S3
      refine ⟨_, rfl, _, rfl, _, rfl, _, _, rfl, rfl, _, rfl, G3, p, rows, x, s + 1, num, rfl, S3.gh, p2, p3, Up.up (R := LstR RowR) S23.gg rr, gR, lR, by omega, by omega, fun v4 G4 H4 S4 r4 => ?_⟩
      obtain ⟨hi, rfl, hhi⟩ := r4
      have S24 := S23.trans S4
      refine ⟨_, rfl, G4, rows, x, rfl, S4.gh, Up.up (R := LstR RowR) S24.gg rr, by omega, fun v5 G5 H5 S5 r5 => ?_⟩
      obtain ⟨ca, rfl, hca⟩ := r5
      have S25 := S24.trans S5
      have hlo5 := S5.gg _ _ (S4.gg _ _ hlo)
      have hhi5 := S5.gg _ _ hhi
      let part : Nat → List Int := fun j => done i ++ ((crs rows).take j).flatMap fun c => [(wt p rows num s c : Int), (wt p rows num (s + 1) c : Int)]
      refine ⟨ca, rfl, ⟨_, SqL.of (S5.gh.at hca)⟩, for_list (K := K) (a := ca) (xs := (toI (crs rows)).map V.int) (fun j σ H' => ∃ (G' : Hp) (a : Addr) (y8 : Option V), σ = [some (.int (p : Int)), some (.ref pa), some (.int (s : Int)), some (.int (num : Int)), some (.ref a), some x, some (.ref lo), some (.ref hi), y8] ∧ Sit T G H G' H' ∧ Same G5 G' ∧ G' a = some (.lst ((part j).map V.int))) ⟨G5, a, y8, rfl, S25, Same.refl _, ?_⟩ (fun i σ H' _ ⟨_, _, _, _, S, g, _⟩ => SqL.of (S.gh.at (g _ _ hca))) ?_ ?_⟩
      · have e : part 0 = done i := List.append_nil _
        rw [e]
        exact S5.gg _ _ (S4.gg _ _ (S3.gg _ _ ha))
      · rintro j y σ H6 hy ⟨G6, a6, y8, rfl, S6, g6, ha6⟩
        obtain ⟨c, hc, rfl⟩ : ∃ c, (crs rows)[j]? = some c ∧ y = .int ((c : Nat) : Int) := by
          unfold toI at hy
          rw [List.map_map, List.getElem?_map] at hy
          cases q : (crs rows)[j]? with
          | none => rw [q] at hy; cases hy
          | some z => rw [q] at hy; exact ⟨z, rfl, (Option.some.inj hy).symm⟩
        obtain ⟨t, ht⟩ := mem_crs.mp (List.mem_of_getElem? hc)
        have hcl := (List.getElem?_eq_some_iff.mp ht).1
        have hcj : j < (crs rows).length := (List.getElem?_eq_some_iff.mp hc).1
        refine ⟨_, rfl, _, rfl, _, rfl, lo, _, _, _, rfl, rfl, SqL.of (S6.gh.at (g6 _ _ hlo5)), atI_nat (ints_at (wrow_at hcl)), _, rfl, _, rfl, hi, _, _, _, rfl, rfl, SqL.of (S6.gh.at (g6 _ _ hhi5)), atI_nat (ints_at (wrow_at hcl)), sz2, fun t nt => ?_⟩
        obtain ⟨G7, S7, g7, k7⟩ := S6.lst [.int (wt p rows num s c : Int), .int (wt p rows num (s + 1) c : Int)] nt
        have pl : (part j).length ≤ 200 := by
          show (done i ++ ((crs rows).take j).flatMap fun c => [(wt p rows num s c : Int), (wt p rows num (s + 1) c : Int)]).length ≤ 200
          have q1 := doneL i
          have q2 := two_rows_len (p := p) (num := num) (s := s) gR
          rw [two_length] at q2
          rw [List.length_append, flat2_length, List.length_take]
          omega
        refine ⟨a6, t, _, _, rfl, rfl, S7.gh.at (g7 _ _ ha6), S7.gh.at k7, small_le (by rw [List.length_map]; show _ + 2 ≤ _; omega), fun r nr => ?_⟩
        obtain ⟨G8, S8, g8, k8⟩ := S7.lst ((part j).map V.int ++ [.int (wt p rows num s c : Int), .int (wt p rows num (s + 1) c : Int)]) nr
        refine ⟨G8, r, _, rfl, S8, (g6.trans g7).trans g8, ?_⟩
        rw [k8]
        have e : part (j + 1) = part j ++ [(wt p rows num s c : Int), (wt p rows num (s + 1) c : Int)] := by
          show done i ++ ((crs rows).take (j + 1)).flatMap _ = done i ++ ((crs rows).take j).flatMap _ ++ _
          rw [take_succ_at hc, List.flatMap_append, List.append_assoc]
          rfl
        rw [e, List.map_append (l₁ := part j)]
        rfl
      · rintro σ H6 ⟨G6, a6, y8, rfl, S6, g6, ha6⟩
        refine ⟨G6, a6, _, _, _, _, rfl, S6, ?_⟩
        have e : part ((toI (crs rows)).map V.int).length = done (i + 1) := by
          show done i ++ ((crs rows).take _).flatMap _ = ([A, B].take (i + 1)).flatMap _
          rw [List.length_map, toI_len, List.take_length, take_succ_at hrow, List.flatMap_append]
          show _ = (done i) ++ (two p rows num s ++ [])
          rw [List.append_nil]
          rfl
        rw [e] at ha6
        exact ha6
    · rintro σ H2 ⟨G2, a, y5, y6, y7, y8, rfl, S2, ha⟩
      have ed : done pvs.length = two p A num s ++ two p B num s := by
        rw [pall.len]
        show two p A num s ++ (two p B num s ++ []) = _
        rw [List.append_nil]
      rw [ed] at ha
      have la := two_rows_len (p := p) (num := num) (s := s) gA
      have lb := two_rows_len (p := p) (num := num) (s := s) gB
      refine ⟨_, rfl, _, rfl, sz2, fun t nt => ?_⟩
      obtain ⟨G3, S3, g3, k3⟩ := S2.lst [.int (s : Int), .int 1] nt
      refine ⟨a, t, _, _, rfl, rfl, S3.gh.at (g3 _ _ ha), S3.gh.at k3, small_le (by rw [List.length_map, List.length_append]; show _ + 2 ≤ _; omega), fun r nr => ?_⟩
      obtain ⟨G4, S4, g4, k4⟩ := S3.lst ((two p A num s ++ two p B num s).map V.int ++ [.int (s : Int), .int 1]) nr
      refine k _ _ _ S4 ⟨r, rfl, ?_⟩
      rw [k4]
      unfold tail
      rw [List.map_append (l₁ := two p A num s ++ two p B num s)]
      rfl
end Mw

set_option Elab.async false
set_option linter.all false
set_option maxRecDepth 100000
set_option maxHeartbeats 4000003
namespace Mw
open PySem.Spec PyProof.Rows L2 LamX PySem
variable {P : Program} {w : World} {K : PySem.W.Frag} {mg : Str → Option Value} {base : Heap} {T : List (Addr × Str)} {C : Addr}
/-! ### _law_least -/
theorem seen_all {p : Nat} {A B : List Rw} {num h : Nat} {Tt : List Nat} (hp : 2 ≤ p) (hc : (crs A).length + (crs B).length ≤ 5) (gA : Good A) (LA : Loose A) (gB : Good B) (LB : Loose B) (P : Paper p A B num h Tt) (hh : h ≤ 4) : ∀ i, i ≤ (looked h Tt).length → ∃ span, Seen p A B num h Tt i span
  | 0, _ => ⟨[], seen_start⟩
  | i + 1, hi => by
    obtain ⟨span, S⟩ := seen_all hp hc gA LA gB LB P hh i (by omega)
    exact ⟨_, (S.next hp hc gA LA gB LB P hh (List.getElem?_eq_getElem (by omega))).2.2⟩
theorem paper_len {p : Nat} {A B : List Rw} {num h : Nat} {Tt : List Nat} (hp : 2 ≤ p) (hc : (crs A).length + (crs B).length ≤ 5) (gA : Good A) (LA : Loose A) (gB : Good B) (LB : Loose B) (P : Paper p A B num h Tt) (hh : h ≤ 4) : Tt.length ≤ 12 := by
  obtain ⟨span, S⟩ := seen_all hp hc gA LA gB LB P hh _ (Nat.le_refl _)
  have h1 := S.gs.length_le
  have h2 := S.len
  rw [List.take_length] at h2
  have h3 := len_le_of_sub (l := Tt) (m := (looked h Tt).filter fun t => decide (t ∈ Tt)) (nodup_of_lt P.rise) fun x hx => List.mem_filter.mpr ⟨looked_has P hx, decide_eq_true hx⟩
  omega
theorem looked_ints {h : Nat} {Tt : List Nat} : rgV ((h : Int) + 1) ((h : Int) + 21) ++ ((toI Tt).filter fun x => decide ((h : Int) + 20 < x)).map V.int = (toI (looked h Tt)).map V.int := by
  unfold looked
  have e1 : rgV ((h : Int) + 1) ((h : Int) + 21) = (toI (List.range' (h + 1) 20)).map V.int := by
    unfold rgV toI
    rw [show ((h : Int) + 21 - ((h : Int) + 1)).toNat = 20 by omega, List.range'_eq_map_range, List.map_map, List.map_map]
    (refine List.map_congr_left fun i _ => ?_)
    show V.int ((h : Int) + 1 + (i : Int)) = V.int ((h + 1 + i : Nat) : Int)
    push_cast
    rfl
  have e2 : (toI Tt).filter (fun x => decide ((h : Int) + 20 < x)) = toI (Tt.filter fun s => decide (h + 20 < s)) := by
    unfold toI
    rw [List.filter_map]
    congr 1
    (refine List.filter_congr fun x _ => ?_)
    show decide ((h : Int) + 20 < (x : Int)) = decide (h + 20 < x)
    refine decide_eq_decide.mpr ⟨fun _ => by omega, fun _ => by omega⟩
  rw [e1, e2]
  unfold toI
  rw [List.map_append, List.map_append]
def spLawLeast (T : List (Addr × Str)) : L2.Sp := fun vs H Q _ => ∃ (G : Hp) (p : Nat) (A B : List Rw) (pv sv : V) (num h : Nat) (Tt : List Nat), vs = [.int (p : Int), pv, .int (num : Int), sv, .int (h : Int)] ∧ Sm G H ∧ 2 ≤ p ∧ p ≤ 3 ∧ LstR (LstR RowR) [A, B] pv G ∧ Good A ∧ Loose A ∧ Good B ∧ Loose B ∧ (crs A).length + (crs B).length ≤ 5 ∧ h ≤ 4 ∧ Paper p A B num h Tt ∧ IntsR (toI Tt) sv G ∧ RetV T (.bl true) G H Q
abbrev sLawLeast : Stmt := topS 70
theorem scLawLeast : FnScope ["parts", "pair", "number", "sizes", "height", "span", "size", "wider"] ["parts", "pair", "number", "sizes", "height"] (defScope sLawLeast) := ⟨rfl, rfl, rfl, by decide +kernel, rfl, by decide +kernel, by decide +kernel⟩
theorem okLawLeast {f : Addr} {fd : FuncData} (Fn : Fun K "_law_least" "_law_least" sLawLeast f fd) (Tx : TxtM K mg C) (hLawTail : Has P w K mg base "_law_tail" ["parts", "pair", "size", "number"] 4 (spLawTail T)) (hLawWider : Has P w K mg base "_law_wider" ["span", "row"] 3 (spWidened T widenL)) : FnOk P w K mg base CX0 5 f fd ["parts", "pair", "number", "sizes", "height"] (spLawLeast T) := by
  refine Fn.ok scLawLeast (fun vs H Q E h => ?_) (fun cdv A outer s H vs Q E hr h => ?_)
  · obtain ⟨G, p, A, B, pv', sv, num, h, Tt, rfl, _⟩ := h
    rfl
  · obtain ⟨G, p, A, B, pv', sv, num, h, Tt, rfl, hG, p2, p3, hpair, gA, lA, gB, lB, hc, hh, Pp, hsv, k⟩ := h
    refine ⟨_, (pss_cons (ps_set (i := 5) scLawLeast.nd rfl (by first | exact .inl rfl | exact .inr rfl) (pe_lst pa_nil))
      (pss_cons (ps_for PassesOwn.never rfl (itL K (pe_op op_cat (pe_listRg rfl (by rfl) Tx.list (prg_2 (by rfl) Tx.range (pe_op op_add (pv 4) pe_int) (pe_op op_add (pv 4) pe_int))) (pe_lc (own := [("size", 6)]) rfl scLawLeast.nd (itL K (pv 3)) (blkOk_by (N := ["parts", "pair", "number", "sizes", "height", "span", "size", "wider"]) (sc := defScope sLawLeast) (by decide +kernel)) (fun _ _ _ _ _ => (pg_name (i := 6) scLawLeast.nd rfl (by first | exact .inl rfl | exact .inr rfl))) (fun _ _ _ _ _ => (pts_one (pt_cmpR op_gt (pv 6) (pe_op op_add (pv 4) pe_int) (nomark _)))) (fun _ _ _ _ _ => (pv 6))))) (pg_name (i := 6) scLawLeast.nd rfl (by first | exact .inl rfl | exact .inr rfl))
        (pss_cons (ps_set (i := 7) scLawLeast.nd rfl (by first | exact .inl rfl | exact .inr rfl) (pe_def hLawWider hr (by decide) (by rfl) (pa_cons (pv 5) (pa_cons (pe_def hLawTail hr (by decide) (by rfl) (pa_cons (pv 0) (pa_cons (pv 1) (pa_cons (pv 6) (pa_cons (pv 2) pa_nil))))) pa_nil))))
        (pss_cons (ps_if (pt_cmpR op_ne (pe_cmpR op_gt (pe_callB (lenK K) (by rfl) Tx.len PySem.boot_len (pa_cons (pv 7) pa_nil)) (pe_callB (lenK K) (by rfl) Tx.len PySem.boot_len (pa_cons (pv 5) pa_nil)) (nomark _)) (pe_cmpR (inI K) (pv 6) (pv 3) (by rfl)) (nomark _)) (pss_one (ps_ret pe_bl)) pss_nil)
        (pss_one (ps_set (i := 5) scLawLeast.nd rfl (by first | exact .inl rfl | exact .inr rfl) (pv 7))))))
      (pss_one  (ps_ret pe_bl)))), ?_⟩
    have tl := paper_len p2 hc gA lA gB lB Pp hh
    have tl' := toI_len Tt
    obtain ⟨sa, rfl, hsa⟩ := hsv
    refine ⟨Nat.zero_le _, fun q nq => ?_⟩
    obtain ⟨G1, S1, g1, k1⟩ := (Sit.refl (T := T) hG).lst [] nq
    refine ⟨_, rfl, _, _, rfl, rfl, _, rfl, _, _, rfl, rfl, _, _, rfl, rfl, ⟨by omega, by omega, by omega, by omega, by omega⟩, fun a na => ?_⟩
    obtain ⟨G2, S2, g2, k2⟩ := S1.lst (rgV ((h : Int) + 1) ((h : Int) + 21)) na
    have hsa2 := g2 _ _ (g1 _ _ hsa)
    refine ⟨_, rfl, sa, rfl, ⟨_, SqL.of (S2.gh.at hsa2)⟩, comp_list (T := T) (S := IntR) (R := IntR) (fun x => decide ((h : Int) + 20 < x)) (fun x => x) S2.gh hsa2 AllR.of_ints (by omega) (fun _ => rfl) (fun i x v _ _ rx H0 g Q' q' => ?_) (fun i x v _ _ rx _ => ev_slot rfl rx) fun D G3 H3 S3 n3 r3 => ?_⟩
    · cases rx
      exact ⟨_, rfl, _, rfl, _, _, rfl, rfl, _, _, rfl, rfl, _, rfl, q' H0 (Sit.refl g)⟩
    · obtain ⟨_, e, hD⟩ := r3.ints
      cases e
      rw [filter_map_id] at hD
      have fl := List.length_filter_le (fun x => decide ((h : Int) + 20 < x)) (toI Tt)
      have S23 := S2.trans S3
      refine ⟨a, D, _, _, rfl, rfl, S3.gh.at (S3.gg _ _ k2), S3.gh.at hD, small_le (by rw [rgV_length, List.length_map]; omega), fun b nb => ?_⟩
      obtain ⟨G4, S4, g4, k4⟩ := S23.lst (rgV ((h : Int) + 1) ((h : Int) + 21) ++ ((toI Tt).filter fun x => decide ((h : Int) + 20 < x)).map V.int) nb
      refine ⟨b, rfl, ⟨_, SqL.of (S4.gh.at k4)⟩, ?_⟩
      rw [looked_ints] at k4
      have hsa4 := g4 _ _ (S3.gg _ _ hsa2)
      have hq4 := g4 _ _ (S3.gg _ _ (g2 _ _ k1))
      refine for_list (K := K) (a := b) (xs := (toI (looked h Tt)).map V.int) (fun i σ H' => ∃ (G' : Hp) (span : Span) (spv : V) (y6 y7 : Option V), σ = [some (.int (p : Int)), some pv', some (.int (num : Int)), some (.ref sa), some (.int (h : Int)), some spv, y6, y7] ∧ Sit T G H G' H' ∧ Same G4 G' ∧ SpR span spv G' ∧ Seen p A B num h Tt i span) ⟨G4, [], .ref q, none, none, rfl, S4, Same.refl _, ⟨q, [], rfl, hq4, AllR.nil⟩, seen_start⟩ (fun i σ H' _ ⟨_, _, _, _, _, _, S, g, _⟩ => SqL.of (S.gh.at (g _ _ k4))) ?_ ?_
      · rintro i x σ H5 hx ⟨G5, span, spv, y6, y7, rfl, S5, g5, hsp, seen⟩
        obtain ⟨z, hz, rfl⟩ : ∃ z, (looked h Tt)[i]? = some z ∧ x = .int ((z : Nat) : Int) := by
          unfold toI at hx
          rw [List.map_map, List.getElem?_map] at hx
          cases q : (looked h Tt)[i]? with
          | none => rw [q] at hx; cases hx
          | some z => rw [q] at hx; exact ⟨z, rfl, (Option.some.inj hx).symm⟩
        obtain ⟨run, test, nxt⟩ := seen.next p2 hc gA lA gB lB Pp hh hz
        have sz := seen_size Pp hh seen hz
        have hab := (looked_above (List.mem_of_getElem? hz)).1
        have spl := seen.gs.length_le
        have z64 : z + 1 < 2 ^ 64 := Nat.lt_of_lt_of_le sz (pow_le_of (by omega))
        have tll := tail_length (p := p) (A := A) (B := B) (num := num) (s := z)
        refine ⟨_, rfl, _, rfl, _, rfl, _, rfl, _, rfl, G5, p, A, B, pv', z, num, rfl, S5.gh, p2, p3, Up.up (R := LstR (LstR RowR)) S5.gg hpair, gA, lA, gB, lB, by omega, z64, fun v6 G6 H6 S6 r6 => ?_⟩
        refine ⟨G6, span, tail p A B num z, spv, v6, rfl, S6.gh, Up.up (R := SpR) S6.gg hsp, r6, by omega, by omega, run, fun v7 G7 H7 S7 r7 => ?_⟩
        have S57 := (S5.trans S6).trans S7
        have hsp7 := Up.up (R := SpR) (S6.gg.trans S7.gg) hsp
        obtain ⟨wa, wvs, e7, hwa, wall⟩ := r7
        subst e7
        have r7 : SpR (widenL span (tail p A B num z)) (.ref wa) G7 := ⟨wa, wvs, rfl, hwa, wall⟩
        obtain ⟨xa, xvs, e8, hxa, xall⟩ := hsp7
        subst e8
        have hsp7 : SpR span (.ref xa) G7 := ⟨xa, xvs, rfl, hxa, xall⟩
        have wl := wall.len
        have xl := xall.len
        refine ⟨_, rfl, wa, wvs, rfl, .inl (SqL.of (S7.gh.at hwa)), _, rfl, xa, xvs, rfl, .inl (SqL.of (S7.gh.at hxa)), _, _, rfl, rfl, _, rfl, _, rfl, sa, toI Tt, _, rfl, rfl, SqL.of (S7.gh.at (S7.gg _ _ (S6.gg _ _ (g5 _ _ hsa4)))), ?_⟩
        have eb : decide ((xvs.length : Int) < (wvs.length : Int)) = decide ((z : Int) ∈ toI Tt) := by
          rw [wl, xl]
          refine decide_eq_decide.mpr ?_
          rw [mem_toI]
          unfold widenL
          cases hf : fp (restOf span (tail p A B num z)) with
          | none =>
            have := test.mp hf
            exact ⟨fun y => absurd y (by show ¬ ((span.length : Int) < (span.length : Int)); omega), fun y => absurd y this⟩
          | some j =>
            have : z ∈ Tt := by
              refine Decidable.byContradiction fun y => ?_
              rw [test.mpr y] at hf
              cases hf
            refine ⟨fun _ => this, fun _ => ?_⟩
            rw [List.length_append]
            show (span.length : Int) < ((span.length + 1 : Nat) : Int)
            omega
        refine ⟨rfl, _, rfl, ite_nno (congrArg V.bl eb) ?_⟩
        exact ⟨_, rfl, G7, _, _, _, _, rfl, S57, (g5.trans S6.gg).trans S7.gg, r7, nxt⟩
      · rintro σ H5 ⟨G5, span, spv, y6, y7, rfl, S5, g5, hsp, seen⟩
        exact k _ S5.drop
end Mw

set_option Elab.async false
set_option linter.all false
set_option maxRecDepth 100000
set_option maxHeartbeats 4000003
namespace Mw
open PySem.Spec PyProof.Rows L2 LamX PySem
/-! ### enumerate over a tuple -/
theorem meets_enum_one {v : Value} {o : Obj} {H : Heap → Prop} (B : Begins v o H) :
    Meets (Builtin.«enumerate.__new__» ⟨[.type "enumerate", v], []⟩) (fun _ R s => H s.heap ∧
      R (.ok (.ret (.ref (s.heap.push o).objs.size))) { s with heap := (s.heap.push o).push { cls := .type "enumerate", data := .fields #[.none, .bool false, .ref s.heap.objs.size, rawInt 0, .none, .none] } }) :=
  .of_wp fun prog w A R s hx0 => by
    (obtain ⟨hp, g, d, tk, os⟩ := s)
    obtain ⟨h1, h⟩ := hx0
    have isSub := sub_enumerate
    have qit : ∀ {A' : Around} {E : Value → Shared → Prop} {Q : Value → Shared → Prop}, Q (.ref hp.objs.size) ⟨hp.push o, g, d, tk, os⟩ → wpAny (model prog w) A' (pyIter v) Q E ⟨hp, g, d, tk, os⟩ :=
      fun qq => B.iter prog w _ _ ⟨hp, g, d, tk, os⟩ _ h1 qq
    wp_walk using qit
    refine wpAny_stack_any fun stn => wpAny_pure ?_
    split
    · rename_i c _ _ _ _ _
      (cases (c == Value.type "enumerate"))
      · wp_walk using qit
        exact ⟨_, rfl, h⟩
      · wp_walk using qit
        exact ⟨_, rfl, h⟩
    · wp_walk using qit
      exact ⟨_, rfl, h⟩
theorem enum_one {prog : Program} {w : World} {A : Around} {E : Value → Shared → Prop} {s : Shared} {v : Value} {o : Obj} {H : Heap → Prop} {Q : Value → Shared → Prop} (B : Begins v o H) (h1 : H s.heap)
    (h : ∀ hp1, IsEnum hp1 (s.heap.objs.size + 1) s.heap.objs.size 0 .none → hp1.get? s.heap.objs.size = some o → hp1.objs.size = s.heap.objs.size + 2 →
      (∀ b o, s.heap.get? b = some o → hp1.get? b = some o) → Q (.ref (s.heap.objs.size + 1)) { s with heap := hp1 }) :
    wpAny (model prog w) A (call (.type "enumerate") [v]) Q E s := by
  refine callType_new PySem.F.called_enumerate (by decide) (PySem.F.typeCall_enumerate_1 _) (PySem.F.newCall_enumerate_1 _) (fun obj => PySem.F.args_object_init_2 obj _) PySem.F.entry_enumerate_new
    (meets_enum_one B) ⟨h1, ?_⟩
  have hsize : (s.heap.push o).objs.size = s.heap.objs.size + 1 := Heap.size_push ..
  show _ ∧ _
  rw [hsize]
  have hen : IsEnum ((s.heap.push o).push { cls := .type "enumerate", data := .fields #[.none, .bool false, .ref s.heap.objs.size, rawInt 0, .none, .none] }) (s.heap.objs.size + 1) s.heap.objs.size 0 .none := by
    have := Heap.get?_push_size (s.heap.push o) (o := { cls := .type "enumerate", data := .fields #[.none, .bool false, .ref s.heap.objs.size, rawInt 0, .none, .none] }) rfl
    rw [hsize] at this
    exact this
  refine ⟨⟨_, hen, rfl⟩, h _ hen (Heap.get?_push_of_some _ (Heap.get?_push_size _ B.free)) (by rw [Heap.size_push, hsize]) fun b o x => Heap.get?_push_of_some _ (Heap.get?_push_of_some _ x)⟩
/-- the tuple at a as it stands at each turn, each item in a madeT pair -/
def IteT (K : PySem.W.Frag) (a : Addr) : It :=
  ⟨fun i H => ∃ (items0 : List V) (x : V), SqT K H a items0 ∧ items0[i]? = some x, fun i H v H' => ∃ Tn x, v = .ref Tn ∧ H Tn = none ∧ H' = upd H Tn (.tup [.int (i : Nat), x]) ∧ ∀ items0, SqT K H a items0 → items0[i]? = some x, fun i H => ∃ items0 : List V, SqT K H a items0 ∧ items0.length ≤ i⟩
theorem turn_enumT {P : Program} {w : World} {K : PySem.W.Frag} {elts : List Expr} {kk : Nat} {tpos : Pos} (a e it : Addr) (hai : a ≠ it) (hae : a ≠ e) :
    Turn P w K (.Tuple elts kk tpos) (IteT K a) [e, it] e (fun i h => (∃ was, IsEnum h e it ((i : Nat) : Int) was) ∧ h.IsTupleIter it a i ∧ e ≠ it) where
  mem := by simp
  obj := fun i h stn b hb => by
    obtain ⟨⟨was, hen⟩, ⟨o, ho, hc, hd⟩, _⟩ := stn
    have ebit : b = e ∨ b = it := by simpa using hb
    rcases ebit with z | z
    · rw [z]
      exact ⟨_, hen, fun v q => nomatch q⟩
    · rw [z]
      exact ⟨o, ho, fun v q => by rw [hd] at q; cases q⟩
  keep := fun i h hp1 stn k => let ⟨⟨was, hen⟩, hi, hdiff⟩ := stn; ⟨⟨was, k e (by simp) _ hen⟩, hi.at fun o q => k it (by simp) o q, hdiff⟩
  item := by
    intro X ePr eWr eKr hc i pns s τ H E I hf stn hg
    subst ePr eWr eKr
    obtain ⟨⟨was, hen⟩, hiter, hdiff⟩ := stn
    obtain ⟨items0, x, hseq, hget⟩ := hg
    obtain ⟨its, rvs, p, hsize⟩ := I.tuple hseq
    obtain ⟨u, hu, ru⟩ := rvs.get hget
    have helt : e < s.heap.objs.size := Heap.lt_size hen
    have hilt : it < s.heap.objs.size := by
      obtain ⟨_, q, _⟩ := hiter
      exact Heap.lt_size q
    have D := Draws.tuple (prog := X.prog) (w := X.w) (A := X.A.in1) (I.ok.hd hc) it a hai its.toArray
    have hi : i < its.toArray.size := by
      have := (List.getElem?_eq_some_iff.mp hu).1
      simpa using this
    refine wpAny_pyNext_enum_itemD D hen ⟨hiter, p⟩ hi hdiff (by simp; exact ⟨hdiff, fun z => hae z.symm⟩) fun yy hp1 tk hy ho hst' hT hsz hkeep => ?_
    have hyu : yy = u := by
      have q : its.toArray[i]? = some u := by simpa using hu
      rw [q] at hy
      exact (Option.some.inj hy).symm
    subst hyu
    refine ⟨_, rfl, wpAny_letOwnedTupleGo_enum (s := { s with heap := hp1, toks := tk + 1 }) ho fun h'' he' sbut => ?_⟩
    have hT2 : h''.get? s.heap.objs.size = some { cls := .type "tuple", data := .seq #[.int i tk, yy] } := (sbut.2 _ (Nat.ne_of_gt helt)).trans hT
    have madeT : ObjOk X.prog X.w (upd H s.heap.objs.size (.tup [.int (i : Nat), x])) h'' s.heap.objs.size (.tup [.int (i : Nat), x]) :=
      ⟨by show 2 ≤ sizeLine; decide, [.int i tk, yy], .cons ⟨_, rfl⟩ (.cons ru .nil), ⟨_, hT2, rfl, _, rfl⟩⟩
    have I1 : Inv X pns τ (upd H s.heap.objs.size (.tup [.int (i : Nat), x])) { s with heap := h'', toks := tk + 1 } :=
      I.turnedNew (ch := [e, it]) (fun b ob hb q => (sbut.2 b (fun z => hb (by simp [z]))).trans (hkeep b ob (fun z => hb (by simp [z])) (fun z => hb (by simp [z])) q)) hf (Nat.le_refl _) madeT
    refine ⟨.ref s.heap.objs.size, _, I1, rfl, ⟨_, x, rfl, I.hok.fresh (Nat.le_refl _), rfl, fun ys hy => by rw [I.tuple_inj hy hseq]; exact hget⟩, ⟨⟨yy, ?_⟩, hst'.1.at fun o q => (sbut.2 it (Ne.symm hdiff)).trans q, hdiff⟩, fun b hb => ?_⟩
    · have enx : ((i + 1 : Nat) : Int) = (i : Int) + 1 := by omega
      rw [enx]
      exact he'
    · have hblt : b < s.heap.objs.size := by
        have ebit : b = e ∨ b = it := by simpa using hb
        rcases ebit with z | z
        · rw [z]
          exact helt
        · rw [z]
          exact hilt
      rw [upd_ne (Nat.ne_of_lt hblt)]
      exact (hf b hb).1
  done := by
    intro X ePr eWr eKr hc i pns s τ H E I hf stn hg
    subst ePr eWr eKr
    obtain ⟨⟨was, hen⟩, hiter, hdiff⟩ := stn
    obtain ⟨items0, hseq, hget⟩ := hg
    obtain ⟨its, rvs, p, hsize⟩ := I.tuple hseq
    obtain ⟨g0, g1, g2, g3, g4, g5⟩ := hf it (by simp)
    have hl := rvs.length
    have hh := I.ok.hd hc
    have D : Draws X.prog X.w X.A.in1 it [it, a] i (fun _ _ => True) (fun j h => j = i ∧ h.IsTupleIter it a i ∧ h.IsTuple a its.toArray) :=
      { live := fun _ _ stn => let ⟨_, ⟨o, ho, _⟩, _⟩ := stn; ⟨o, ho⟩
        frame := fun _ _ _ stn hkeep => ⟨stn.1, stn.2.1.at fun o e => hkeep it (by simp) o e, stn.2.2.at fun o e => hkeep a (by simp) o e⟩
        item := fun j s Q E hj stn hQ => absurd stn.1 (by omega)
        done := fun s Q E stn hE => wpAny_nextOf_tuple_end hh stn.2.1 stn.2.2 (by simp; omega) hE }
    exact wpAny_pyNext_enum_endD D hen ⟨rfl, hiter, p⟩ fun hp1 eb => ⟨rfl, I.turned (t' := s.toks) (fun b o hb q => eb b o hb q) g0 g1 g3 g4 g5⟩
  self := fun A i s Q E stn h => let ⟨⟨_, hen⟩, _⟩ := stn; wpAny_pyIter_enum hen h
def iEnumT (K : PySem.W.Frag) (ta : TA) : TI := fun τ H R => ta τ H fun vals H1 => ∃ a items0, vals = [.ref a] ∧ SqT K H1 a items0 ∧ R (IteT K a) H1
theorem pi_enumT {X : Cx} {e : Expr} {ta : TA} {p pos tpos : Pos} {elts : List Expr} {kk : Nat} (hg : Gl X "enumerate") (hm : X.mg "enumerate" = none) (ha : PA X [e] ta) (hs : starEach [e] X.env = [(false, eval e X.env)] := by rfl) :
    PI X (.Tuple elts kk tpos) (.Call (.Name "enumerate" p) [e] [] pos) (iEnumT X.K ta) := by
  refine ⟨fun pns s τ H R I h => ?_⟩
  refine Call_ (ld_blt I hg hm boot_enumerate (PyProof.Rows.callWith_type1 (thn (ha.run pos pns s τ H _ I h) fun us s1 ⟨vals, H1, I1, r1, qit⟩ => ?_) hs rfl))
  obtain ⟨a, items0, eqv, hseq, q⟩ := qit
  subst eqv
  cases r1 with
  | cons r rr =>
    cases rr
    cases r
    obtain ⟨its, rvs, p', hsize⟩ := I1.tuple hseq
    have hal : a < s1.heap.objs.size := by
      obtain ⟨_, q, _⟩ := p'
      exact Heap.lt_size q
    refine enum_one (begins_tuple a its.toArray) p' fun hp1 hen hiter hsz hkeep => wpAny_pyIter_enum hen ?_
    have Inv2 : Inv X pns τ H1 { s1 with heap := hp1 } := I1.kept (t' := s1.toks) hkeep
    refine ⟨s1.heap.objs.size + 1, [s1.heap.objs.size + 1, s1.heap.objs.size], _, _, H1, rfl, Inv2, turn_enumT a (s1.heap.objs.size + 1) s1.heap.objs.size (Nat.ne_of_lt hal) (Nat.ne_of_lt (Nat.lt_succ_of_lt hal)), ⟨⟨.none, hen⟩, ⟨_, hiter, rfl, rfl⟩, Nat.succ_ne_self _⟩, fun b hb => ?_, q⟩
    have ebit : b = s1.heap.objs.size + 1 ∨ b = s1.heap.objs.size := by simpa using hb
    have hleq : s1.heap.objs.size ≤ b := by
      rcases ebit with z | z
      · rw [z]
        exact Nat.le_add_right _ _
      · rw [z]
        exact Nat.le_refl _
    exact I1.fpOk hleq (I1.hok.fresh hleq)
theorem enT (K : PySem.W.Frag) {X : Cx} {e : Expr} {ta : TA} {p pos tpos : Pos} {elts : List Expr} {kk : Nat} (hg : Gl X "enumerate") (hm : X.mg "enumerate" = none) (ha : PA X [e] ta) (eKr : X.K = K := by rfl) (hs : starEach [e] X.env = [(false, eval e X.env)] := by rfl) :
    PI X (.Tuple elts kk tpos) (.Call (.Name "enumerate" p) [e] [] pos) (iEnumT K ta) := eKr ▸ pi_enumT hg hm ha hs
theorem walk_enumT {K : PySem.W.Frag} {a : Addr} {items0 : List V} : Walk (IteT K a) items0.length (fun H => SqT K H a items0) (YPair (fun i => some (.int (i : Nat))) (fun i => items0[i]?)) := by
  refine ⟨fun i _ hi q => ⟨items0, items0[i], q, by simp [hi]⟩, fun _ q => ⟨items0, q, Nat.le_refl _⟩, fun i H v H' _ q yy => ?_⟩
  obtain ⟨Tn, x, h1, h2, h3, h4⟩ := yy
  exact ⟨Tn, .int (i : Nat), x, h1, h2, h3, rfl, h4 items0 q⟩
end Mw

set_option Elab.async false
set_option linter.all false
set_option maxRecDepth 100000
set_option maxHeartbeats 4000003
namespace Mw
open PySem.Spec PyProof.Rows L2 LamX PySem
variable {P : Program} {w : World} {K : PySem.W.Frag} {mg : Str → Option Value} {base : Heap} {T : List (Addr × Str)} {C : Addr}
/-! ### first_tails -/
/-- a list that is new -/
def RetN (T : List (Addr × Str)) {α : Type} (R : Rel α) (x : List α) (G H : Hp) (Q : VK) : Prop := ∀ a G' H', Sit T G H G' H' → H a = none → LstR R x (.ref a) G' → Q (.ref a) H'
theorem turn2t {A B : Wk} {av bv x v2 v3 : V} {num s i n : Nat} {G : Hp} (pr : PairAt C A B av bv G) (r2 : LstR IntsR (tabL A num n) v2 G) (r3 : LstR IntsR (tabL B num n) v3 G) (hx : [av, bv][i]? = some x) : ∃ W tv, Turn2 C A B num s (hgt A.rows B.rows) i x G W ∧ [v2, v3][i]? = some tv ∧ LstR IntsR (tabL W num n) tv G := by
  have p := pr.p
  match i, hx with
  | 0, hx =>
    have e : av = x := Option.some.inj hx
    subst e
    have := p.cA
    exact ⟨A, v2, ⟨pr.a, p.okA, p.lA, rfl, hgt_above_a, places_a, fun s' => by show [] ++ _ = _; rfl, by omega⟩, rfl, r2⟩
  | 1, hx =>
    have e : bv = x := Option.some.inj hx
    subst e
    have := p.cB
    exact ⟨B, v3, ⟨pr.b, p.okB, p.lB, p.pp.symm, hgt_above_b, places_b p.pp, fun s' => by rw [← p.pp]; rfl, p.cB⟩, rfl, r3⟩
  | i + 2, hx => simp at hx
def firstL (A B : Wk) (num : Nat) (n : Nat) : List (List Int) := (List.range n).map fun j => tail A.p A.rows B.rows num (hgt A.rows B.rows + 1 + j)
def spFirst (T : List (Addr × Str)) (C : Addr) : L2.Sp := fun vs H Q _ => ∃ (G : Hp) (A B : Wk) (av bv : V) (num : Nat), vs = [av, bv, .int (num : Int)] ∧ Sm G H ∧ PairAt C A B av bv G ∧ RetN T IntsR (firstL A B num (A.p * (hgt A.rows B.rows + 1) - (hgt A.rows B.rows + 1))) G H Q
abbrev sFirstTails : Stmt := topS 42
theorem scFirstTails : FnScope ["one", "other", "number", "least", "most", "tables", "found", "size", "places", "k", "works", "row"] ["one", "other", "number"] (defScope sFirstTails) := ⟨rfl, rfl, rfl, by decide +kernel, rfl, by decide +kernel, by decide +kernel⟩
theorem okFirstTails {f : Addr} {fd : FuncData} (Fn : Fun K "first_tails" "first_tails" sFirstTails f fd) (Tx : TxtM K mg C) (hHeightOf : Has P w K mg base "height_of" ["one", "other"] 2 (spHeight T C)) (hWeightsUpto : Has P w K mg base "weights_upto" ["works", "number", "most"] 4 (spUpto T C)) (hCrushersOf : Has P w K mg base "crushers_of" ["works"] 1 (spCrushers T C)) : FnOk P w K mg base CX0 5 f fd ["one", "other", "number"] (spFirst T C) := by
  refine Fn.ok scFirstTails (fun vs H Q E h => ?_) (fun cdv A outer s H vs Q E hr h => ?_)
  · obtain ⟨G, A, B, av, bv, num, rfl, _⟩ := h
    rfl
  · obtain ⟨G, A, B, av, bv, num, rfl, hG, pr, k⟩ := h
    refine ⟨_, (pss_cons (ps_set (i := 3) scFirstTails.nd rfl (by first | exact .inl rfl | exact .inr rfl) (pe_op op_add (pe_def hHeightOf hr (by decide) (by rfl) (pa_cons (pv 0) (pa_cons (pv 1) pa_nil))) pe_int))
      (pss_cons (ps_set (i := 4) scFirstTails.nd rfl (by first | exact .inl rfl | exact .inr rfl) (pe_op op_mul (fldK K (pv 0)) (pv 3)))
      (pss_cons (ps_set (i := 5) scFirstTails.nd rfl (by first | exact .inl rfl | exact .inr rfl) (pe_lst (pa_cons (pe_def hWeightsUpto hr (by decide) (by rfl) (pa_cons (pv 0) (pa_cons (pv 2) (pa_cons (pv 4) pa_nil)))) (pa_cons (pe_def hWeightsUpto hr (by decide) (by rfl) (pa_cons (pv 1) (pa_cons (pv 2) (pa_cons (pv 4) pa_nil)))) pa_nil))))
      (pss_cons (ps_set (i := 6) scFirstTails.nd rfl (by first | exact .inl rfl | exact .inr rfl) (pe_lst pa_nil))
      (pss_cons (ps_for PassesOwn.never rfl (pi_range2 (by rfl) Tx.range (pa_cons (pv 3) (pa_cons (pv 4) pa_nil))) (pg_name (i := 7) scFirstTails.nd rfl (by first | exact .inl rfl | exact .inr rfl))
        (pss_cons (ps_set (i := 8) scFirstTails.nd rfl (by first | exact .inl rfl | exact .inr rfl) (pe_lst pa_nil))
        (pss_cons (ps_for PassesOwn.never rfl (enT K (by rfl) Tx.enumerate (pa_cons (pe_tup (pa_cons (pv 0) (pa_cons (pv 1) pa_nil))) pa_nil)) (tgT K (n := 2) (pgs_cons (pg_name (i := 9) scFirstTails.nd rfl (by first | exact .inl rfl | exact .inr rfl)) (pgs_cons (pg_name (i := 10) scFirstTails.nd rfl (by first | exact .inl rfl | exact .inr rfl)) pgs_nil)))
          (pss_one (ps_for PassesOwn.never rfl (itL K (pe_def hCrushersOf hr (by decide) (by rfl) (pa_cons (pv 10) pa_nil))) (pg_name (i := 11) scFirstTails.nd rfl (by first | exact .inl rfl | exact .inr rfl))
            (pss_one (ps_expr (bmK K PySem.F.plainAttrs_list PySem.F.slot_list_extend PySem.F.type_list_extend mt_extend (pv 8) (pa_cons (pe_lst (pa_cons (pe_ix (ixL K) (pe_ix (ixL K) (pe_ix (ixL K) (pv 5) (pv 9) (fun _ _ => rfl)) (pv 7) (fun _ _ => rfl)) (pv 11) (fun _ _ => rfl)) (pa_cons (pe_ix (ixL K) (pe_ix (ixL K) (pe_ix (ixL K) (pv 5) (pv 9) (fun _ _ => rfl)) (pe_op op_add (pv 7) pe_int) (fun _ _ => rfl)) (pv 11) (fun _ _ => rfl)) pa_nil))) pa_nil)))))))
        (pss_one (ps_expr (bmK K PySem.F.plainAttrs_list PySem.F.slot_list_append PySem.F.type_list_append mt_append (pv 6) (pa_cons (pe_op op_cat (pv 8) (pe_lst (pa_cons (pv 7) (pa_cons pe_int pa_nil)))) pa_nil)))))))
      (pss_one (ps_ret (pv 6)))))))), ?_⟩
    have pp := pr.p
    have fA := pp.okA.good.few
    have p2 := pp.okA.p2
    have p3 := pp.okA.p3
    have hh := hgt_le pp.okA.good pp.okB.good
    obtain ⟨h, eh⟩ : ∃ h, h = hgt A.rows B.rows := ⟨_, rfl⟩
    rw [← eh] at hh
    have M1 : A.p * (h + 1) ≤ 9 * 5 := Nat.mul_le_mul (by omega) (by omega)
    have M2 : h + 1 ≤ A.p * (h + 1) := Nat.le_mul_of_pos_left _ (by omega)
    obtain ⟨M, eM⟩ : ∃ M, M = A.p * (h + 1) := ⟨_, rfl⟩
    rw [← eM] at M1 M2
    have eMi : (A.p : Int) * ((h : Int) + 1) = (M : Int) := by
      rw [eM]
      push_cast
      rfl
    refine ⟨_, rfl, _, rfl, G, A, B, av, bv, rfl, hG, pr.a, pr.b, pp.okA, pp.okB, fun H1 S1 => ⟨_, _, rfl, rfl, ?_⟩⟩
    refine ⟨_, rfl, rd_parts Tx pr.a S1.gh ⟨_, rfl, _, _, rfl, rfl, .inl ⟨by omega, by omega⟩, ?_⟩⟩
    refine ⟨_, rfl, _, rfl, _, rfl, G, A, av, num, M, ?_, S1.gh, pr.a, pp.okA, pp.lA, by omega, fun v2 G2 H2 S2 r2 => ?_⟩
    · show [av, V.int (num : Int), V.int ((A.p : Int) * ((hgt A.rows B.rows : Int) + 1))] = _
      rw [← eh, eMi]
    refine ⟨_, rfl, _, rfl, _, rfl, G2, B, bv, num, M, ?_, S2.gh, Up.up (R := WkR C) S2.gg pr.b, pp.okB, pp.lB, by omega, fun v3 G3 H3 S3 r3 => ⟨sz2, fun tt ntt => ?_⟩⟩
    · show [bv, V.int (num : Int), V.int ((A.p : Int) * ((hgt A.rows B.rows : Int) + 1))] = _
      rw [← eh, eMi]
    have S123 := (S1.trans S2).trans S3
    obtain ⟨G4, S4, g4, k4⟩ := S123.lst [v2, v3] ntt
    have r2 := Up.up (R := LstR IntsR) (S3.gg.trans g4) r2
    have r3 := Up.up (R := LstR IntsR) g4 r3
    refine ⟨Nat.zero_le _, fun fl nfl => ?_⟩
    have S5 := S4.lstc [] nfl
    have hGfl := S4.gh.none nfl
    have nfl0 : H fl = none := S4.fresh nfl
    refine ⟨_, rfl, _, rfl, (h : Int) + 1, (M : Int), ?_, ⟨by omega, by omega, by omega, by omega⟩, for_range (lo := (h : Int) + 1) (n := ((M : Int) - ((h : Int) + 1)).toNat) (fun i σ H' => ∃ (G' : Hp) (acc : List V) (y7 y8 y9 y10 y11 : Option V), σ = [some av, some bv, some (.int (num : Int)), some (.int ((hgt A.rows B.rows : Int) + 1)), some (.int ((A.p : Int) * ((hgt A.rows B.rows : Int) + 1))), some (.ref tt), some (.ref fl), y7, y8, y9, y10, y11] ∧ Sit T G H G' H' ∧ Same G4 G' ∧ G' fl = none ∧ H' fl = some (.lst acc) ∧ AllR IntsR (firstL A B num i) acc G') ⟨G4, [], none, none, none, none, none, rfl, S5, Same.refl _, hGfl, upd_same, AllR.nil⟩ ?_ ?_⟩
    · show [V.int ((hgt A.rows B.rows : Int) + 1), V.int ((A.p : Int) * ((hgt A.rows B.rows : Int) + 1))] = _
      rw [← eh, eMi]
    · rintro i σ H6 hi ⟨G6, acc, y7, y8, y9, y10, y11, rfl, S6, g6, hG6, hfl6, hall⟩
      have hal := hall.len
      have hal2 : acc.length = i := by
        rw [hal]
        unfold firstL
        (rw [List.length_map, List.length_range])
      obtain ⟨s, es⟩ : ∃ s, s = h + 1 + i := ⟨_, rfl⟩
      have ei : (h : Int) + 1 + (i : Int) = (s : Int) := by omega
      have sM : s < M := by omega
      refine ⟨Nat.zero_le _, fun q nq => ?_⟩
      have A7 := (Sit.refl (T := T) S6.gh).lstc [] nq
      obtain ⟨hG7, hfl7⟩ := A7.kept hG6 hfl6 trivial
      have S7 := S6.trans A7
      have hGq := S6.gh.none nq
      have hqfl : q ≠ fl := fun z => by
        rw [z, hfl6] at nq
        cases nq
      have nq0 : H q = none := S6.fresh nq
      refine ⟨_, rfl, _, rfl, sz2, fun t nt => ?_⟩
      obtain ⟨G8, A8, g8, k8⟩ := (Sit.refl (T := T) S7.gh).tup [av, bv] nt
      obtain ⟨hG8, hfl8⟩ := A8.kept hG7 hfl7 trivial
      obtain ⟨hGq8, hq8⟩ := A8.kept hGq upd_same trivial
      have S8 := S7.trans A8
      have r2' := Up.up (R := LstR IntsR) (g6.trans g8) r2
      have r3' := Up.up (R := LstR IntsR) (g6.trans g8) r3
      refine ⟨t, [av, bv], rfl, SqT.of (S8.gh.at k8), for_it (walk_enumT (K := K) (a := t) (items0 := [av, bv])) (fun j σ H' => ∃ (G' : Hp) (y9 y10 y11 : Option V), σ = [some av, some bv, some (.int (num : Int)), some (.int ((hgt A.rows B.rows : Int) + 1)), some (.int ((A.p : Int) * ((hgt A.rows B.rows : Int) + 1))), some (.ref tt), some (.ref fl), some (.int ((h : Int) + 1 + (i : Int))), some (.ref q), y9, y10, y11] ∧ Sit T G H G' H' ∧ Same G8 G' ∧ G' fl = none ∧ H' fl = some (.lst acc) ∧ G' q = none ∧ H' q = some (.lst ((facc A B num s j).map V.int))) ⟨G8, y9, y10, y11, rfl, S8, Same.refl _, hG8, hfl8, hGq8, hq8⟩ (fun j σ H' _ ⟨_, _, _, _, _, S, g, _⟩ => SqT.of (S.gh.at (g _ _ k8))) ?_ ?_⟩
      · rintro j x σ H9 H9' hj ⟨G9, y9, y10, y11, rfl, S9, g9, hG9, hfl9, hGq9, hq9⟩ ⟨tp, u, y, rfl, ntp, rfl, eu, ey⟩
        cases eu
        have pr9 := pr.up S9.gg
        obtain ⟨W, tv, tw, htv, rtv⟩ := turn2t (num := num) (s := s) pr9 (Up.up (R := LstR IntsR) g9 r2') (Up.up (R := LstR IntsR) g9 r3') ey
        have fW := tw.ok.good.few
        have acl := facc_len (num := num) (s := s) pp j
        obtain ⟨G10, A10, g10, k10⟩ := (Sit.refl (T := T) S9.gh).tup [.int ((j : Nat) : Int), y] ntp
        obtain ⟨hG10, hfl10⟩ := A10.kept hG9 hfl9 trivial
        obtain ⟨hGq10, hq10⟩ := A10.kept hGq9 hq9 trivial
        have S10 := S9.trans A10
        refine ⟨tp, _, rfl, SqT.of (S10.gh.at k10), rfl, _, _, rfl, _, _, rfl, rfl, ?_⟩
        refine ⟨_, rfl, G10, W, y, rfl, S10.gh, Up.up (R := WkR C) g10 tw.wk, by omega, fun v11 G11 H11 A11 r11 => ?_⟩
        obtain ⟨ca, rfl, hca⟩ := r11
        obtain ⟨hG11, hfl11⟩ := A11.kept hG10 hfl10 trivial
        obtain ⟨hGq11, hq11⟩ := A11.kept hGq10 hq10 trivial
        have S11 := S10.trans A11
        have gt11 : Same G4 G11 := (g6.trans g8).trans ((g9.trans g10).trans A11.gg)
        obtain ⟨ta, tvs, rfl, hta, tall⟩ := rtv
        have hta11 := A11.gg _ _ (g10 _ _ hta)
        obtain ⟨b1, hb1, c1, rfl, hc1⟩ := tall.get (tabL_at (W := W) (num := num) (show s < M + 1 by omega))
        obtain ⟨b2, hb2, c2, rfl, hc2⟩ := tall.get (tabL_at (W := W) (num := num) (show s + 1 < M + 1 by omega))
        have hc1' := A11.gg _ _ (g10 _ _ hc1)
        have hc2' := A11.gg _ _ (g10 _ _ hc2)
        refine ⟨ca, rfl, ⟨_, SqL.of (S11.gh.at hca)⟩, for_list (K := K) (a := ca) (xs := (toI (crs W.rows)).map V.int) (fun m σ H' => ∃ (G' : Hp) (y11 : Option V), σ = [some av, some bv, some (.int (num : Int)), some (.int ((hgt A.rows B.rows : Int) + 1)), some (.int ((A.p : Int) * ((hgt A.rows B.rows : Int) + 1))), some (.ref tt), some (.ref fl), some (.int ((h : Int) + 1 + (i : Int))), some (.ref q), some (.int ((j : Nat) : Int)), some y, y11] ∧ Sit T G H G' H' ∧ Same G11 G' ∧ G' fl = none ∧ H' fl = some (.lst acc) ∧ G' q = none ∧ H' q = some (.lst ((facc A B num s j ++ twoL W.p W.rows num s ((crs W.rows).take m)).map V.int)))
          ⟨G11, y11, rfl, S11, Same.refl _, hG11, hfl11, hGq11, by rw [List.take_zero]; show _ = some (HO.lst ((facc A B num s j ++ []).map V.int)); rw [List.append_nil]; exact hq11⟩ (fun m σ H' _ ⟨_, _, _, S, g, _⟩ => SqL.of (S.gh.at (g _ _ hca))) ?_ ?_⟩
        · rintro m z σ H12 hz ⟨G12, y11, rfl, S12, g12, hG12, hfl12, hGq12, hq12⟩
          obtain ⟨c, hc, rfl⟩ : ∃ c, (crs W.rows)[m]? = some c ∧ z = .int (c : Int) := by
            unfold toI at hz
            rw [List.getElem?_map, List.getElem?_map] at hz
            cases q : (crs W.rows)[m]? with
            | none => rw [q] at hz; cases hz
            | some c => rw [q] at hz; exact ⟨c, rfl, (Option.some.inj hz).symm⟩
          obtain ⟨u, hu⟩ := mem_crs.mp (List.mem_of_getElem? hc)
          have hcl : c < W.rows.length := (List.getElem?_eq_some_iff.mp hu).1
          have htt := SqL.of (K := K) (S12.gh.at (g12 _ _ (gt11 _ _ k4)))
          have hta12 := SqL.of (K := K) (S12.gh.at (g12 _ _ hta11))
          have hd1 := SqL.of (K := K) (S12.gh.at (g12 _ _ hc1'))
          have hd2 := SqL.of (K := K) (S12.gh.at (g12 _ _ hc2'))
          have tl := twoL_len W.p W.rows num s ((crs W.rows).take m)
          have tk : ((crs W.rows).take m).length ≤ 3 := by
            rw [List.length_take]
            have := tw.cr
            omega
          refine ⟨_, rfl, .inl ⟨rfl, _, SqL.of hq12⟩, _, rfl, _, rfl, tt, _, _, _, rfl, rfl, htt, atI_nat htv, _, rfl, ta, _, _, _, rfl, rfl, hta12, at_of ei hb1, _, rfl, c1, _, _, _, rfl, rfl, hd1, atI_nat (ints_at (tabRow_at hcl)), ?_⟩
          refine ⟨_, rfl, _, rfl, tt, _, _, _, rfl, rfl, htt, atI_nat htv, _, rfl, _, _, rfl, rfl, ta, _, _, _, rfl, rfl, hta12, at_of (by rw [ei]; rfl) hb2, _, rfl, c2, _, _, _, rfl, rfl, hd2, atI_nat (ints_at (tabRow_at hcl)), sz2, fun e ne => ?_⟩
          obtain ⟨G13, A13, g13, k13⟩ := (Sit.refl (T := T) S12.gh).lst [.int (wt W.p W.rows num s c : Int), .int (wt W.p W.rows num (s + 1) c : Int)] ne
          obtain ⟨hG13, hfl13⟩ := A13.kept hG12 hfl12 trivial
          obtain ⟨hGq13, hq13⟩ := A13.kept hGq12 hq12 trivial
          have S13 := S12.trans A13
          refine ⟨q, e, _, _, rfl, rfl, hq13, S13.gh.at k13, small_le (by rw [List.length_map, List.length_append]; show _ + 2 ≤ _; omega), ?_⟩
          refine ⟨G13, _, rfl, S13.mut nq0 hGq13 hq13 trivial, g12.trans g13, hG13, by rw [upd_ne (fun z => hqfl z.symm)]; exact hfl13, hGq13, ?_⟩
          rw [upd_same, take_succ_at hc, twoL_snoc, ← List.append_assoc, List.map_append (l₁ := facc A B num s j ++ twoL W.p W.rows num s ((crs W.rows).take m))]
          rfl
        · rintro σ H12 ⟨G12, y11, rfl, S12, g12, hG12, hfl12, hGq12, hq12⟩
          refine ⟨G12, _, _, _, rfl, S12, (g9.trans g10).trans (A11.gg.trans g12), hG12, hfl12, hGq12, ?_⟩
          rw [hq12, List.length_map, toI_len, List.take_length, ← tw.nx]
          rfl
      · rintro σ H9 ⟨G9, y9, y10, y11, rfl, S9, g9, hG9, hfl9, hGq9, hq9⟩
        have acl := facc_len (num := num) (s := s) pp 2
        refine ⟨_, rfl, .inl ⟨rfl, _, SqL.of hfl9⟩, _, rfl, _, rfl, sz2, fun e ne => ?_⟩
        obtain ⟨G10, A10, g10, k10⟩ := (Sit.refl (T := T) S9.gh).lst [.int ((h : Int) + 1 + (i : Int)), .int 1] ne
        obtain ⟨hG10, hfl10⟩ := A10.kept hG9 hfl9 trivial
        obtain ⟨hGq10, hq10⟩ := A10.kept hGq9 hq9 trivial
        have S10 := S9.trans A10
        refine ⟨q, e, _, _, rfl, rfl, hq10, S10.gh.at k10, small_le (by rw [List.length_map]; show (facc A B num s 2).length + 2 ≤ _; omega), fun r nr => ?_⟩
        obtain ⟨G11, A11, g11, k11⟩ := (Sit.refl (T := T) S10.gh).lst ((facc A B num s 2).map V.int ++ [.int ((h : Int) + 1 + (i : Int)), .int 1]) nr
        obtain ⟨hG11, hfl11⟩ := A11.kept hG10 hfl10 trivial
        have S11 := S10.trans A11
        refine ⟨fl, _, _, rfl, rfl, hfl11, small_line (by omega), ?_⟩
        have gg : Same G6 G11 := g8.trans ((g9.trans g10).trans g11)
        refine ⟨G11, acc ++ [.ref r], _, _, _, _, _, rfl, S11.mut nfl0 hG11 hfl11 trivial, g6.trans gg, hG11, upd_same, ?_⟩
        unfold firstL
        rw [List.range_succ, List.map_append]
        refine (hall.up gg).snoc ⟨r, rfl, ?_⟩
        dsimp only
        rw [k11, ei, ← eh, ← es]
        unfold tail
        rw [List.map_append]
        rfl
    · rintro σ H6 ⟨G6, acc, y7, y8, y9, y10, y11, rfl, S6, g6, hG6, hfl6, hall⟩
      refine ⟨_, rfl, k _ _ _ (S6.own nfl0 hG6 hfl6 trivial) nfl0 ⟨fl, acc, rfl, upd_same, ?_⟩⟩
      have en : ((M : Int) - ((h : Int) + 1)).toNat = A.p * (hgt A.rows B.rows + 1) - (hgt A.rows B.rows + 1) := by
        rw [← eh, ← eM]
        omega
      rw [en] at hall
      exact hall.up (same_new hG6)
end Mw

set_option Elab.async false
set_option linter.all false
set_option maxRecDepth 100000
set_option maxHeartbeats 4000003
namespace Mw
open PySem.Spec PyProof.Rows L2 LamX PySem
/-! ### lambda row: row[-2] -/
abbrev lP (pa : Pos) : Arguments := { posonlyargs := [], args := [{ arg := "row", annotation := none, pos := pa }], vararg := none, kwonlyargs := [], kw_defaults := [], kwarg := none, defaults := [] }
abbrev lB (p1 p2 p3 p4 : Pos) : Expr := .Subscript (.Name "row" p1) (.UnaryOp .USub (.Constant (.int 2) 0 p2) p3) p4
abbrev lS : Scope := { kind := .function, names := [("row", .local)], isGenerator := false, isCoroutine := false, more := [] }
abbrev lO (q : Str) (pa p1 p2 p3 p4 : Pos) (pm : Value) (c' : Addr) (ctv : Value) : Obj := PySem.W.kla_obj "<lambda>" q (lP pa) (lB p1 p2 p3 p4) lS [] pm c' ctv
section
variable {prog : Program} {w : World} {A : Around} {s : Shared} {f c' r : Addr} {q : Str} {pm ctv : Value} {pa p1 p2 p3 p4 : Pos} {its : Array Value} {k : Int} {t : Tok} {Q E : Value → Shared → Prop}
theorem lam_two (hd : A.depth < recursionLimit) (lim : s.heap.NoLimit) (ho : s.heap.get? f = some (lO q pa p1 p2 p3 p4 pm c' ctv)) (hco : ∃ (oc : Obj) (vs : Array Value) (t : Tok), s.heap.get? c' = some oc ∧ oc.data = .fields vs ∧ vs[1]? = some (.str q t))
    (hr : s.heap.IsList r its) (h2 : 2 ≤ its.size) (hz : its.size ≤ sizeLine) (hk : its[its.size - 2]? = some (.int k t)) (h : ∀ h' tk, (∀ b o, s.heap.get? b = some o → h'.get? b = some o) → Q (.int k t) { s with heap := h', toks := tk }) :
    wpAny (model prog w) A (call (.ref f) [.ref r]) Q E s := by
  have hn := line63
  obtain ⟨R, hR⟩ : ∃ R : Result → Shared → Prop, R = fun x s' => x = .ok (.ret (.int k t)) ∧ ∃ h' tk, s' = { s with heap := h', toks := tk } ∧ ∀ b o, s.heap.get? b = some o → h'.get? b = some o := ⟨_, rfl⟩
  have fin : ∀ h' tk, (∀ b o, s.heap.get? b = some o → h'.get? b = some o) → R (.ok (.ret (.int k t))) { s with heap := h', toks := tk } := fun h' tk kp => by
    rw [hR]
    exact ⟨rfl, h', tk, rfl, kp⟩
  have rc : codeAny (model prog w) A (.call (.ref f) ⟨[.ref r], []⟩) R s := by
    obtain ⟨oc, vs, tq, hoc, hdc, hvc⟩ := hco
    refine PySem.W.kla_callFunE hd ho rfl rfl rfl rfl ⟨c', oc, vs, tq, rfl, hoc, hdc, hvc⟩ ?_
    have hb : bindArgs (PySem.W.kla_fn "<lambda>" q (lP pa) (lB p1 p2 p3 p4) lS [] pm (.ref c') ctv) ⟨[.ref r], []⟩ = pure [(("row" : Str), Value.ref r)] := by rfl
    rw [hb]
    have nc : ∀ x ∈ lS.names, x.2 ≠ .cell := by decide
    refine wpAny_pure (wpAny_newFunctionEnv nc (fun y hy => by rw [List.mem_singleton.mp hy]; rfl) (fun h₁ hns hsb => ⟨lim.fresh _ hsb, ?_⟩) rfl)
    (have kp : ∀ b o, s.heap.get? b = some o → h₁.get? b = some o := fun b o e => hsb.extBut b o (Nat.ne_of_lt (Heap.lt_size e)) (Heap.get?_push_of_some _ e))
    refine PySem.W.kla_codeExpr ?_
    have hr1 : h₁.IsList r its := hr.at fun o e => kp r o e
    refine Subscript_ (wpAny_Name (wpAny_loadName_local rfl rfl hns (show (([(("row" : Str), Value.ref r)] : List (Str × Value)).reverse.lookup ("row" : Str)) = some (.ref r) from rfl) ?_) (by decide))
    refine UnaryOp_ (wpAny_Constant_int (neg_int ?_))
    have e : ((-2 : Int) + (its.size : Int)).toNat = its.size - 2 := by omega
    have hk' : its[((-2 : Int) + (its.size : Int)).toNat]? = some (.int k t) := by
      rw [e]
      exact hk
    exact subscriptTail_builtinR (x := .int k t) (PySem.Heap.IsList.typeIs (s := { s with heap := h₁, toks := _ }) hr1) slot_list_getitem.lookup (wpAny_getItem_list_neg (k := -2) (Q := fun v s' => v = .int k t ∧ R (.ok (.ret v)) s') hr1 (by decide) (by omega) (by decide) hk' ⟨rfl, fin _ _ kp⟩) rfl
  refine wpAny_call (codeAny_mono rc fun x s' hx => ?_)
  rw [hR] at hx
  obtain ⟨e, h', tk, e2, kp⟩ := hx
  subst e e2
  exact h h' tk kp
end
section
variable {X : Cx} {pins : List (Addr × Obj)} {σ : L2.St} {s : Shared} {H : Hp}
theorem lam_made {T : List (Addr × Str)} {c P : Addr} {params : Arguments} {body : Expr} {scope : Scope} {pos : Pos} {E : Value → Shared → Prop} {Q : Value → Shared → Prop} (Jv : Inv X pins σ H s) (TBb : TabB X.base X.mg c P) (hcod : X.env.code = .ref c)
    (hm : (P, X.env.qual ++ "<lambda>") ∈ T) (hu : ∀ pq ∈ T, pq.1 = P → pq.2 = X.env.qual ++ "<lambda>") (hTb : Tabs T H) (hdfl : defaultsOf params X.env = ([], [])) (hfree : ∀ y ∈ scope.names, y.2 = .free → ∃ c, X.env.cells.lookup y.1 = some c)
    (h : ∀ (f cc : Addr) (pm ctv : Value) (H1 : Hp) (s' : Shared), Inv X pins σ H1 s' → ExtN H H1 → (∀ a, H1 a = none → H a = none) → s.heap.objs.size ≤ f → Tabs T H1 →
      s'.heap.get? f = some (PySem.W.kla_obj "<lambda>" (X.env.qual ++ "<lambda>") params body scope (cloFrom X.env.cells scope.names []) pm cc ctv) → H1 f = none → f ∉ frs X.stack → H1 cc = some (CodeO cc (X.env.qual ++ "<lambda>")) → Q (.ref f) s') : wpAny (model X.prog X.w) X.A (eval (.Lambda params body scope pos) X.env) Q E s := by
  obtain ⟨pz, hPt, ht, ha⟩ := hTb _ hm
  refine PySem.W.kla_eval hdfl ?_
  have bPt : s.heap.BuiltinsAt X.mg P := TBb.bm.keeps Jv.bk
  have hPq : s.heap.get? P = some { cls := .none, data := .fields pz } := Jv.hok P _ hPt
  have nofs : ∀ f, s.heap.objs.size ≤ f → f ∉ frs X.stack := fun f hff z => by
    rcases List.mem_cons.mp (Jv.stkSub _ z) with e | e
    · have h1 := Jv.lt
      rw [← e] at h1
      exact Nat.lt_irrefl _ (Nat.lt_of_lt_of_le h1 hff)
    · exact Jv.nofs hff e
  cases hcd : codeAmong pos pz.toList with
  | none =>
    refine PySem.W.kla_makeFunction (mg := X.mg) (c := c) (P := P) (ps := pz) (closure_ok hfree) Jv.ok.glob (Jv.mod.glob.keeps Jv.bk) hcod (TBb.code.keeps Jv.bk) hPq ht hcd TBb.gP bPt fun cc ctv hv tkk hxx hgq hlt hrec htb => ?_
    obtain ⟨c2, oc, vs, t, e2, hoc, hdt, hvt⟩ := hrec
    cases e2
    have hszz : s.heap.objs.size ≤ hv.objs.size := Nat.le_trans hgq (Nat.le_of_lt hlt)
    have nCc : H cc = none := Jv.hok.fresh hgq
    have Jv1 := inv_table (t' := tkk) (more := #[rawInt pos.line, rawInt pos.col, .ref cc]) (h' := hv.push (PySem.W.kla_obj "<lambda>" (X.env.qual ++ "<lambda>") params body scope (cloFrom X.env.cells scope.names []) ((X.mg "__name__").getD .none) cc ctv)) Jv hPt
      (fun b o hb e => Heap.get?_push_of_some _ (hxx b o hb e)) (Heap.get?_push_of_some _ htb) hgq ⟨oc, vs, t, Heap.get?_push_of_some _ hoc, hdt, hvt⟩
    have hEx : ExtN H (upd (upd H P (.tbl (pz ++ #[rawInt pos.line, rawInt pos.col, .ref cc]))) cc (CodeO cc (X.env.qual ++ "<lambda>"))) := fun b o e n => by
      rw [upd_ne (ne_of_none e nCc), upd_ne (fun z => n pz (Option.some.inj (e.symm.trans (by rw [z]; exact hPt))))]
      exact e
    have eLs : (pz ++ #[rawInt pos.line, rawInt pos.col, .ref cc]).toList = pz.toList ++ [rawInt pos.line, rawInt pos.col, .ref cc] := by simp
    have hdn : ∀ a, upd (upd H P (.tbl (pz ++ #[rawInt pos.line, rawInt pos.col, .ref cc]))) cc (CodeO cc (X.env.qual ++ "<lambda>")) a = none → H a = none := fun a hn => by
      by_cases z1 : a = cc
      · rw [z1, upd_same] at hn
        cases hn
      · rw [upd_ne z1] at hn
        by_cases z2 : a = P
        · rw [z2, upd_same] at hn
          cases hn
        · rw [upd_ne z2] at hn
          exact hn
    refine h hv.objs.size cc ((X.mg "__name__").getD .none) ctv _ _ Jv1 hEx hdn hszz (fun pq hpm => ?_) (Heap.get?_push_size _ rfl) ?_ (nofs _ hszz) upd_same
    · by_cases hb : pq.1 = P
      · rw [hu pq hpm hb, hb]
        refine ⟨_, by rw [upd_ne (ne_of_none hPt nCc), upd_same], by rw [eLs]; exact PySem.TriplesOk_snoc _ _ _ _ ht, fun pp2 cvv hcvv => ?_⟩
        rw [eLs] at hcvv
        rcases among_app _ ht hcvv with z | z
        · obtain ⟨c0, e1, e2⟩ := ha pp2 cvv z
          exact ⟨c0, e1, hEx _ _ e2 codeO_ne⟩
        · exact ⟨cc, z, upd_same⟩
      · obtain ⟨ps', a1, a2, a3⟩ := hTb pq hpm
        refine ⟨ps', by rw [upd_ne (ne_of_none a1 nCc), upd_ne hb]; exact a1, a2, fun pp2 cvv hcvv => ?_⟩
        obtain ⟨c0, e1, e2⟩ := a3 pp2 cvv hcvv
        exact ⟨c0, e1, hEx _ _ e2 codeO_ne⟩
    · have n1 : hv.objs.size ≠ cc := Nat.ne_of_gt hlt
      have n2 : hv.objs.size ≠ P := Nat.ne_of_gt (Nat.lt_of_lt_of_le (Heap.lt_size hPq) hszz)
      rw [upd_ne n1, upd_ne n2]
      exact Jv.hok.fresh hszz
  | some cvv =>
    obtain ⟨cc, e, hco⟩ := ha pos cvv hcd
    subst e
    refine PySem.W.kla_makeFunctionHit (mg := X.mg) (c := c) (P := P) (ps := pz) (closure_ok hfree) Jv.ok.glob (Jv.mod.glob.keeps Jv.bk) hcod (TBb.code.keeps Jv.bk) hPq ht hcd bPt fun ctv hv tkk hxx hszz => ?_
    have Jv1 : Inv X pins σ H { s with heap := hv.push (PySem.W.kla_obj "<lambda>" (X.env.qual ++ "<lambda>") params body scope (cloFrom X.env.cells scope.names []) ((X.mg "__name__").getD .none) cc ctv), toks := tkk } := Jv.kept fun b o e => Heap.get?_push_of_some _ (hxx b o e)
    exact h hv.objs.size cc ((X.mg "__name__").getD .none) ctv H _ Jv1 (ExtN.refl H) (fun _ hn => hn) hszz hTb (Heap.get?_push_size _ rfl) (Jv.hok.fresh hszz) (nofs _ hszz) hco
end

/-- an object of ours that is told whole -/
def ObjO (f : Addr) (o : Obj) : HO := .ext fun h => h.get? f = some o
theorem objO_ne {f : Addr} {o : Obj} (ps : Array Value) : ObjO f o ≠ .tbl ps := fun z => by
  unfold ObjO at z
  cases z
theorem inv_told {X : Cx} {pins : List (Addr × Obj)} {σ : L2.St} {H H1 : Hp} {s s' : Shared} {f : Addr} {o : Obj} (I : Inv X pins σ H s) (I1 : Inv X pins σ H1 s') (hsf : s.heap.objs.size ≤ f) (hff : s'.heap.get? f = some o) (hfn : H1 f = none) : Inv X pins σ (upd H1 f (ObjO f o)) s' := by
  have lt : ∀ {b : Addr} {u : Obj}, s.heap.get? b = some u → b ≠ f := fun e => Nat.ne_of_lt (Nat.lt_of_lt_of_le (Heap.lt_size e) hsf)
  have lt0 : ∀ {b : Addr} {u : Obj}, X.s_0.heap.get? b = some u → b ≠ f := fun e => Nat.ne_of_lt (Nat.lt_of_lt_of_le (Heap.lt_size e) (Nat.le_trans I.sz hsf))
  have ne : ∀ {b : Addr} {u : HO}, H1 b = some u → b ≠ f := fun e z => by
    rw [z, hfn] at e
    cases e
  have hok : HOk X.prog X.w (upd H1 f (ObjO f o)) s'.heap := fun b u e => by
    by_cases z : b = f
    · rw [z, upd_same] at e
      cases e
      rw [z]
      exact ⟨hff, ⟨_, hff⟩, fun h1 h2 p st => st _ p⟩
    · rw [upd_ne z] at e
      refine (I1.hok b u e).stay (fun d v hd q => q) (fun d q => ?_) (fun d xs q => ?_)
      · rw [upd_ne (ne q)]
        exact q
      · rw [upd_ne (ne q)]
        exact q
  refine ⟨I1.ok, I1.os, I1.bare, ⟨I1.base.keep, I1.base.slot, fun b u e n hx => ?_, I1.base.there, fun b xs e => ?_, fun b u v e => ?_, fun b ps e => ?_⟩, I1.loc, I1.cell, ?_, fun x c e => ?_, fun p hp => ?_, hok, I1.len⟩
  · rw [upd_ne (lt0 e)]
    exact I1.base.free b u e n hx
  · have q := I1.base.tups b xs e
    rw [upd_ne (ne q)]
    exact q
  · have q := I1.base.frzs b u v e
    rw [upd_ne (ne q)]
    exact q
  · obtain ⟨more, q⟩ := I1.base.tbls b ps e
    exact ⟨more, by rw [upd_ne (ne q)]; exact q⟩
  · rw [upd_ne (Nat.ne_of_lt (Nat.lt_of_lt_of_le I.lt hsf))]
    exact I1.free
  · obtain ⟨v, oc, hc, _⟩ := I.cell x c e
    rw [upd_ne (lt hc)]
    exact I1.freeC x c e
  · obtain ⟨e, n, r⟩ := I1.pin p hp
    refine ⟨e, ?_, r⟩
    rw [upd_ne (lt (I.pin p hp).1)]
    exact n
def tLamb (T : List (Addr × Str)) (q : Str) (pa p1 p2 p3 p4 : Pos) : TE := fun _ H Q => Tabs T H ∧ ∀ (f c' : Addr) (pm ctv : Value) (H1 : Hp), ExtN H H1 → (∀ a, H1 a = none → H a = none) → Tabs T H1 → H1 f = none → H1 c' = some (CodeO c' q) → Q (.ref f) (upd H1 f (ObjO f (lO q pa p1 p2 p3 p4 pm c' ctv)))
theorem pe_lam {X : Cx} {T : List (Addr × Str)} {c P : Addr} {q : Str} {pa p1 p2 p3 p4 pos : Pos} (TB : TabB X.base X.mg c P) (hcode : X.env.code = .ref c) (hq : X.env.qual ++ "<lambda>" = q) (hm : (P, q) ∈ T) (hu : ∀ x ∈ T, x.1 = P → x.2 = q) : PE X (.Lambda (lP pa) (lB p1 p2 p3 p4) lS pos) (tLamb T q pa p1 p2 p3 p4) := by
  subst hq
  (refine ⟨fun pins s σ H Q I h => ?_⟩)
  obtain ⟨hT, h⟩ := h
  refine lam_made I TB hcode hm hu hT rfl (fun y hy hff => by rw [List.mem_singleton.mp hy] at hff; cases hff) fun f c' pm ctv H1 s' I1 eN hdn hsf T1 hff hfn _ hco => ?_
  refine ⟨.ref f, upd H1 f (ObjO f (lO (X.env.qual ++ "<lambda>") pa p1 p2 p3 p4 pm c' ctv)), ?_, rfl, h f c' pm ctv H1 eN hdn T1 hfn hco⟩
  exact inv_told I I1 hsf hff hfn
end Mw

set_option Elab.async false
set_option linter.all false
set_option maxRecDepth 100000
set_option maxHeartbeats 4000003
namespace Mw
open PySem.Spec PyProof.Rows L2 LamX PySem
/-! ### sorted(.., key=lambda row: row[-2]) -/
theorem ok_has {P : Program} {w : World} {H : Hp} {h : Heap} {a : Addr} {o : HO} (x : ObjOk P w H h a o) : ∃ u, h.get? a = some u := by
  cases o with
  | lst xs =>
    obtain ⟨_, _, _, _, e⟩ := x
    exact ⟨_, e⟩
  | tup xs =>
    obtain ⟨_, _, _, o, e, _⟩ := x
    exact ⟨_, e⟩
  | dK kvs =>
    obtain ⟨_, _, _, _, o, _, _, e, _⟩ := x
    exact ⟨_, e⟩
  | dT kvs =>
    obtain ⟨_, _, _, _, o, _, _, e, _⟩ := x
    exact ⟨_, e⟩
  | set S n =>
    obtain ⟨o, _, _, _, e, _⟩ := x
    exact ⟨_, e⟩
  | ins C dx fs =>
    obtain ⟨_, _, _, e, _⟩ := x
    exact ⟨_, e⟩
  | own y =>
    obtain ⟨_, e⟩ := x
    exact ⟨_, e⟩
  | xd fs =>
    obtain ⟨_, ⟨_, _, _, e, _⟩, _⟩ := x
    exact ⟨_, e⟩
  | rng lo hi =>
    obtain ⟨_, _, _, e⟩ := x
    exact ⟨_, e⟩
  | frz ob u =>
    obtain ⟨e, _⟩ := x
    exact ⟨_, e⟩
  | tbl ps => exact ⟨_, (show h.get? a = some _ from x)⟩
  | met f y => exact ⟨_, (show h.get? a = some _ from x)⟩
  | ext φ =>
    obtain ⟨_, ⟨_, e⟩, _⟩ := x
    exact ⟨_, e⟩
def toV : Value → V
  | .ref a => .ref a
  | _ => .non
theorem vals_refs : ∀ {us : List V} {its : List Value}, Vals us its → (∀ u ∈ us, ∃ r, u = V.ref r) → us = its.map toV ∧ ∀ x ∈ its, ∃ r, x = Value.ref r
  | [], _, h, _ => by
    cases h
    exact ⟨rfl, fun x hx => absurd hx (by simp)⟩
  | u :: us, _, h, hr => by
    cases h with
    | cons r rr =>
      obtain ⟨e1, e2⟩ := vals_refs rr fun v hv => hr v (List.mem_cons_of_mem _ hv)
      obtain ⟨a, e⟩ := hr u List.mem_cons_self
      subst e
      cases r
      refine ⟨by rw [List.map_cons, ← e1]; rfl, fun x hx => ?_⟩
      (rcases List.mem_cons.mp hx with e | hx)
      · exact ⟨a, e⟩
      · exact e2 x hx
theorem vals_of_refs : ∀ {l : List Value}, (∀ x ∈ l, ∃ r, x = Value.ref r) → Vals (l.map toV) l
  | [], _ => .nil
  | x :: l, h => by
    obtain ⟨r, e⟩ := h x List.mem_cons_self
    subst e
    exact .cons rfl (vals_of_refs fun y hy => h y (List.mem_cons_of_mem _ hy))
/-- us in the order of their keys -/
def SortedBy (kz : List Int) (us us' : List V) : Prop := ∃ ps : List (Int × V), ps.Perm (kz.zip us) ∧ us' = ps.map Prod.snd ∧ ps.Pairwise fun p q => p.1 ≤ q.1
def rSortLam (q : Str) (pa p1 p2 p3 p4 : Pos) : List V → List V → Hp → VK → Prop := fun xs zs H Q => ∃ (a : Addr) (us : List V) (kz : List Int) (f c' : Addr) (pm ctv : Value), xs = [.ref a] ∧ zs = [.ref f] ∧ H a = some (.lst us) ∧ kz.length = us.length ∧ us.length < 64 ∧
  (∀ (i : Nat) (u : V) (k : Int), us[i]? = some u → kz[i]? = some k → ∃ r row, u = .ref r ∧ H r = some (.lst row) ∧ 2 ≤ row.length ∧ row[row.length - 2]? = some (.int k)) ∧ H f = some (ObjO f (lO q pa p1 p2 p3 p4 pm c' ctv)) ∧ H c' = some (CodeO c' q) ∧ ∀ D us', H D = none → SortedBy kz us us' → Q (.ref D) (upd H D (.lst us'))
theorem cr_sortedLam {X : Cx} {q : Str} {pa p1 p2 p3 p4 : Pos} (hd : X.A.depth < recursionLimit) : CallRK X (.builtin "sorted") [Str.ofString "key"] (rSortLam q pa p1 p2 p3 p4) := by
  intro pins s σ H xs zs us0 ws Q I r1 r2 h
  obtain ⟨a, us, kz, f, c', pm, ctv, rfl, rfl, hp, hlen, h64, hrow, hf, hc, fin⟩ := h
  cases r1 with
  | cons r rr =>
    cases rr
    cases r
    cases r2 with
    | cons r rr =>
      cases rr
      cases r
      obtain ⟨its, n, rv, ho, hz⟩ := I.lst hp
      obtain ⟨m, F⟩ := I.fr
      have hvl := rv.length
      have neL : ∀ {b : Addr} {u : HO}, H b = some u → b ≠ X.env.locals := fun e z => by
        rw [z, I.free] at e
        cases e
      have kpt : ∀ (h : Heap) (own : List (Addr × Obj)), Fr X.base X.env.locals h m → News X.base X.env.locals h (allNews X.base s.heap X.env.locals ++ own) → ∀ b o, b ≠ X.env.locals → s.heap.get? b = some o → h.get? b = some o := fun h own F' N' b o hb e => by
        cases qb : X.base.get? b with
        | some u =>
          have := I.bk b u qb
          rw [e] at this
          cases this
          exact F'.keep b _ qb
        | none => exact (N' (b, o) (List.mem_append_left _ (mem_allNews hb qb e))).1
      have hrefs : ∀ u ∈ us, ∃ r, u = V.ref r := fun u hu => by
        obtain ⟨i, hi, e⟩ := List.getElem_of_mem hu
        obtain ⟨r, _, e2, _⟩ := hrow i u (kz[i]'(by omega)) (by rw [List.getElem?_eq_getElem hi, e]) (List.getElem?_eq_getElem _)
        exact ⟨r, e2⟩
      obtain ⟨eus, hits⟩ := vals_refs rv hrefs
      have hl : s.heap.IsList a its.toArray := ⟨_, ho, rfl, n, rfl⟩
      refine ksk_sorted (h₀ := X.base) (L := X.env.locals) (m := m) (news := allNews X.base s.heap X.env.locals) (b := false) (vs := its) (kz := kz) F news_all hl (by omega) (by omega) (ksk_s1 _ _) (fun x => ksk_l1 _ _) (fun x => ksk_t1 _ _) (fun i v k hv hk h tk own F' N' => ?_) fun D h' tk out c F' N' hD hout => ?_
      · have kp := kpt h own F' N'
        obtain ⟨u, hu⟩ : ∃ u, us[i]? = some u := by
          have := (List.getElem?_eq_some_iff.mp hv).1
          exact ⟨us[i]'(by omega), List.getElem?_eq_getElem _⟩
        obtain ⟨r, row, e, hr, h2, hk2⟩ := hrow i u k hu hk
        subst e
        have ev : v = Value.ref r := by
          obtain ⟨x, hx, rx⟩ := rv.get hu
          rw [hv] at hx
          cases hx
          exact rx
        subst ev
        obtain ⟨rts, n2, rrow, hor, hzr⟩ := I.lst hr
        have hrl := rrow.length
        obtain ⟨kv, hkv, rk⟩ := rrow.get hk2
        obtain ⟨t, rfl⟩ := rk
        obtain ⟨⟨oc, ovs, ot, hoc, hdc, hvc⟩, _, _⟩ := I.hok c' _ hc
        have hof : s.heap.get? f = some (lO q pa p1 p2 p3 p4 pm c' ctv) := (I.hok f _ hf).1
        have hrL : s.heap.IsList r rts.toArray := ⟨_, hor, rfl, n2, rfl⟩
        refine lam_two (s := { s with heap := h, toks := tk }) (its := rts.toArray) (k := k) (t := t) hd (I.mod.nolimit.keeps F'.keep) (kp _ _ (neL hf) hof) ⟨oc, ovs, ot, kp _ _ (neL hc) hoc, hdc, hvc⟩ (hrL.at fun o e => kp _ _ (neL hr) e) (by rw [List.size_toArray]; omega) (by rw [List.size_toArray]; omega) ?_ fun h2 tk2 kp2 => ?_
        · rw [List.size_toArray, ← hrl]
          simpa using hkv
        · exact KskEnd.intro (news' := allNews X.base s.heap X.env.locals ++ own) ⟨F'.ns.keeps kp2, fun b o e => kp2 _ _ (F'.keep b o e), F'.above⟩ (fun p hp => ⟨kp2 _ _ (N' p hp).1, (N' p hp).2⟩) (fun p hp => hp)
      · have kp := kpt h' [] F' (fun p hp => by
          rw [List.append_nil] at hp
          exact N' p (List.mem_cons_of_mem _ hp))
        obtain ⟨oD, DL, bD⟩ := N' (D, seqObj "list" out c) List.mem_cons_self
        have nD : s.heap.get? D = none := by
          cases e : s.heap.get? D with
          | none => rfl
          | some u => exact absurd (hD (D, u) (mem_allNews DL bD e)) (Nat.lt_irrefl _)
        have lt : ∀ {b : Addr} {u : Obj}, s.heap.get? b = some u → b ≠ D := fun e z => by
          rw [z, nD] at e
          cases e
        have HD : H D = none := by
          cases e : H D with
          | none => rfl
          | some u =>
            obtain ⟨o, eo⟩ := ok_has (I.hok D u e)
            rw [nD] at eo
            cases eo
        have neD : ∀ {b : Addr} {u : HO}, H b = some u → b ≠ D := fun e z => by
          rw [z, HD] at e
          cases e
        obtain ⟨ps, hperm, eout, hpw⟩ := hout
        have houtr : ∀ x ∈ out.toList, ∃ r, x = Value.ref r := fun x hx => by
          rw [eout] at hx
          obtain ⟨y, hy, e⟩ := List.mem_map.mp hx
          rw [← e]
          exact hits _ (List.of_mem_zip (hperm.mem_iff.mp hy)).2
        have eol : out.toList.length = us.length := by
          rw [eout, List.length_map, hperm.length_eq, List.length_zip]
          omega
        have hok : HOk X.prog X.w (upd H D (.lst (out.toList.map toV))) h' := fun b u e => by
          by_cases z : b = D
          · rw [z, upd_same] at e
            cases e
            rw [z]
            exact ⟨by rw [List.length_map, eol]; exact small_le (by omega), out.toList, c, vals_of_refs houtr, by rw [Array.toArray_toList]; exact oD⟩
          · rw [upd_ne z] at e
            refine (I.hok b u e).stay (fun d v hd q => kp d v ?_ q) (fun d q => ?_) (fun d xs q => ?_)
            · rcases hd with hd | hd
              · rw [hd]
                exact neL e
              · exact neL hd
            · rw [upd_ne (neD q)]
              exact q
            · rw [upd_ne (neD q)]
              exact q
        refine ⟨.ref D, upd H D (.lst (out.toList.map toV)), I.step (g' := s.gens) (d' := s.drawn) (ch := []) (fun b hb => absurd hb (by simp)) (fun b o hb _ _ e _ => kp b o hb e) (fun b o hb _ _ e _ => ⟨o.slots, kp b o hb e⟩) (fun b o _ e nn => by rw [upd_ne (lt e)]; exact nn) (fun b o _ e => ?_) (fun b xs e => by rw [upd_ne (neD e)]; exact e) (fun b o u e => by rw [upd_ne (neD e)]; exact e) (fun b qs e => ⟨#[], by rw [upd_ne (neD e), e]; simp⟩) (fun m' hm => ?_) hok I.bare, rfl, fin D _ HD ?_⟩
        · by_cases hb : b = X.env.locals
          · obtain ⟨oL, _, _, hoL, _⟩ := F'.ns
            rw [hb]
            exact ⟨oL, hoL⟩
          · exact ⟨o, kp b o hb e⟩
        · rw [hm.eq_nsMap, ← F.ns.eq_nsMap]
          exact F'.ns
        · refine ⟨ps.map fun x => (x.1, toV x.2), ?_, ?_, ?_⟩
          · have e : kz.zip us = (kz.zip its).map fun x => (x.1, toV x.2) := by
              rw [eus, List.zip_map_right]
              rfl
            rw [e]
            exact hperm.map _
          · rw [eout, List.map_map, List.map_map]
            rfl
          · rw [List.pairwise_map]
            exact hpw
/-- sorted(e, key=lambda row: row[-2]) -/
def tSortedBy (T : List (Addr × Str)) (q : Str) (pa p1 p2 p3 p4 : Pos) (ta : TA) : TE := tCKw (rSortLam q pa p1 p2 p3 p4) ta (tCons (tLamb T q pa p1 p2 p3 p4) tNil)
theorem pe_sortedBy {X : Cx} {T : List (Addr × Str)} {c P : Addr} {q : Str} {pa p1 p2 p3 p4 lpos kpos p pos : Pos} {e : Expr} {ta : TA} {k : Nat} (TB : TabB X.base X.mg c P) (hcode : X.env.code = .ref c) (hq : X.env.qual ++ "<lambda>" = q) (hm : (P, q) ∈ T) (hu : ∀ x ∈ T, x.1 = P → x.2 = q) (hr : Room k X.A)
    (hg : Gl X "sorted") (hmg : X.mg "sorted" = none) (ha : PA X [e] ta) (he : backTo pos (starEach [e] X.env) = (false, eval e X.env) :: backTo pos (starEach [] X.env) := by rfl) (hpl : (backTo pos (starEach [e] X.env)).any (·.1) = false := by rfl)
    (hall : (backToKw pos (keywordEach [⟨some "key", .Lambda (lP pa) (lB p1 p2 p3 p4) lS lpos, kpos⟩] X.env)).all (·.1.isSome) = true := by rfl) (hnone : (backToKw pos (keywordEach [⟨some "key", .Lambda (lP pa) (lB p1 p2 p3 p4) lS lpos, kpos⟩] X.env)).any (·.1.isNone) = false := by rfl)
    (hks : (backToKw pos (keywordEach [⟨some "key", .Lambda (lP pa) (lB p1 p2 p3 p4) lS lpos, kpos⟩] X.env)).filterMap (·.1) = [Str.ofString "key"] := by rfl) :
    PE X (.Call (.Name "sorted" p) [e] [⟨some "key", .Lambda (lP pa) (lB p1 p2 p3 p4) lS lpos, kpos⟩] pos) (tSortedBy T q pa p1 p2 p3 p4 ta) :=
  pe_callBK (cr_sortedLam hr.depth) hg hmg (by decide +kernel) ha (pk_cons (pe_lam TB hcode hq hm hu) pk_nil) (by decide) (by decide) he hpl hall hnone hks
end Mw

set_option Elab.async false
set_option linter.all false
set_option maxRecDepth 100000
set_option maxHeartbeats 4000003
namespace Mw
open PySem.Spec PyProof.Rows L2 LamX PySem
variable {P : Program} {w : World} {K : PySem.W.Frag} {mg : Str → Option Value} {base : Heap} {T : List (Addr × Str)} {C : Addr}
/-! ### a def with its code object known -/
structure FunC (K : PySem.W.Frag) (x qual : Str) (st : Stmt) (f : Addr) (fd : FuncData) (c : Addr) : Prop where
  ex : ∃ (oc : Value) (od : Option Addr) (kV doc pm : Value) (an : Option Addr) (ct : Value) (osl : Array (Option Value)),
    fd = PySem.W.fnOf x qual (defArgs st) (defBody st) (defScope st) .none kV doc pm an (.ref c) ct ∧ K.lookup f = some ⟨oc, od, .func fd, osl⟩ ∧ PySem.W.codeIn K (.ref c) qual = true
  keep_ : PySem.W.keepIn K (.ref f) = true
theorem FunC.fn {x qual : Str} {st : Stmt} {f : Addr} {fd : FuncData} {c : Addr} (F : FunC K x qual st f fd c) : Fun K x qual st f fd := by
  obtain ⟨oc, od, kV, doc, pm, an, ct, osl, h⟩ := F.ex
  exact ⟨⟨oc, od, kV, doc, pm, an, .ref c, ct, osl, h⟩, F.keep_⟩
theorem FunC.ok {x qual : Str} {st : Stmt} {f : Addr} {fd : FuncData} {c : Addr} {N ps : List Str} {k : Nat} {sp : L2.Sp} (F : FunC K x qual st f fd c) (S : FnScope N ps (defScope st)) (len : ∀ vs H Q E, sp vs H Q E → vs.length = ps.length)
    (hbody : ∀ (A : Around) (outer : List Env) (s : Shared) (H : Hp) (vs : List V) (Q : VK) (E : XK), Room k (A.deeper (envOfC qual (defScope st) s.heap.objs.size f (.ref c))) → sp vs H Q E →
      ∃ t, PSs (cxOf CX0 P w K mg base N qual (defScope st) f (.ref c) A outer s H E).nox (defBody st) t ∧ t { nx := fun _ H' => Q .non H', rt := Q } (L2.start N vs) H) : FnOk P w K mg base CX0 (k + 1) f fd ps sp := by
  obtain ⟨oc, od, kV, doc, pm, an, ct, osl, e, lk, hcd⟩ := F.ex
  subst e
  (refine fn_of lk hcd S len fun A outer s H vs Q E hr hsp => ?_)
  obtain ⟨t, hb, q⟩ := hbody A outer s H vs Q E hr hsp
  exact ⟨t, hb.nox, q⟩
/-! ### more of cells -/
theorem Sit.hideN {G H G' H' : Hp} {a : Addr} (S : Sit T G H G' H') (hG : Sm G H) (h : H a = none) : Sit T G H (hide G' a) H' := by
  have hGa := hG.none h
  refine ⟨S.hh, S.hd, S.tb, fun b u e => ?_, fun b u e => ?_, fun b h1 h2 => ?_⟩
  · have ne : b ≠ a := fun z => by
      rw [z, hGa] at e
      cases e
    rw [hide_ne ne]
    exact S.gg b u e
  · by_cases z : b = a
    · rw [z, hide_at] at e
      cases e
    · rw [hide_ne z] at e
      exact S.gh b u e
  · by_cases z : b = a
    · rw [z]
      exact h
    · rw [hide_ne z] at h2
      exact S.nw b h1 h2
theorem Sit.lam {G H H1 : Hp} {f : Addr} {o : Obj} (s : Sm G H) (eN : ExtN H H1) (hdn : ∀ a, H1 a = none → H a = none) (T1 : Tabs T H1) (hf : H1 f = none) : Sit T G H G (upd H1 f (ObjO f o)) := by
  have up := same_new (o := ObjO f o) hf
  refine ⟨eN.trans (ExtN.of up), fun a h => ?_, fun _ => T1.ext up, Same.refl _, fun b u e => ⟨up _ _ (eN _ _ (s b u e).1 (s b u e).2), (s b u e).2⟩, fun a h1 h2 => absurd h1 h2⟩
  by_cases z : a = f
  · rw [z, upd_same] at h
    cases h
  · rw [upd_ne z] at h
    exact hdn a h
/-! ### the sizes in order -/
def tl (A B : Wk) (num s : Nat) : List Int := tail A.p A.rows B.rows num s
theorem sorted_sizes {A B : Wk} {num : Nat} {ws : List Nat} {us us' : List V} {G : Hp} (h : AllR IntsR (ws.map (tl A B num)) us G) (hs : SortedBy (toI ws) us us') : ∃ w2 : List Nat, w2.Perm ws ∧ w2.Pairwise (· ≤ ·) ∧ AllR IntsR (w2.map (tl A B num)) us' G := by
  obtain ⟨ps, hp, e, hw⟩ := hs
  have hl := h.len
  rw [List.length_map] at hl
  have each : ∀ x ∈ ps, ∃ s : Nat, x.1 = (s : Int) ∧ IntsR (tl A B num s) x.2 G := fun x hx => by
    have hz := hp.mem_iff.mp hx
    obtain ⟨j, hj, ej⟩ := List.getElem_of_mem hz
    rw [List.length_zip, toI_len] at hj
    have hj1 : j < ws.length := by omega
    rw [List.getElem_zip] at ej
    refine ⟨ws[j], ?_, ?_⟩
    · rw [← ej]
      unfold toI
      exact List.getElem_map ..
    · rw [← ej]
      exact h.at_ j _ _ (by rw [List.getElem?_map, List.getElem?_eq_getElem hj1]; rfl) (List.getElem?_eq_getElem (by omega))
  refine ⟨ps.map fun x => x.1.toNat, ?_, ?_, ?_⟩
  · have e2 : ((toI ws).zip us).map (fun x => x.1.toNat) = ws := by
      rw [show (fun x : Int × V => x.1.toNat) = Int.toNat ∘ Prod.fst from rfl, ← List.map_map, List.map_fst_zip (by rw [toI_len]; omega)]
      unfold toI
      rw [List.map_map]
      exact List.map_id'' (fun _ => rfl) _
    rw [← e2]
    exact hp.map _
  · rw [List.pairwise_map]
    refine List.Pairwise.imp_of_mem (fun {a b} ha hb hab => ?_) hw
    obtain ⟨s1, h1, _⟩ := each a ha
    obtain ⟨s2, h2, _⟩ := each b hb
    omega
  · rw [e]
    refine ⟨by rw [List.length_map, List.length_map, List.length_map], fun i x v e1 e2 => ?_⟩
    rw [List.getElem?_map] at e2
    rw [List.map_map, List.getElem?_map] at e1
    cases q : ps[i]? with
    | none =>
      rw [q] at e2
      cases e2
    | some y =>
      rw [q] at e1 e2
      obtain ⟨s, h1, h2⟩ := each y (List.mem_of_getElem? q)
      rw [← Option.some.inj e1, ← Option.some.inj e2]
      show IntsR (tl A B num y.1.toNat) y.2 G
      rw [h1]
      exact h2
theorem AllR.erase0 {α : Type} {R : Rel α} {x : α} {xs : List α} {vs : List V} {G : Hp} (h : AllR R (x :: xs) vs G) : ∃ v vs', vs = v :: vs' ∧ R x v G ∧ AllR R xs vs' G := by
  cases vs with
  | nil =>
    have := h.len
    cases this
  | cons v vs' => exact ⟨v, vs', rfl, h.drop1.1, h.drop1.2⟩
end Mw

set_option Elab.async false
set_option linter.all false
set_option maxRecDepth 100000
set_option maxHeartbeats 4000003
namespace Mw
open PySem.Spec PyProof.Rows L2 LamX PySem
variable {P : Program} {w : World} {K : PySem.W.Frag} {mg : Str → Option Value} {base : Heap} {T : List (Addr × Str)} {C : Addr}
/-! ### told_tails -/
theorem hide_all {rows : List (List Int)} {vs : List V} {G : Hp} {a : Addr} (h : AllR IntsR rows vs G) (ha : G a = some (.lst vs)) (ne : ∀ row ∈ rows, 0 < row.length) : AllR IntsR rows vs (hide G a) := by
  refine ⟨h.len, fun i x v e1 e2 => ?_⟩
  obtain ⟨r, ev, hr⟩ := h.at_ i x v e1 e2
  refine ⟨r, ev, ?_⟩
  rw [hide_ne (fun z => ?_)]
  · exact hr
  · rw [z, ha] at hr
    have e : vs = x.map V.int := by
      injection hr with hr
      injection hr
    have px := ne x (List.mem_of_getElem? e1)
    have hi := (List.getElem?_eq_some_iff.mp e2).1
    rw [e, List.getElem?_map] at e2
    rw [e, List.length_map] at hi
    rw [List.getElem?_eq_getElem hi] at e2
    rw [ev] at e2
    cases e2
theorem tl_len {A B : Wk} {num s : Nat} : (tl A B num s).length = 2 * (crs A.rows).length + 2 * (crs B.rows).length + 2 := tail_length
theorem tl_key {A B : Wk} {num s : Nat} : ((tl A B num s).map V.int)[((tl A B num s).map V.int).length - 2]? = some (.int (s : Int)) := by
  rw [List.length_map, tl_len]
  have e : 2 * (crs A.rows).length + 2 * (crs B.rows).length + 2 - 2 = 2 * (crs A.rows).length + 2 * (crs B.rows).length := by omega
  rw [e]
  exact ints_at tail_z.1
abbrev lamQ : Str := ("told_tails" : Str) ++ ".<locals>." ++ "<lambda>"
def spTold (T : List (Addr × Str)) (C : Addr) : L2.Sp := fun vs H Q _ => ∃ (G : Hp) (A B : Wk) (av bv : V) (num : Nat), vs = [av, bv, .int (num : Int)] ∧ Sm G H ∧ Tabs T H ∧ PairAt C A B av bv G ∧ ∀ Tt, Paper A.p A.rows B.rows num (hgt A.rows B.rows) Tt → Tt.length ≤ 12 → Ret T (LstR IntsR) (Tt.map (tl A B num)) G H Q
abbrev sToldTails : Stmt := topS 44
theorem scToldTails : FnScope ["one", "other", "number", "span", "found", "waiting", "places", "row"] ["one", "other", "number"] (defScope sToldTails) := ⟨rfl, rfl, rfl, by decide +kernel, rfl, by decide +kernel, by decide +kernel⟩
theorem okToldTails {f : Addr} {fd : FuncData} {c Pt : Addr} (Fn : FunC K "told_tails" "told_tails" sToldTails f fd c) (Tx : TxtM K mg C) (TB : TabB base mg c Pt) (hmT : (Pt, lamQ) ∈ T) (huT : ∀ x ∈ T, x.1 = Pt → x.2 = lamQ) (hFirstTails : Has P w K mg base "first_tails" ["one", "other", "number"] 5 (spFirst T C)) (hIsSum : Has P w K mg base "is_sum" ["span", "row"] 4 (spIsSum T)) (hWidened : Has P w K mg base "widened" ["span", "row"] 4 (spWidened T widen)) (hBehindTail : Has P w K mg base "behind_tail" ["one", "other", "places", "number"] 4 (spBehind T C)) : FnOk P w K mg base CX0 6 f fd ["one", "other", "number"] (spTold T C) := by
  refine Fn.ok scToldTails (fun vs H Q E h => ?_) (fun A outer s H vs Q E hr h => ?_)
  · obtain ⟨G, A, B, av, bv, num, rfl, _⟩ := h
    rfl
  · obtain ⟨G, A, B, av, bv, num, rfl, hG, hT, pr, k⟩ := h
    refine ⟨_, (pss_cons (ps_set (i := 3) scToldTails.nd rfl (by first | exact .inl rfl | exact .inr rfl) (pe_lst pa_nil))
      (pss_cons (ps_set (i := 4) scToldTails.nd rfl (by first | exact .inl rfl | exact .inr rfl) (pe_lst pa_nil))
      (pss_cons (ps_set (i := 5) scToldTails.nd rfl (by first | exact .inl rfl | exact .inr rfl) (pe_def hFirstTails hr (by decide) (by rfl) (pa_cons (pv 0) (pa_cons (pv 1) (pa_cons (pv 2) pa_nil)))))
      (pss_cons (ps_while PassesOwn.never (pt_cmpR op_gt (pe_callB (lenK K) (by rfl) Tx.len PySem.boot_len (pa_cons (pv 5) pa_nil)) pe_int (nomark _)) (pss_cons (ps_set (i := 6) scToldTails.nd rfl (by first | exact .inl rfl | exact .inr rfl) (bmK K PySem.F.plainAttrs_list PySem.F.slot_list_pop PySem.F.type_list_pop mt_popAt (pv 5) (pa_cons pe_int pa_nil)))
        (pss_one (ps_if (pt_not (pt_val (pe_def hIsSum hr (by decide) (by rfl) (pa_cons (pv 3) (pa_cons (pv 6) pa_nil))))) (pss_cons (ps_set (i := 3) scToldTails.nd rfl (by first | exact .inl rfl | exact .inr rfl) (pe_def hWidened hr (by decide) (by rfl) (pa_cons (pv 3) (pa_cons (pv 6) pa_nil))))
          (pss_cons (ps_expr (bmK K PySem.F.plainAttrs_list PySem.F.slot_list_append PySem.F.type_list_append mt_append (pv 4) (pa_cons (pv 6) pa_nil)))
          (pss_one (ps_set (i := 5) scToldTails.nd rfl (by first | exact .inl rfl | exact .inr rfl) (pe_sortedBy TB rfl rfl hmT huT hr (by rfl) Tx.sorted (pa_cons (pe_op op_cat (pv 5) (pe_def hBehindTail hr (by decide) (by rfl) (pa_cons (pv 0) (pa_cons (pv 1) (pa_cons (pv 6) (pa_cons (pv 2) pa_nil)))))) pa_nil)))))) pss_nil))))
      (pss_one (ps_ret (pv 4))))))), ?_⟩
    have pp := pr.p
    have p2 := pp.okA.p2
    have p3 := pp.okA.p3
    have gA := pp.okA.good
    have gB := pp.okB.good
    have lA := pp.lA
    have lB := pp.lB
    have cA := pp.cA
    have cB := pp.cB
    have hc : (crs A.rows).length + (crs B.rows).length ≤ 5 := by omega
    have hh := hgt_le gA gB
    have M1 : A.p * (hgt A.rows B.rows + 1) ≤ 3 * (hgt A.rows B.rows + 1) := Nat.mul_le_mul_right _ p3
    refine ⟨Nat.zero_le _, fun sp0 nsp => ?_⟩
    obtain ⟨G1, S1, g1, k1⟩ := (Sit.refl (T := T) hG).lst [] nsp
    refine ⟨Nat.zero_le _, fun fl nfl => ?_⟩
    have S2 := S1.lstc [] nfl
    have hGfl := S1.gh.none nfl
    have nfl0 : H fl = none := S1.fresh nfl
    refine ⟨_, rfl, _, rfl, _, rfl, G1, A, B, av, bv, num, rfl, S2.gh, pr.up g1, fun wl G3 H3 S3 nwl r3 => ?_⟩
    have nwl0 : H wl = none := S2.fresh nwl
    obtain ⟨_, wvs0, e, hw3, wall⟩ := r3
    cases e
    have hfw : fl ≠ wl := fun z => by
      rw [z] at hGfl
      rw [← z, upd_same] at nwl
      cases nwl
    obtain ⟨hG3, hfl3⟩ := S3.kept hGfl upd_same trivial
    have wh := S3.hideN S2.gh nwl
    have S4 := S2.trans wh
    have hGw3 : hide G3 wl wl = none := hide_at
    have hH3w := S3.gh.at hw3
    have hws : firstL A B num (A.p * (hgt A.rows B.rows + 1) - (hgt A.rows B.rows + 1)) = (List.range' (hgt A.rows B.rows + 1) (A.p * (hgt A.rows B.rows + 1) - (hgt A.rows B.rows + 1))).map (tl A B num) := by
      unfold firstL
      rw [List.range'_eq_map_range, List.map_map]
      rfl
    have start := hunt_start (A := A.rows) (B := B.rows) (num := num) (p := A.p) (h := hgt A.rows B.rows) (by omega) p3 hh
    refine ⟨fun m σ H' => ∃ (G' : Hp) (span : Span) (spv : V) (wl : Addr) (acc wvs : List V) (found waiting : List Nat) (y6 : Option V), σ = [some av, some bv, some (.int (num : Int)), some spv, some (.ref fl), some (.ref wl), y6, none] ∧ Sit T G H G' H' ∧ H wl = none ∧ fl ≠ wl ∧ G' fl = none ∧ H' fl = some (.lst acc) ∧ G' wl = none ∧ H' wl = some (.lst wvs) ∧ SpR span spv G' ∧ AllR IntsR (found.map (tl A B num)) acc G' ∧ AllR IntsR (waiting.map (tl A B num)) wvs G' ∧ Hunt A.p A.rows B.rows num (hgt A.rows B.rows) span found waiting ∧ waiting.length ≤ 10 + 2 * found.length ∧ m = hm (2 * (crs A.rows).length + 2 * (crs B.rows).length + 2) A.p span waiting,
      ⟨_, hide G3 wl, [], .ref sp0, wl, [], wvs0, [], List.range' (hgt A.rows B.rows + 1) (A.p * (hgt A.rows B.rows + 1) - (hgt A.rows B.rows + 1)), none, rfl, S4, nwl0, hfw, ?_, hfl3, hGw3, hH3w, ⟨sp0, [], rfl, ?_, AllR.nil⟩, AllR.nil, ?_, start, ?_, rfl⟩, ?_⟩
    · rw [hide_ne hfw]
      exact hG3
    · exact wh.gg _ _ k1
    · rw [hws] at wall
      refine hide_all wall hw3 fun row hrow => ?_
      obtain ⟨s, _, e⟩ := List.mem_map.mp hrow
      rw [← e, tl_len]
      omega
    · rw [List.length_range']
      omega
    · rintro m σ H5 ⟨G5, span, spv, wl, acc, wvs, found, waiting, y6, rfl, S5, nwl0, hfw, hGf, hf, hGw, hw, hsp, hacc, hwvs, hunt, hwl, rfl⟩
      have fdl := hunt.gs.length_le
      have fl2 := hunt.len
      have hal := hacc.len
      rw [List.length_map] at hal
      have hwvl := hwvs.len
      rw [List.length_map] at hwvl
      refine ⟨_, rfl, wl, wvs, rfl, .inl (SqL.of hw), _, _, rfl, rfl, _, rfl, ?_⟩
      cases waiting with
      | nil =>
        have e0 : wvs.length = 0 := by rw [hwvl]; rfl
        refine ite_no (by rw [e0]; decide) ⟨_, rfl, ?_⟩
        have paper := hunt_end p2 gA lA hgt_above_a gB lB hgt_above_b (by rw [pp.pp] at hunt ⊢; exact hunt)
        refine k found ?_ (by omega) _ _ _ (S5.own nfl0 hGf hf trivial) ⟨fl, acc, rfl, upd_same, hacc.up (same_new hGf)⟩
        exact paper
      | cons s waiting =>
        obtain ⟨pv, wvs', ew, rp, hwvs'⟩ := hwvs.erase0
        subst ew
        refine ite_yes (by show (0 : Int) < ((wvs'.length + 1 : Nat) : Int); omega) ?_
        refine ⟨fun σ' H' => ∃ m1, m1 < hm (2 * (crs A.rows).length + 2 * (crs B.rows).length + 2) A.p span (s :: waiting) ∧ _, fun σ' H' z => z, ?_⟩
        refine ⟨_, rfl, .inl ⟨rfl, _, SqL.of hw⟩, wl, _, 0, 0, pv, rfl, rfl, hw, by decide, by decide, (ixN_seq (ixN_of (n := (pv :: wvs').length) (j := 0) (Nat.succ_pos _))).1, rfl, ?_⟩
        have S6 := S5.mut (u := .lst wvs') nwl0 hGw hw trivial
        have hf6 : upd H5 wl (.lst wvs') fl = some (.lst acc) := by
          rw [upd_ne hfw]
          exact hf
        have hss := hunt.ws s List.mem_cons_self
        have hab := hunt.wa s List.mem_cons_self
        have run := (run_ok hunt.gs (by omega) (tail_length (num := num) (s := s)) hunt.bd (tail_wide p2 gA lA gB lB (by rw [fl2]; exact hss))).1
        have tln := tl_len (A := A) (B := B) (num := num) (s := s)
        refine ⟨_, rfl, _, rfl, G5, span, tl A B num s, spv, pv, rfl, S6.gh, hsp, rp, by omega, by omega, run, fun H7 A7 => ⟨_, rfl, ?_⟩⟩
        obtain ⟨_, hf7⟩ := A7.kept hGf hf6 trivial
        obtain ⟨_, hw7⟩ := A7.kept hGw upd_same trivial
        have S7 := S6.trans A7
        rw [List.length_cons] at hwl
        cases hfp : fp (restOf span (tl A B num s)) with
        | none =>
          have skip := hunt.skip ((hunt.gs.test (row := tl A B num s) tail_length).mp (fp_none.mp hfp))
          exact iteF' rfl ⟨_, hm_skip, G5, span, spv, wl, acc, wvs', found, waiting, _, rfl, S7, nwl0, hfw, hGf, hf7, hGw, hw7, hsp, hacc, hwvs', skip, by omega, rfl⟩
        | some q =>
          refine iteT' rfl ?_
          refine ⟨_, rfl, _, rfl, G5, span, tl A B num s, spv, pv, rfl, S7.gh, hsp, rp, by omega, by omega, run, fun v8 G8 H8 A8 r8 => ?_⟩
          obtain ⟨hGf8, hf8⟩ := A8.kept hGf hf7 trivial
          obtain ⟨hGw8, hw8⟩ := A8.kept hGw hw7 trivial
          have S8 := S7.trans A8
          have ewd : widen span (tl A B num s) = span ++ [(q, lowered (restOf span (tl A B num s)))] := by
            unfold widen
            rw [hfp]
          rw [ewd] at r8
          refine ⟨_, rfl, .inl ⟨rfl, _, SqL.of hf8⟩, _, rfl, fl, _, _, rfl, rfl, hf8, small_line (by omega), ?_⟩
          have S9 := S8.mut (u := .lst (acc ++ [pv])) nfl0 hGf8 hf8 trivial
          have hw9 : upd H8 fl (.lst (acc ++ [pv])) wl = some (.lst wvs') := by
            rw [upd_ne (fun z => hfw z.symm)]
            exact hw8
          have pr8 := pr.up S8.gg
          refine ⟨_, rfl, _, rfl, _, rfl, _, rfl, _, rfl, G8, A, B, av, bv, pv, s, num, rfl, S9.gh, pr8, Up.up (R := IntsR) A8.gg rp, hab, fun v10 G10 H10 A10 r10 => ?_⟩
          obtain ⟨ba, bvs, rfl, hba, ball⟩ := r10
          obtain ⟨hGf10, hf10⟩ := A10.kept hGf8 upd_same trivial
          obtain ⟨hGw10, hw10⟩ := A10.kept hGw8 hw9 trivial
          have S10 := S9.trans A10
          have ebt : tailsB A B num s = ((List.range A.p).map fun r => A.p * s + r).map (tl A B num) := by
            unfold tailsB
            rw [List.map_map]
            rfl
          rw [ebt] at ball
          have bl := ball.len
          rw [List.length_map, List.length_map, List.length_range] at bl
          have wl2 := hwvs'.len
          rw [List.length_map] at wl2
          refine ⟨wl, ba, _, _, rfl, rfl, hw10, S10.gh.at hba, small_le (by omega), fun ca nca => ?_⟩
          obtain ⟨G11, A11, g11, k11⟩ := (Sit.refl (T := T) S10.gh).lst (wvs' ++ bvs) nca
          obtain ⟨hGf11, hf11⟩ := A11.kept hGf10 hf10 trivial
          have S11 := S10.trans A11
          have both := ((hwvs'.up A8.gg).up A10.gg).app ball
          rw [← List.map_append] at both
          have both := both.up g11
          refine ⟨S11.tb hT, fun lf lc pm ctv H12 eN hdn T12 hlf hlc => ?_⟩
          have A12 := Sit.lam (T := T) (o := lO lamQ ⟨187, 91, 187, 94⟩ ⟨187, 96, 187, 99⟩ ⟨187, 101, 187, 102⟩ ⟨187, 100, 187, 102⟩ ⟨187, 96, 187, 103⟩ pm lc ctv) S11.gh eN hdn T12 hlf
          have S12 := S11.trans A12
          obtain ⟨hGf12, hf12⟩ := A12.kept hGf11 hf11 trivial
          have lcf : lc ≠ lf := fun z => by
            rw [z, hlf] at hlc
            cases hlc
          refine ⟨ca, wvs' ++ bvs, toI (waiting ++ (List.range A.p).map fun r => A.p * s + r), lf, lc, pm, ctv, rfl, rfl, S12.gh.at k11, ?_, ?_, fun i u kk e1 e2 => ?_, upd_same, by rw [upd_ne lcf]; exact hlc, fun D us' nD hs => ?_⟩
          · rw [toI_len, List.length_append, List.length_append, List.length_map, List.length_range]
            omega
          · rw [List.length_append]
            omega
          · unfold toI at e2
            rw [List.getElem?_map] at e2
            cases q2 : (waiting ++ (List.range A.p).map fun r => A.p * s + r)[i]? with
            | none =>
              rw [q2] at e2
              cases e2
            | some z =>
              rw [q2] at e2
              cases e2
              obtain ⟨r, er, hr'⟩ := both.at_ i (tl A B num z) u (by rw [List.getElem?_map, q2]; rfl) e1
              exact ⟨r, _, er, S12.gh.at hr', by rw [List.length_map, tl_len]; omega, tl_key⟩
          · obtain ⟨w2, wp, wsrt, wall⟩ := sorted_sizes both hs
            have S13 := S12.lstc us' nD
            have nD0 : H D = none := S12.fresh nD
            have hGD := S12.gh.none nD
            have hfD : fl ≠ D := fun z => by
              rw [← z] at nD
              exact Option.some_ne_none _ (hf12.symm.trans nD)
            have taken := hunt.take p2 p3 hc gA lA gB lB (q := q) hfp (w' := w2) (fun x => by
              rw [wp.mem_iff, List.mem_append, List.mem_map]
              constructor
              · rintro (h | ⟨r, h1, h2⟩)
                · exact .inl h
                · exact .inr ⟨r, List.mem_range.mp h1, h2.symm⟩
              · rintro (h | ⟨r, h1, h2⟩)
                · exact .inl h
                · exact .inr ⟨r, List.mem_range.mpr h1, h2.symm⟩) wsrt
            have w2l : w2.length = waiting.length + A.p := by
              rw [wp.length_eq, List.length_append, List.length_map, List.length_range]
            have hg11 := (A10.gg).trans g11
            refine ⟨_, hm_take taken.gs w2l, G11, _, v8, D, acc ++ [pv], us', found ++ [s], w2, _, rfl, S13, nD0, hfD, hGf12, by rw [upd_ne hfD]; exact hf12, hGD, upd_same, Up.up (R := SpR) hg11 r8, ?_, wall, taken, ?_, rfl⟩
            · rw [List.map_append]
              exact ((hacc.up A8.gg).up hg11).snoc (Up.up (R := IntsR) (A8.gg.trans hg11) rp)
            · rw [List.length_append, List.length_singleton, w2l]
              omega
end Mw

set_option Elab.async false
set_option linter.all false
set_option maxRecDepth 100000
set_option maxHeartbeats 4000003
namespace Mw
open PySem.Spec PyProof.Rows L2 LamX PySem
variable {P : Program} {w : World} {K : PySem.W.Frag} {mg : Str → Option Value} {base : Heap} {T : List (Addr × Str)} {C : Addr}
/-! ### min of a list of alike things -/
def rMinD (K : PySem.W.Frag) : List V → Hp → VK → Prop := fun xs H Q => ∃ (a : Addr) (ys : List V) (d : PyData) (ds : List PyData), xs = [.ref a] ∧ SqL K H a ys ∧ DpAll K H ys (d :: ds) ∧ PySem.W.AlikeAll (d :: ds) ∧ PyData.depthAll (d :: ds) ≤ 60 ∧ ∀ y ∈ ys, Q y H
theorem cr_minD {X : Cx} {K : PySem.W.Frag} (hc : X.calm = true) (hu : X.A.units + 64 < cLine) (h : X.K = K := by rfl) : CallR X (.builtin "min") (rMinD K) := by
  subst h
  (intro pins s σ H xs us Q I r h)
  obtain ⟨a, ys, d, ds, rfl, hs, hd, hal, hdp, q⟩ := h
  (obtain ⟨its, rv, hl, _⟩ := I.list hs)
  rw [Vals.ref1 r]
  obtain ⟨as, hr⟩ := Dp.readsAll I (d :: ds) ys its hd rv
  refine PySem.W.min_list_data (I.ok.hd hc) hl.isList hr hal (by omega) fun i v h' tk bs hv _ hk => ?_
  (have hv' : its[i]? = some v := by simpa using hv)
  have hi := (List.getElem?_eq_some_iff.mp hv').1
  have e := rv.length
  have hy : ys[i]? = some (ys[i]'(by omega)) := List.getElem?_eq_getElem _
  obtain ⟨x, hx, rx⟩ := rv.get hy
  rw [hv'] at hx
  cases hx
  exact ⟨_, H, I.kept hk, rx, q _ (List.getElem_mem _)⟩
/-! ### first_unlike -/
def spUnlike (T : List (Addr × Str)) (C : Addr) : L2.Sp := fun vs H Q _ => ∃ (G : Hp) (A B : Wk) (av bv : V) (num : Nat), vs = [av, bv, .int (num : Int)] ∧ Sm G H ∧ Tabs T H ∧ PairAt C A B av bv G ∧ ∀ o, RetV T (optV o) G H Q
abbrev sFirstUnlike : Stmt := topS 47
theorem scFirstUnlike : FnScope ["one", "other", "number", "low", "places"] ["one", "other", "number"] (defScope sFirstUnlike) := ⟨rfl, rfl, rfl, by decide +kernel, rfl, by decide +kernel, by decide +kernel⟩
theorem okFirstUnlike {f : Addr} {fd : FuncData} (Fn : Fun K "first_unlike" "first_unlike" sFirstUnlike f fd) (Tx : TxtM K mg C) (hPartedLow : Has P w K mg base "parted_low" ["one", "other", "number"] 5 (spParted T C)) (hSameFar : Has P w K mg base "same_far" ["one", "other", "places", "number"] 3 (spSameFar T C)) (hToldTails : Has P w K mg base "told_tails" ["one", "other", "number"] 6 (spTold T C)) : FnOk P w K mg base CX0 7 f fd ["one", "other", "number"] (spUnlike T C) := by
  refine Fn.ok scFirstUnlike (fun vs H Q E h => ?_) (fun cdv A outer s H vs Q E hr h => ?_)
  · obtain ⟨G, A, B, av, bv, num, rfl, _⟩ := h
    rfl
  · obtain ⟨G, A, B, av, bv, num, rfl, hG, hT, pr, k⟩ := h
    refine ⟨_, (pss_cons (ps_set (i := 3) scFirstUnlike.nd rfl (by first | exact .inl rfl | exact .inr rfl) (pe_def hPartedLow hr (by decide) (by rfl) (pa_cons (pv 0) (pa_cons (pv 1) (pa_cons (pv 2) pa_nil)))))
      (pss_cons (ps_if (pt_cmpR op_notN (pv 3) pe_non (nomark _)) (pss_one (ps_ret (pv 3))) pss_nil)
      (pss_cons (ps_for PassesOwn.never rfl (itL K (pe_def hToldTails hr (by decide) (by rfl) (pa_cons (pv 0) (pa_cons (pv 1) (pa_cons (pv 2) pa_nil))))) (pg_name (i := 4) scFirstUnlike.nd rfl (by first | exact .inl rfl | exact .inr rfl))
        (pss_one (ps_if (pt_not (pt_val (pe_def hSameFar hr (by decide) (by rfl) (pa_cons (pv 0) (pa_cons (pv 1) (pa_cons (pv 4) (pa_cons (pv 2) pa_nil))))))) (pss_one (ps_ret (pe_ix (ixL K) (pv 4) (pe_un un_neg pe_int) (fun _ _ => rfl)))) pss_nil)))
      (pss_one (ps_ret pe_non))))), ?_⟩
    refine ⟨_, rfl, _, rfl, _, rfl, G, A, B, av, bv, num, rfl, hG, pr, fun o H1 S1 => ?_⟩
    cases o with
    | some x => exact ⟨_, rfl, rfl, _, rfl, ite_nyes (fun z => by cases z) ⟨_, rfl, k (some x) _ S1⟩⟩
    | none =>
      refine ⟨_, rfl, rfl, _, rfl, ite_nno rfl ?_⟩
      refine ⟨_, rfl, _, rfl, _, rfl, G, A, B, av, bv, num, rfl, S1.gh, S1.tb hT, pr, fun Tt paper tlen v2 G2 H2 S2 r2 => ?_⟩
      obtain ⟨a, vs, rfl, ha, all⟩ := r2
      have S12 := S1.trans S2
      refine ⟨a, rfl, ⟨_, SqL.of (S12.gh.at ha)⟩, for_list (K := K) (a := a) (xs := vs) (fun i σ H' => ∃ (y4 : Option V), σ = [some av, some bv, some (.int (num : Int)), some .non, y4] ∧ Sit T G H G2 H') ⟨none, rfl, S12⟩ (fun i σ H' _ ⟨_, _, S⟩ => SqL.of (S.gh.at ha)) ?_ ?_⟩
      · rintro i x σ H3 hx ⟨y4, rfl, S3⟩
        obtain ⟨row, hrow, rr⟩ := all.back hx
        rw [List.getElem?_map] at hrow
        cases qs : Tt[i]? with
        | none =>
          rw [qs] at hrow
          cases hrow
        | some s =>
          rw [qs] at hrow
          have er := Option.some.inj hrow
          rw [← er] at rr
          have hs := paper.above s (List.mem_of_getElem? qs)
          refine ⟨_, rfl, _, rfl, _, rfl, _, rfl, G2, A, B, av, bv, x, s, num, rfl, S3.gh, pr.up S3.gg, rr, hs, fun b H4 S4 => ⟨_, rfl, ?_⟩⟩
          have S34 := S3.trans S4
          cases b with
          | true => exact iteF' rfl ⟨_, rfl, S34⟩
          | false =>
            obtain ⟨ra, rfl, hra⟩ := rr
            refine iteT' rfl ⟨_, rfl, _, rfl, ra, _, _, _, rfl, rfl, SqL.of (S34.gh.at hra), atI_neg2 (tl_len (A := A) (B := B) (num := num) (s := s)) tail_z.1, k (some s) _ S34.drop⟩
      · rintro σ H3 ⟨y4, rfl, S3⟩
        exact k none _ S3.drop
/-! ### a comprehension whose elements ask for the tables -/
def EvT (T : List (Addr × Str)) {α : Type} (te : TE) (σ : L2.St) (G : Hp) (R : Rel α) (x : α) : Prop := ∀ H, Sm G H → Tabs T H → ∀ Q : VK, (∀ v G' H', Sit T G H G' H' → R x v G' → Q v H') → te σ H Q
theorem EvT.up {α : Type} {R : Rel α} [Up R] {x : α} {te : TE} {σ : L2.St} {G G1 : Hp} (h : EvT T te σ G R x) (g : Same G G1) : EvT T te σ G1 R x := fun H s t Q k =>
  h H (s.pre g) t Q fun v G' H' a r => by
    obtain ⟨b1, b2⟩ := Sit.both g s a
    exact k v _ H' b1 (Up.up b2 r)
theorem comp_rangeT {σ : L2.St} {G H1 : Hp} {te : TE} {ws : List Nat} {β : Type} {S : Rel β} [Up S] {Q : Addr → Hp → Prop} {lo : Int} {n j : Nat} (e : Nat → β) (hGH : Sm G H1) (hT : Tabs T H1) (hn : n ≤ 100000) (hw : ∀ x, wipe ((wipe σ ws).set j (some x)) ws = wipe σ ws)
    (he : ∀ i, i < n → EvT T te ((wipe σ ws).set j (some (.int (lo + (i : Int))))) G S (e i)) (hq : ∀ D G' H', Sit T G H1 G' H' → H1 D = none → LstR S ((List.range n).map e) (.ref D) G' → Q D H') :
    ∀ D, H1 D = none → ∃ W : Nat → Nat → Hp → Prop, (∃ m, W 0 m (upd H1 D (.lst []))) ∧ ∀ i m H, W i m H →
      ((Itr lo n).stop i H ∧ Q D H) ∨ ((Itr lo n).go i H ∧ ∃ Nx : Hp → Prop, (∀ H', Nx H' → ∃ m', m' < m ∧ W (i + 1) m' H') ∧ ∀ x H', (Itr lo n).yld i H x H' → gName j x (wipe σ ws) H' fun σ2 H2 => wipe σ2 ws = wipe σ ws ∧ tYes σ2 H2 fun b H3 =>
        if b = true then te σ2 H3 fun yv H4 => ∃ acc, H4 D = some (.lst acc) ∧ acc.length < sizeLine ∧ Nx (upd H4 D (.lst (acc ++ [yv]))) else Nx H3) := by
  intro D hD
  have nlt : ∀ xs ps, (HO.lst xs) ≠ .tbl ps := fun xs ps z => by cases z
  refine lc_it walk_range (fun i H => ∃ G' acc, Sit T G H1 G' H ∧ G' D = none ∧ H D = some (.lst acc) ∧ AllR S ((List.range i).map e) acc G' ∧ acc.length ≤ i) ⟨G, [], Sit.cell hGH hD (nlt _), hGH.none hD, upd_same, AllR.nil, Nat.le_refl _⟩
    (fun i H _ _ => trivial) ?_ ?_
  · rintro i x H H' hi ⟨G', acc, a, hG', hl, r, len⟩ hy'
    obtain ⟨rfl, rfl⟩ := hy'
    refine ⟨hw _, ?_⟩
    show te _ _ fun y H4 => ∃ acc, H4 D = some (.lst acc) ∧ acc.length < sizeLine ∧ _
    refine (he i hi).up a.gg _ a.gh (a.tb hT) _ fun v G4 H4 a4 rv => ?_
    have k4 := a4.kept hG' hl trivial
    refine ⟨acc, k4.2, small_line (by omega), G4, acc ++ [v], (a.trans a4).mut hD k4.1 k4.2 trivial, k4.1, upd_same, ?_, by rw [List.length_append, List.length_singleton]; omega⟩
    rw [List.range_succ, List.map_append]
    exact (r.up a4.gg).snoc rv
  · rintro H ⟨G', acc, a, hG', hl, r, len⟩
    exact hq D (upd G' D (.lst acc)) H (a.own hD hG' hl trivial) hD ⟨D, acc, rfl, upd_same, r.up (same_new hG')⟩
/-! ### parting_of -/
def PO : Rel (Option Nat × Nat) := fun x v G => TupR [optV x.1, .int (x.2 : Int)] v G
instance : Up PO := ⟨fun g h => Up.up (R := TupR) g h⟩
def POx : Rel Nat := fun j v G => ∃ o, PO (o, j) v G
instance : Up POx := ⟨fun g ⟨o, h⟩ => ⟨o, Up.up (R := PO) g h⟩⟩
theorem po_all {G : Hp} : ∀ {js : List Nat} {vs : List V}, AllR POx js vs G → ∃ xs : List (Option Nat × Nat), AllR PO xs vs G ∧ xs.length = js.length
  | [], vs, h => by
    have : vs = [] := List.eq_nil_of_length_eq_zero h.len
    subst this
    exact ⟨[], AllR.nil, rfl⟩
  | j :: js, [], h => by
    have := h.len
    cases this
  | j :: js, v :: vs, h => by
    obtain ⟨⟨o, h1⟩, h2⟩ := h.drop1
    obtain ⟨xs, h3, h4⟩ := po_all h2
    refine ⟨(o, j) :: xs, ⟨by rw [List.length_cons, List.length_cons, h3.len], fun i x u e1 e2 => ?_⟩, by rw [List.length_cons, List.length_cons, h4]⟩
    cases i with
    | zero =>
      cases e1
      cases e2
      exact h1
    | succ i => exact h3.at_ i x u e1 e2
def poD (x : Option Nat × Nat) : PyData := .tuple [.int ((x.1.getD 0 : Nat) : Int), .int (x.2 : Int)]
theorem po_dp {G H : Hp} (s : Sm G H) : ∀ {xs : List (Option Nat × Nat)} {vs : List V}, (∀ x ∈ xs, x.1.isSome = true) → AllR PO xs vs G → DpAll K H vs (xs.map poD)
  | [], vs, _, h => by
    have : vs = [] := List.eq_nil_of_length_eq_zero h.len
    subst this
    exact .nil
  | x :: xs, [], _, h => by
    have := h.len
    cases this
  | x :: xs, v :: vs, hx, h => by
    obtain ⟨⟨a, e, ha⟩, h2⟩ := h.drop1
    subst e
    refine .cons ?_ (po_dp s (fun y hy => hx y (List.mem_cons_of_mem _ hy)) h2)
    obtain ⟨o, ho⟩ := Option.isSome_iff_exists.mp (hx x List.mem_cons_self)
    rw [ho] at ha
    refine .tup (SqT.of (s.at ha)) (.cons ?_ (.cons (.int _) .nil))
    rw [ho]
    exact .int _
theorem po_depth : ∀ xs : List (Option Nat × Nat), PyData.depthAll (xs.map poD) ≤ 60
  | [] => by
    rw [List.map_nil]
    unfold PyData.depthAll
    omega
  | x :: xs => by
    have ih := po_depth xs
    rw [List.map_cons]
    unfold PyData.depthAll
    have h1 : PyData.depth (poD x) ≤ 60 := by
      unfold poD
      simp [PyData.depth, PyData.depthAll]
    omega
theorem po_alike (xs : List (Option Nat × Nat)) : PySem.W.AlikeAll (xs.map poD) := by
  refine ⟨fun x hx y hy => ?_, fun x hx z => ?_⟩
  · obtain ⟨a, _, rfl⟩ := List.mem_map.mp hx
    (obtain ⟨b, _, rfl⟩ := List.mem_map.mp hy)
    simp [poD, PySem.W.alike, PySem.W.alikeAll]
  · obtain ⟨a, _, rfl⟩ := List.mem_map.mp hx
    cases z
def spParting (T : List (Addr × Str)) (C : Addr) : L2.Sp := fun vs H Q _ => ∃ (G : Hp) (A B : Wk) (av bv : V), vs = [av, bv] ∧ Sm G H ∧ Tabs T H ∧ PairAt C A B av bv G ∧ ∀ v, (v = V.non ∨ ∃ a, v = V.ref a) → RetV T v G H Q
abbrev sPartingOf : Stmt := topS 48
theorem scPartingOf : FnScope ["one", "other", "found", "number", "parted", "pair"] ["one", "other"] (defScope sPartingOf) := ⟨rfl, rfl, rfl, by decide +kernel, rfl, by decide +kernel, by decide +kernel⟩
theorem okPartingOf {f : Addr} {fd : FuncData} (Fn : Fun K "parting_of" "parting_of" sPartingOf f fd) (Tx : TxtM K mg C) (hCheckTwo : Has P w K mg base "check_two" ["one", "other"] 6 (spCheck T C)) (hFirstUnlike : Has P w K mg base "first_unlike" ["one", "other", "number"] 7 (spUnlike T C)) : FnOk P w K mg base CX0 8 f fd ["one", "other"] (spParting T C) := by
  refine Fn.ok scPartingOf (fun vs H Q E h => ?_) (fun cdv A outer s H vs Q E hr h => ?_)
  · obtain ⟨G, A, B, av, bv, rfl, _⟩ := h
    rfl
  · obtain ⟨G, A, B, av, bv, rfl, hG, hT, pr, k⟩ := h
    refine ⟨_, (pss_cons (ps_expr (pe_def hCheckTwo hr (by decide) (by rfl) (pa_cons (pv 0) (pa_cons (pv 1) pa_nil))))
      (pss_cons (ps_setLc (i := 2) (own := [("number", 3)]) rfl scPartingOf.nd rfl rfl (sw_true rfl rfl rfl (by decide +kernel)) (pi_range1 (by rfl) Tx.range (pa_cons pe_int pa_nil)) (blkOk_by (N := ["one", "other", "found", "number", "parted", "pair"]) (sc := defScope sPartingOf) (by decide +kernel)) (fun _ _ _ _ _ => (pg_name (i := 3) scPartingOf.nd rfl (by first | exact .inl rfl | exact .inr rfl))) (fun _ _ _ _ _ => pts_nil) (fun _ _ _ _ _ => (pe_tup (pa_cons (pe_def hFirstUnlike hr (by decide) (by rfl) (pa_cons (pv 0) (pa_cons (pv 1) (pa_cons (pv 3) pa_nil)))) (pa_cons (pv 3) pa_nil)))))
      (pss_cons (ps_setLc (i := 4) (own := [("pair", 5)]) rfl scPartingOf.nd rfl rfl (sw_true rfl rfl rfl (by decide +kernel)) (itL K (pv 2)) (blkOk_by (N := ["one", "other", "found", "number", "parted", "pair"]) (sc := defScope sPartingOf) (by decide +kernel)) (fun _ _ _ _ _ => (pg_name (i := 5) scPartingOf.nd rfl (by first | exact .inl rfl | exact .inr rfl))) (fun _ _ _ _ _ => (pts_one (pt_cmpR op_notN (pe_ix (ixT K) (pv 5) pe_int (fun _ _ => rfl)) pe_non (nomark _)))) (fun _ _ _ _ _ => (pv 5)))
      (pss_cons (ps_if (pt_cmpR op_eq (pe_callB (lenK K) (by rfl) Tx.len PySem.boot_len (pa_cons (pv 4) pa_nil)) pe_int (nomark _)) (pss_one (ps_ret pe_non)) pss_nil)
      (pss_one (ps_ret (pe_callB (cr_minD rfl hr.units) (by rfl) Tx.min (by decide +kernel) (pa_cons (pv 4) pa_nil)))))))), ?_⟩
    refine ⟨_, rfl, _, rfl, G, A, B, av, bv, rfl, hG, pr, fun H1 S1 => ?_⟩
    refine ⟨_, rfl, by omega, by omega, comp_rangeT (T := T) (S := POx) (lo := 0) (fun j => j) S1.gh (S1.tb hT) (by show 6 ≤ _; omega) (fun _ => rfl) (fun j hj H0 g t Q' q => ?_) fun D G2 H2 S2 n2 r2 => ?_⟩
    · refine ⟨_, rfl, _, rfl, _, rfl, G, A, B, av, bv, j, (by rw [Int.zero_add]; rfl), g, t, pr, fun o H3 S3 => ⟨_, rfl, sz2, fun p np => ?_⟩⟩
      obtain ⟨G4, S4, g4, k4⟩ := S3.tup [optV o, .int (0 + (j : Int))] np
      exact q _ _ _ S4 ⟨o, p, rfl, by rw [k4, Int.zero_add]⟩
    · obtain ⟨_, vs, e, hD, all⟩ := r2
      cases e
      obtain ⟨xs, hxs, hxl⟩ := po_all all
      have hxl6 : xs.length = 6 := by
        rw [hxl, List.length_map, List.length_range]
        rfl
      have S12 := S1.trans S2
      refine ⟨_, rfl, D, rfl, ⟨_, SqL.of (S2.gh.at hD)⟩, comp_list (T := T) (S := PO) (R := PO) (fun x => x.1.isSome) (fun x => x) S2.gh hD hxs (by omega) (fun _ => rfl) (fun i x v _ _ rx H0 g Q' q' => ?_) (fun i x v _ _ rx _ => ev_slot rfl rx) fun D2 G3 H3 S3 n3 r3 => ?_⟩
      · obtain ⟨b, rfl, hb⟩ := rx
        refine ⟨_, rfl, b, _, _, _, rfl, rfl, SqT.of (g.at hb), atI_nat (j := 0) rfl, rfl, _, rfl, ?_⟩
        have e : (!decide (optV x.1 = V.non)) = x.1.isSome := by
          cases x.1 with
          | none => rfl
          | some z => rfl
        show Q' (!decide (optV x.1 = V.non)) H0
        rw [e]
        exact q' H0 (Sit.refl g)
      · obtain ⟨_, ys, e, hD2, ally⟩ := r3
        cases e
        rw [List.map_id'] at ally
        have S13 := S12.trans S3
        have yl := ally.len
        have hsome : ∀ x ∈ xs.filter (fun x => x.1.isSome), x.1.isSome = true := fun x hx => (List.mem_filter.mp hx).2
        generalize xs.filter (fun x => x.1.isSome) = zs at ally yl hsome
        refine ⟨_, rfl, D2, ys, rfl, .inl (SqL.of (S3.gh.at hD2)), rfl, _, rfl, ite_by (fun z => ?_) (fun z => ?_)⟩
        · exact k _ (.inl rfl) _ S13.drop
        · cases zs with
          | nil => exact absurd (ieq (by rw [yl]; rfl)) z
          | cons x zs =>
            have dp := po_dp (K := K) S3.gh hsome ally
            refine ⟨_, rfl, D2, ys, _, _, rfl, SqL.of (S3.gh.at hD2), dp, po_alike (x :: zs), po_depth (x :: zs), fun y hy => ?_⟩
            obtain ⟨i, hi, e⟩ := List.getElem_of_mem hy
            obtain ⟨x', hx', rx⟩ := ally.back (show ys[i]? = some y by rw [List.getElem?_eq_getElem hi, e])
            obtain ⟨a, ea, _⟩ := rx
            exact k _ (.inr ⟨a, ea⟩) _ S13.drop
def spAlike (T : List (Addr × Str)) (C : Addr) : L2.Sp := fun vs H Q _ => ∃ (G : Hp) (A B : Wk) (av bv : V), vs = [av, bv] ∧ Sm G H ∧ Tabs T H ∧ PairAt C A B av bv G ∧ RetV T .non G H Q ∧ ∀ papers : List (List Nat), papers.length = 6 → (∀ num Tt, papers[num]? = some Tt → Paper A.p A.rows B.rows num (hgt A.rows B.rows) Tt) → Ret T (LstR IntsR) (papers.map toI) G H Q
def e2 (row : List Int) : Int := row.getD (row.length - 2) 0
theorem e2_tl {A B : Wk} {num s : Nat} : e2 (tl A B num s) = (s : Int) := by
  unfold e2
  rw [tl_len, List.getD_eq_getElem?_getD, show 2 * (crs A.rows).length + 2 * (crs B.rows).length + 2 - 2 = 2 * (crs A.rows).length + 2 * (crs B.rows).length by omega]
  have h := tail_z (p := A.p) (A := A.rows) (B := B.rows) (num := num) (s := s)
  rw [show (tl A B num s)[2 * (crs A.rows).length + 2 * (crs B.rows).length]? = some (s : Int) from h.1]
  rfl
def PapR (A B : Wk) : Rel Nat := fun num v G => ∃ Tt, Paper A.p A.rows B.rows num (hgt A.rows B.rows) Tt ∧ IntsR (toI Tt) v G
instance {A B : Wk} : Up (PapR A B) := ⟨fun g ⟨Tt, h1, h2⟩ => ⟨Tt, h1, Up.up (R := IntsR) g h2⟩⟩
theorem papers_of {A B : Wk} {G : Hp} : ∀ (n : Nat) {vs : List V}, AllR (PapR A B) ((List.range n).map fun j => j) vs G → ∃ papers : List (List Nat), papers.length = n ∧ (∀ num Tt, papers[num]? = some Tt → Paper A.p A.rows B.rows num (hgt A.rows B.rows) Tt) ∧ AllR IntsR (papers.map toI) vs G
  | n, vs, h => by
    have each : ∀ m, m ≤ n → ∃ papers : List (List Nat), papers.length = m ∧ ∀ num Tt, papers[num]? = some Tt → Paper A.p A.rows B.rows num (hgt A.rows B.rows) Tt ∧ ∀ v, vs[num]? = some v → IntsR (toI Tt) v G := fun m => by
      induction m with
      | zero => exact fun _ => ⟨[], rfl, fun num Tt e => by simp at e⟩
      | succ m ih =>
        intro hm
        obtain ⟨papers, h1, h2⟩ := ih (by omega)
        obtain ⟨v, hv, Tt, hp, hi⟩ := h.get (i := m) (x := m) (by rw [List.map_id', List.getElem?_range (by omega)])
        refine ⟨papers ++ [Tt], by rw [List.length_append, h1]; rfl, fun num T' e => ?_⟩
        by_cases z : num < m
        · rw [List.getElem?_append_left (by omega)] at e
          exact h2 num T' e
        · have hl := (List.getElem?_eq_some_iff.mp e).1
          rw [List.length_append, h1, List.length_singleton] at hl
          have : num = m := by omega
          subst this
          rw [← h1, List.getElem?_append_right (Nat.le_refl _), Nat.sub_self] at e
          cases e
          refine ⟨hp, fun u hu => ?_⟩
          rw [hv] at hu
          cases hu
          exact hi
    obtain ⟨papers, h1, h2⟩ := each n (Nat.le_refl _)
    have hl := h.len
    rw [List.length_map, List.length_range] at hl
    refine ⟨papers, h1, fun num Tt e => (h2 num Tt e).1, by rw [List.length_map, h1, hl], fun i x v e1 e3 => ?_⟩
    rw [List.getElem?_map] at e1
    cases q : papers[i]? with
    | none =>
      rw [q] at e1
      cases e1
    | some Tt =>
      rw [q] at e1
      rw [← Option.some.inj e1]
      exact (h2 i Tt q).2 v e3
abbrev scNumber : Scope := { kind := .function, names := [(".0", .local), ("number", .local), ("told_tails", .globalImplicit), ("one", .cell), ("other", .cell)], isGenerator := false, isCoroutine := false, more := [] }
abbrev sAlikePapers : Stmt := topS 49
theorem scAlikePapers : FnScope ["one", "other", "number", "places"] ["one", "other"] (defScope sAlikePapers) := ⟨rfl, rfl, rfl, by decide +kernel, rfl, by decide +kernel, by decide +kernel⟩
theorem okAlikePapers {f : Addr} {fd : FuncData} (Fn : Fun K "alike_papers" "alike_papers" sAlikePapers f fd) (Tx : TxtM K mg C) (hPartingOf : Has P w K mg base "parting_of" ["one", "other"] 8 (spParting T C)) (hToldTails : Has P w K mg base "told_tails" ["one", "other", "number"] 6 (spTold T C)) : FnOk P w K mg base CX0 9 f fd ["one", "other"] (spAlike T C) := by
  refine Fn.ok scAlikePapers (fun vs H Q E h => ?_) (fun cdv A outer s H vs Q E hr h => ?_)
  · obtain ⟨G, A, B, av, bv, rfl, _⟩ := h
    rfl
  · obtain ⟨G, A, B, av, bv, rfl, hG, hT, pr, kn, k⟩ := h
    refine ⟨_, (pss_cons (ps_if (pt_cmpR op_notN (pe_def hPartingOf hr (by decide) (by rfl) (pa_cons (pv 0) (pa_cons (pv 1) pa_nil))) pe_non (nomark _)) (pss_one (ps_ret pe_non)) pss_nil)
      (pss_one (ps_ret (pe_lc (own := [("number", 2)]) rfl scAlikePapers.nd (pi_range1 (by rfl) Tx.range (pa_cons pe_int pa_nil)) (blkOk_by (N := ["one", "other", "number", "places"]) (sc := defScope sAlikePapers) (by decide +kernel)) (fun _ _ _ _ _ => (pg_name (i := 2) scAlikePapers.nd rfl (by first | exact .inl rfl | exact .inr rfl))) (fun _ _ _ _ _ => pts_nil) (fun _ _ _ _ _ => (pe_lc (own := [("places", 3)]) rfl scAlikePapers.nd (itL K (pe_def hToldTails hr (by decide) (by rfl) (pa_cons (pv 0) (pa_cons (pv 1) (pa_cons (pv 2) pa_nil))))) (blkOk_by (N := ["one", "other", "number", "places"]) (sc := scNumber) (by decide +kernel)) (fun _ _ _ _ _ => (pg_name (i := 3) scAlikePapers.nd rfl (by first | exact .inl rfl | exact .inr rfl))) (fun _ _ _ _ _ => pts_nil) (fun _ _ _ _ _ => (pe_ix (ixL K) (pv 3) (pe_un un_neg pe_int) (fun _ _ => rfl))))))))), ?_⟩
    refine ⟨_, rfl, _, rfl, G, A, B, av, bv, rfl, hG, hT, pr, fun v hv H1 S1 => ?_⟩
    rcases hv with hv | ⟨a, hv⟩
    · subst hv
      refine ⟨rfl, _, rfl, ite_nno rfl ?_⟩
      refine ⟨_, rfl, by omega, by omega, comp_rangeT (T := T) (S := PapR A B) (lo := 0) (fun j => j) S1.gh (S1.tb hT) (by show 6 ≤ _; omega) (fun _ => rfl) (fun j hj H0 g t Q' q => ?_) fun D G2 H2 S2 n2 r2 => ?_⟩
      · refine ⟨_, rfl, _, rfl, _, rfl, G, A, B, av, bv, j, (by rw [Int.zero_add]; rfl), g, t, pr, fun Tt paper tlen v3 G3 H3 S3 r3 => ?_⟩
        obtain ⟨a, vs, rfl, ha, all⟩ := r3
        refine ⟨a, rfl, ⟨_, SqL.of (S3.gh.at ha)⟩, comp_list (T := T) (S := IntR) (R := IntsR) (fun _ => true) e2 S3.gh ha all (by rw [List.length_map]; omega) (fun _ => rfl) (fun _ _ _ _ _ _ => eb_yes) (fun i x v hx _ rx _ H4 g4 Q4 q4 => ?_) fun D3 G5 H5 S5 n5 r5 => ?_⟩
        · rw [List.getElem?_map] at hx
          cases qs : Tt[i]? with
          | none =>
            rw [qs] at hx
            cases hx
          | some s =>
            rw [qs] at hx
            have er := Option.some.inj hx
            subst er
            obtain ⟨ra, rfl, hra⟩ := rx
            refine ⟨_, rfl, _, rfl, ra, _, _, _, rfl, rfl, SqL.of (g4.at hra), atI_neg2 (tl_len (A := A) (B := B) (num := j) (s := s)) tail_z.1, ?_⟩
            exact q4 _ _ _ (Sit.refl g4) (by rw [e2_tl]; rfl)
        · rw [filter_yes] at r5
          have ee : (Tt.map (tl A B j)).map e2 = toI Tt := by
            rw [List.map_map]
            unfold toI
            refine List.map_congr_left fun s _ => ?_
            exact e2_tl
          have r5 := r5.ints
          rw [ee] at r5
          exact q _ _ _ (S3.trans S5) ⟨Tt, paper, r5⟩
      · obtain ⟨_, vs, e, hD, all⟩ := r2
        cases e
        obtain ⟨papers, p1, p2, p3⟩ := papers_of 6 all
        exact k papers p1 p2 _ _ _ (S1.trans S2) ⟨D, vs, rfl, hD, p3⟩
    · subst hv
      exact ⟨rfl, _, rfl, ite_nyes (fun z => by cases z) (kn _ S1)⟩
end Mw

set_option Elab.async false
set_option linter.all false
set_option maxRecDepth 100000
set_option maxHeartbeats 4000003
namespace Mw
open PySem.Spec PyProof.Rows L2 LamX PySem
variable {P : Program} {w : World} {K : PySem.W.Frag} {mg : Str → Option Value} {base : Heap} {T : List (Addr × Str)} {C : Addr}
/-! ### law -/
theorem scr_at {H : Hp} {a : Addr} {zs : List Int} (h : SqL K H a (zs.map V.int)) : ∃ G, Sm G H ∧ ScrR K zs (.ref a) G := by
  rcases h with h | h
  · refine ⟨fun b => if b = a then H a else none, fun b o e => ?_, a, rfl, .inl ?_⟩
    · dsimp only at e
      by_cases z : b = a
      · rw [if_pos z] at e
        rw [z]
        refine ⟨e, fun ps ho => ?_⟩
        subst ho
        rcases h with h | ⟨o, h⟩
        · rw [h] at e
          cases e
        · rw [h] at e
          cases e
      · rw [if_neg z] at e
        cases e
    · rcases h with h | ⟨o, h⟩
      · exact .inl (by show (if a = a then H a else none) = _; rw [if_pos rfl]; exact h)
      · exact .inr ⟨o, by show (if a = a then H a else none) = _; rw [if_pos rfl]; exact h⟩
  · refine ⟨fun _ => none, fun b o e => ?_, a, rfl, .inr h⟩
    cases e
theorem opens_app (A B : List Rw) : opens (A ++ B) = opens A ++ opens B := by
  unfold opens
  rw [List.filterMap_append]
def spLaw (T : List (Addr × Str)) (K : PySem.W.Frag) : L2.Sp := fun vs H Q _ => ∃ (a : Addr) (zs : List Int), vs = [.ref a] ∧ SqL K H a (zs.map V.int) ∧ Tabs T H ∧ ∀ H', Q (.bl true) H'
abbrev sLaw : Stmt := topS 71
theorem scLaw : FnScope ["script", "parts", "pair", "papers", "height", "row", "number"] ["script"] (defScope sLaw) := ⟨rfl, rfl, rfl, by decide +kernel, rfl, by decide +kernel, by decide +kernel⟩
theorem okLaw {f : Addr} {fd : FuncData} (Fn : Fun K "law" "law" sLaw f fd) (Tx : TxtM K mg C) (hWorks : MkW P w K mg base T C) (hLawCell : Has P w K mg base "_law_cell" ["script", "k"] 1 (spLawCell T K)) (hLawTwo : Has P w K mg base "_law_two" ["script", "many", "most", "crushers"] 5 (spLawTwo T K)) (hAlikePapers : Has P w K mg base "alike_papers" ["one", "other"] 9 (spAlike T C)) (hLawLeast : Has P w K mg base "_law_least" ["parts", "pair", "number", "sizes", "height"] 5 (spLawLeast T)) : FnOk P w K mg base CX0 10 f fd ["script"] (spLaw T K) := by
  refine Fn.ok scLaw (fun vs H Q E h => ?_) (fun cdv A0 outer s H vs Q E hr h => ?_)
  · obtain ⟨a, zs, rfl, _⟩ := h
    rfl
  · obtain ⟨a, zs, rfl, hs, hT, fin⟩ := h
    refine ⟨_, (pss_cons (ps_set (i := 1) scLaw.nd rfl (by first | exact .inl rfl | exact .inr rfl) (pe_op op_add pe_int (pe_op op_mod (pe_def hLawCell hr (by decide) (by rfl) (pa_cons (pv 0) (pa_cons pe_int pa_nil))) pe_int)))
      (pss_cons (ps_set (i := 2) scLaw.nd rfl (by first | exact .inl rfl | exact .inr rfl) (pe_def hLawTwo hr (by decide) (by rfl) (pa_cons (pv 0) (pa_cons (pe_op op_add pe_int (pe_op op_mod (pe_op op_fdiv (pe_def hLawCell hr (by decide) (by rfl) (pa_cons (pv 0) (pa_cons pe_int pa_nil))) pe_int) pe_int)) (pa_cons pe_int (pa_cons pe_int pa_nil))))))
      (pss_cons (ps_set (i := 3) scLaw.nd rfl (by first | exact .inl rfl | exact .inr rfl) (pe_def hAlikePapers hr (by decide) (by rfl) (pa_cons (pe_mkW hWorks hr (by decide) (by rfl) (pa_cons (pv 1) (pa_cons (pe_callTy (listK K) (by rfl) Tx.list (by decide +kernel) (pa_cons (pe_ix (ixL K) (pv 2) pe_int (fun _ _ => rfl)) pa_nil)) pa_nil))) (pa_cons (pe_mkW hWorks hr (by decide) (by rfl) (pa_cons (pv 1) (pa_cons (pe_callTy (listK K) (by rfl) Tx.list (by decide +kernel) (pa_cons (pe_ix (ixL K) (pv 2) pe_int (fun _ _ => rfl)) pa_nil)) pa_nil))) pa_nil))))
      (pss_cons (ps_if (pt_cmpR op_isN (pv 3) pe_non (nomark _)) (pss_one (ps_ret pe_bl)) pss_nil)
      (pss_cons (ps_set (i := 4) scLaw.nd rfl (by first | exact .inl rfl | exact .inr rfl) (pe_callB (maxK K) (by rfl) Tx.max (by decide +kernel) (pa_cons (pe_op op_cat (pe_lst (pa_cons pe_int pa_nil)) (pe_lc (own := [("row", 5)]) rfl scLaw.nd (itL K (pe_op op_cat (pe_ix (ixL K) (pv 2) pe_int (fun _ _ => rfl)) (pe_ix (ixL K) (pv 2) pe_int (fun _ _ => rfl)))) (blkOk_by (N := ["script", "parts", "pair", "papers", "height", "row", "number"]) (sc := defScope sLaw) (by decide +kernel)) (fun _ _ _ _ _ => (pg_name (i := 5) scLaw.nd rfl (by first | exact .inl rfl | exact .inr rfl))) (fun _ _ _ _ _ => (pts_one (pt_cmpR op_eq (pe_ix (ixT K) (pv 5) pe_int (fun _ _ => rfl)) pe_str (nomark _)))) (fun _ _ _ _ _ => (pe_ix (ixT K) (pv 5) pe_int (fun _ _ => rfl))))) pa_nil)))
      (pss_cons (ps_set (i := 6) scLaw.nd rfl (by first | exact .inl rfl | exact .inr rfl) (pe_op op_mod (pe_def hLawCell hr (by decide) (by rfl) (pa_cons (pv 0) (pa_cons pe_int pa_nil))) pe_int))
      (pss_one (ps_ret (pe_def hLawLeast hr (by decide) (by rfl) (pa_cons (pv 1) (pa_cons (pv 2) (pa_cons (pv 6) (pa_cons (pe_ix (ixL K) (pv 3) (pv 6) (fun _ _ => rfl)) (pa_cons (pv 4) pa_nil)))))))))))))), ?_⟩
    obtain ⟨G, hG, hz⟩ := scr_at hs
    refine ⟨_, rfl, G, zs, .ref a, 0, rfl, hG, hz, fun n1 H1 S1 => ?_⟩
    refine ⟨_, _, rfl, rfl, pos2, _, _, rfl, rfl, ?_⟩
    obtain ⟨p, hp, p2, p3⟩ : ∃ p : Nat, (2 : Int) + (n1 : Int) % 2 = (p : Int) ∧ 2 ≤ p ∧ p ≤ 3 := ⟨2 + n1 % 2, by omega, by omega, by omega⟩
    dsimp only
    rw [hp]
    refine ⟨_, rfl, _, rfl, G, zs, .ref a, 0, rfl, S1.gh, hz, fun n2 H2 S2 => ?_⟩
    obtain ⟨m, hm, m1, m5⟩ : ∃ m : Nat, (2 : Int) + (n2 : Int) / 2 % 4 = (m : Int) ∧ 1 ≤ m ∧ m ≤ 5 := ⟨2 + n2 / 2 % 4, by omega, by omega, by omega⟩
    have S12 := S1.trans S2
    refine ⟨_, _, rfl, rfl, ⟨by decide, by decide⟩, _, _, rfl, rfl, pos4, _, _, rfl, rfl, G, zs, .ref a, m, by rw [← hm]; rfl, S2.gh, hz, m1, m5, fun A B gA lA cA gB lB cB v3 G3 H3 S3 r3 => ?_⟩
    have S13 := S12.trans S3
    have fA := gA.few
    have fB := gB.few
    obtain ⟨pa, pvs, rfl, hpa, pall⟩ := r3
    obtain ⟨va, hva, la, vsA, rfl, hla, hall⟩ := pall.get (i := 0) (x := A) rfl
    obtain ⟨vb, hvb, lb, vsB, rfl, hlb, hbll⟩ := pall.get (i := 1) (x := B) rfl
    have hla2 := hall.len
    have hlb2 := hbll.len
    refine ⟨_, rfl, _, rfl, pa, _, _, _, rfl, rfl, SqL.of (S3.gh.at hpa), atI_nat (j := 0) hva, la, vsA, rfl, .inl (SqL.of (S3.gh.at hla)), fun l4 nl4 => ?_⟩
    obtain ⟨G4, S4, g4, k4⟩ := S13.lst vsA nl4
    have okA : WOk ⟨p, A⟩ := ⟨p2, p3, gA⟩
    have okB : WOk ⟨p, B⟩ := ⟨p2, p3, gB⟩
    refine rd_mkW (W := ⟨p, A⟩) S4.gh ⟨l4, vsA, rfl, k4, hall.up g4⟩ okA fun x5 G5 H5 S5 wA => ?_
    have S15 := S4.trans S5
    have g35 := g4.trans S5.gg
    refine ⟨_, rfl, _, rfl, pa, _, _, _, rfl, rfl, SqL.of (S5.gh.at (g35 _ _ hpa)), atI_nat (j := 1) hvb, lb, vsB, rfl, .inl (SqL.of (S5.gh.at (g35 _ _ hlb))), fun l6 nl6 => ?_⟩
    obtain ⟨G6, S6, g6, k6⟩ := S15.lst vsB nl6
    refine rd_mkW (W := ⟨p, B⟩) S6.gh ⟨l6, vsB, rfl, k6, hbll.up (g35.trans g6)⟩ okB fun x7 G7 H7 S7 wB => ?_
    have S17 := S6.trans S7
    have g37 := (g35.trans g6).trans S7.gg
    have cA' : (crs A).length ≤ 2 := by rw [crN_eq]; exact cA
    have cB' : (crs B).length ≤ 3 := by rw [crN_eq]; exact cB
    have prs : PairAt C ⟨p, A⟩ ⟨p, B⟩ (.ref x5) (.ref x7) G7 := ⟨Up.up (R := WkR C) (g6.trans S7.gg) wA, wB, okA, okB, lA, lB, rfl, cA', cB'⟩
    refine ⟨G7, ⟨p, A⟩, ⟨p, B⟩, .ref x5, .ref x7, rfl, S7.gh, S17.tb hT, prs, fun H8 S8 => ?_, fun papers plen pprs v8 G8 H8 S8 r8 => ?_⟩
    · exact ⟨_, rfl, rfl, _, rfl, ite_yes rfl (fin _)⟩
    · obtain ⟨qa, qvs, rfl, hqa, qall⟩ := r8
      refine ⟨_, rfl, rfl, _, rfl, ite_no (fun z => by cases z) ?_⟩
      have S18 := S17.trans S8
      have g38 := g37.trans S8.gg
      refine ⟨sz1, fun p1 np1 => ?_⟩
      obtain ⟨G9, S9, g9, k9⟩ := S18.lst [.int 0] np1
      have g39 := g38.trans g9
      refine ⟨_, rfl, pa, _, _, _, rfl, rfl, SqL.of (S9.gh.at (g39 _ _ hpa)), atI_nat (j := 0) hva, _, rfl, pa, _, _, _, rfl, rfl, SqL.of (S9.gh.at (g39 _ _ hpa)), atI_nat (j := 1) hvb, ?_⟩
      refine ⟨la, lb, _, _, rfl, rfl, S9.gh.at (g39 _ _ hla), S9.gh.at (g39 _ _ hlb), small_le (by omega), fun c10 nc10 => ?_⟩
      obtain ⟨G10, S10, g10, k10⟩ := S9.lst (vsA ++ vsB) nc10
      have g310 := g39.trans g10
      have allAB := (hall.up g310).app (hbll.up g310)
      refine ⟨c10, rfl, ⟨_, SqL.of (S10.gh.at k10)⟩, comp_opens (T := T) S10.gh k10 allAB (by rw [List.length_append]; omega) (fun _ => rfl) (fun _ => rfl) fun D G11 H11 S11 n11 r11 => ?_⟩
      obtain ⟨_, e, hD⟩ := r11
      cases e
      have oA := opens_len A
      have oB := opens_len B
      rw [opens_app] at hD
      refine ⟨p1, D, _, _, rfl, rfl, S11.gh.at (S11.gg _ _ (g10 _ _ k9)), S11.gh.at hD, small_le (by rw [List.length_map, toI_len, List.length_append]; show 1 + _ ≤ _; omega), fun p12 np12 => ?_⟩
      have S111 := S10.trans S11
      obtain ⟨G12, S12', g12, k12⟩ := S111.lst ([.int 0] ++ (toI (opens A ++ opens B)).map V.int) np12
      have e12 : ([V.int 0] ++ (toI (opens A ++ opens B)).map V.int) = ([(0 : Int)] ++ toI (opens A) ++ toI (opens B)).map V.int := by
        unfold toI
        rw [List.map_append, List.map_append, List.map_append, List.map_append, List.append_assoc]
        rfl
      rw [e12] at k12
      refine ⟨p12, _, rfl, SqL.of (S12'.gh.at k12), by rw [List.length_append, List.length_append]; show 0 < 1 + _ + _; omega, fun mx hmx hle => ?_⟩
      rw [hgt_eq hmx hle]
      have g312 := (g310.trans S11.gg).trans g12
      refine ⟨_, rfl, G12, zs, .ref a, 17, rfl, S12'.gh, Up.up (R := ScrR K) S12'.gg hz, fun n13 H13 S13' => ?_⟩
      obtain ⟨num, hnum, hnl⟩ := emod_nat (n13 : Int) (m := 6) (by decide)
      refine ⟨_, _, rfl, rfl, pos6, ?_⟩
      have S113 := S12'.trans S13'
      have hnum' : (n13 : Int) % 6 = (num : Int) := hnum
      have hTt : papers[num]? = some (papers[num]'(by omega)) := List.getElem?_eq_getElem _
      have hpap := pprs num _ hTt
      obtain ⟨qv, hqv, rq⟩ := qall.get (i := num) (by rw [List.getElem?_map, hTt]; rfl)
      have g812 := ((((g9.trans g10).trans S11.gg).trans g12))
      refine ⟨_, rfl, _, rfl, _, rfl, _, rfl, _, rfl, qa, _, _, _, rfl, rfl, SqL.of (S113.gh.at (g812 _ _ hqa)), (by rw [hnum']; exact atI_nat hqv), _, rfl, ?_⟩
      refine ⟨G12, p, A, B, .ref pa, qv, num, hgt A B, _, ?_, S113.gh, p2, p3, ⟨pa, pvs, rfl, g312 _ _ hpa, pall.up g312⟩, gA, lA, gB, lB, by omega, hgt_le gA gB, hpap, Up.up (R := IntsR) g812 rq, fun H14 S14 => fin _⟩
      show [V.int (p : Int), V.ref pa, V.int ((n13 : Int) % 6), qv, V.int (hgt A B : Int)] = _
      rw [hnum']
end Mw

set_option Elab.async false
set_option linter.all false
set_option maxRecDepth 100000
set_option maxHeartbeats 4000003
namespace Mw
open PySem.Spec PyProof.Rows L2 LamX PySem
/-! ### what the top has written -/
/-- a look at a code object's fields -/
def codeVs (vs : Array Value) (c P : Addr) : Bool := (match (vs[11]? : Option Value) with | some (.ref P1) => P1 == P | _ => false) && (match vs.getD 18 .none with | .str _ _ => true | _ => false) && (match vs.getD 7 .none with | .int _ _ => true | _ => false) && (match vs.getD 9 .none with | .bool _ => true | _ => false) && (match vs.getD 10 .none with | .int _ _ => true | _ => false) && c != P
theorem km_none {K : Params → PySem.W.Frag} {as : List Addr} {e : ∀ P, as = (K P).map (·.1)} {ts : List Addr} {w : World} {h : Heap} (Y : (PySem.W.kmHook K as e ts).says w h) {a : Addr} (ha : as.contains a = false) : (K w.params).lookup a = none := by
  have e1 := e w.params
  rw [e1] at ha
  generalize K w.params = l at ha
  induction l with
  | nil => rfl
  | cons p r ih =>
    rw [List.map_cons, List.contains_cons, Bool.or_eq_false_iff] at ha
    show List.lookup a (p :: r) = none
    rw [show p = (p.1, p.2) from rfl, List.lookup_cons, ha.1]
    exact ih ha.2
theorem codeHd_by {K : PySem.W.Frag} {c P : Addr} {od : Option Addr} {vs : Array Value} {sl : Array (Option Value)} (l : K.lookup c = some ⟨.type "code", od, .fields vs, sl⟩) (h : codeVs vs c P = true) : PySem.W.codeHdIn K c P = true := by
  unfold PySem.W.codeHdIn
  rw [l]
  exact h
theorem all_mk {l : PySem.W.OpenLaw} {w : World} {K : PySem.W.Frag} {h : Heap} {mg : Str → Option Value} {fa C cT Pt : Addr} (X : K.In h) (G : h.Ns mainGlobals mg) (hfa : mg "law" = some (.ref fa)) (hW : CstI mg "WIDEST_works" (10 ^ 60)) (hPt : h.get? Pt = some { cls := .none, data := .fields #[] })
    {f1 : Addr} {od1 an1 : Option Addr} {sl1 : Array (Option Value)} {oc1 kV1 dc1 pm1 ct1 cd1 : Value}
    {f2 : Addr} {od2 an2 : Option Addr} {sl2 : Array (Option Value)} {oc2 kV2 dc2 pm2 ct2 cd2 : Value}
    {f3 : Addr} {od3 an3 : Option Addr} {sl3 : Array (Option Value)} {oc3 kV3 dc3 pm3 ct3 cd3 : Value}
    {f4 : Addr} {od4 an4 : Option Addr} {sl4 : Array (Option Value)} {oc4 kV4 dc4 pm4 ct4 cd4 : Value}
    {f5 : Addr} {od5 an5 : Option Addr} {sl5 : Array (Option Value)} {oc5 kV5 dc5 pm5 ct5 cd5 : Value}
    {f6 : Addr} {od6 an6 : Option Addr} {sl6 : Array (Option Value)} {oc6 kV6 dc6 pm6 ct6 cd6 : Value}
    {f7 : Addr} {od7 an7 : Option Addr} {sl7 : Array (Option Value)} {oc7 kV7 dc7 pm7 ct7 cd7 : Value}
    {f8 : Addr} {od8 an8 : Option Addr} {sl8 : Array (Option Value)} {oc8 kV8 dc8 pm8 ct8 cd8 : Value}
    {f9 : Addr} {od9 an9 : Option Addr} {sl9 : Array (Option Value)} {oc9 kV9 dc9 pm9 ct9 cd9 : Value}
    {f10 : Addr} {od10 an10 : Option Addr} {sl10 : Array (Option Value)} {oc10 kV10 dc10 pm10 ct10 cd10 : Value}
    {f11 : Addr} {od11 an11 : Option Addr} {sl11 : Array (Option Value)} {oc11 kV11 dc11 pm11 ct11 cd11 : Value}
    {f12 : Addr} {od12 an12 : Option Addr} {sl12 : Array (Option Value)} {oc12 kV12 dc12 pm12 ct12 cd12 : Value}
    {f13 : Addr} {od13 an13 : Option Addr} {sl13 : Array (Option Value)} {oc13 kV13 dc13 pm13 ct13 cd13 : Value}
    {f14 : Addr} {od14 an14 : Option Addr} {sl14 : Array (Option Value)} {oc14 kV14 dc14 pm14 ct14 cd14 : Value}
    {f15 : Addr} {od15 an15 : Option Addr} {sl15 : Array (Option Value)} {oc15 kV15 dc15 pm15 ct15 cd15 : Value}
    {f16 : Addr} {od16 an16 : Option Addr} {sl16 : Array (Option Value)} {oc16 kV16 dc16 pm16 ct16 cd16 : Value}
    {f17 : Addr} {od17 an17 : Option Addr} {sl17 : Array (Option Value)} {oc17 kV17 dc17 pm17 ct17 cd17 : Value}
    {f18 : Addr} {od18 an18 : Option Addr} {sl18 : Array (Option Value)} {oc18 kV18 dc18 pm18 ct18 cd18 : Value}
    {f19 : Addr} {od19 an19 : Option Addr} {sl19 : Array (Option Value)} {oc19 kV19 dc19 pm19 ct19 cd19 : Value}
    {f20 : Addr} {od20 an20 : Option Addr} {sl20 : Array (Option Value)} {oc20 kV20 dc20 pm20 ct20 cd20 : Value}
    {f21 : Addr} {od21 an21 : Option Addr} {sl21 : Array (Option Value)} {oc21 kV21 dc21 pm21 ct21 cd21 : Value}
    {f22 : Addr} {od22 an22 : Option Addr} {sl22 : Array (Option Value)} {oc22 kV22 dc22 pm22 ct22 cd22 : Value}
    {f23 : Addr} {od23 an23 : Option Addr} {sl23 : Array (Option Value)} {oc23 kV23 dc23 pm23 ct23 cd23 : Value}
    {f24 : Addr} {od24 an24 : Option Addr} {sl24 : Array (Option Value)} {oc24 kV24 dc24 pm24 ct24 cd24 : Value}
    {f25 : Addr} {od25 an25 : Option Addr} {sl25 : Array (Option Value)} {oc25 kV25 dc25 pm25 ct25 cd25 : Value}
    {f26 : Addr} {od26 an26 : Option Addr} {sl26 : Array (Option Value)} {oc26 kV26 dc26 pm26 ct26 cd26 : Value}
    {f27 : Addr} {od27 an27 : Option Addr} {sl27 : Array (Option Value)} {oc27 kV27 dc27 pm27 ct27 : Value}
    {f28 : Addr} {od28 an28 : Option Addr} {sl28 : Array (Option Value)} {oc28 kV28 dc28 pm28 ct28 cd28 : Value}
    {f29 : Addr} {od29 an29 : Option Addr} {sl29 : Array (Option Value)} {oc29 kV29 dc29 pm29 ct29 cd29 : Value}
    {f30 : Addr} {od30 an30 : Option Addr} {sl30 : Array (Option Value)} {oc30 kV30 dc30 pm30 ct30 cd30 : Value}
    {f31 : Addr} {od31 an31 : Option Addr} {sl31 : Array (Option Value)} {oc31 kV31 dc31 pm31 ct31 cd31 : Value}
    {f32 : Addr} {od32 an32 : Option Addr} {sl32 : Array (Option Value)} {oc32 kV32 dc32 pm32 ct32 cd32 : Value}
    {f33 : Addr} {od33 an33 : Option Addr} {sl33 : Array (Option Value)} {oc33 kV33 dc33 pm33 ct33 cd33 : Value}
    {f34 : Addr} {od34 an34 : Option Addr} {sl34 : Array (Option Value)} {oc34 kV34 dc34 pm34 ct34 cd34 : Value}
    {f35 : Addr} {od35 an35 : Option Addr} {sl35 : Array (Option Value)} {oc35 kV35 dc35 pm35 ct35 cd35 : Value}
    {f36 : Addr} {od36 an36 : Option Addr} {sl36 : Array (Option Value)} {oc36 kV36 dc36 pm36 ct36 cd36 : Value}
    {f37 : Addr} {od37 an37 : Option Addr} {sl37 : Array (Option Value)} {oc37 kV37 dc37 pm37 ct37 cd37 : Value}
    {f38 : Addr} {od38 an38 : Option Addr} {sl38 : Array (Option Value)} {oc38 kV38 dc38 pm38 ct38 cd38 : Value}
    {f39 : Addr} {od39 an39 : Option Addr} {sl39 : Array (Option Value)} {oc39 kV39 dc39 pm39 ct39 cd39 : Value}
    {f40 : Addr} {od40 an40 : Option Addr} {sl40 : Array (Option Value)} {oc40 kV40 dc40 pm40 ct40 cd40 : Value}
    {f41 : Addr} {od41 an41 : Option Addr} {sl41 : Array (Option Value)} {oc41 kV41 dc41 pm41 ct41 cd41 : Value}
    {f42 : Addr} {od42 an42 : Option Addr} {sl42 : Array (Option Value)} {oc42 kV42 dc42 pm42 ct42 cd42 : Value}
    {f43 : Addr} {od43 an43 : Option Addr} {sl43 : Array (Option Value)} {oc43 kV43 dc43 pm43 ct43 cd43 : Value}
    {f44 : Addr} {od44 an44 : Option Addr} {sl44 : Array (Option Value)} {oc44 kV44 dc44 pm44 ct44 cd44 : Value}
    {f45 : Addr} {od45 an45 : Option Addr} {sl45 : Array (Option Value)} {oc45 kV45 dc45 pm45 ct45 cd45 : Value}
    {f46 : Addr} {od46 an46 : Option Addr} {sl46 : Array (Option Value)} {oc46 kV46 dc46 pm46 ct46 cd46 : Value}
    {f47 : Addr} {od47 an47 : Option Addr} {sl47 : Array (Option Value)} {oc47 kV47 dc47 pm47 ct47 cd47 : Value}
    {f48 : Addr} {od48 an48 : Option Addr} {sl48 : Array (Option Value)} {oc48 kV48 dc48 pm48 ct48 cd48 : Value}
    {f49 : Addr} {od49 an49 : Option Addr} {sl49 : Array (Option Value)} {oc49 kV49 dc49 pm49 ct49 cd49 : Value}
    {f50 : Addr} {od50 an50 : Option Addr} {sl50 : Array (Option Value)} {oc50 kV50 dc50 pm50 ct50 cd50 : Value}
    {f51 : Addr} {od51 an51 : Option Addr} {sl51 : Array (Option Value)} {oc51 kV51 dc51 pm51 ct51 cd51 : Value}
    {f52 : Addr} {od52 an52 : Option Addr} {sl52 : Array (Option Value)} {oc52 kV52 dc52 pm52 ct52 cd52 : Value}
    {f53 : Addr} {od53 an53 : Option Addr} {sl53 : Array (Option Value)} {oc53 kV53 dc53 pm53 ct53 cd53 : Value}
    {t0 : Tok}
    {t1 : Tok}
    {t2 : Tok}
    {t3 : Tok}
    {t4 : Tok}
    {odc : Option Addr} {vsc : Array Value} {slc : Array (Option Value)}
    (aC : PySem.W.nsIn K mainGlobals "Works" = some (some (.ref C)))
    (pgC : PySem.W.plainGet K C Str.empty = true)
    (hdC : PySem.W.hasDictIn K C = true)
    (poC : PySem.W.plainOver K C = true)
    (saC : PySem.W.findIn K (.ref C) "__setattr__" = some (some (.builtin "object.__setattr__")))
    (mkC : PySem.W.makesIn K C = true)
    (kcC : PySem.W.keepIn K (.ref C) = true)
    (nPa : PySem.W.findIn K (.ref C) "parts" = some none)
    (nRo : PySem.W.findIn K (.ref C) "rows" = some none)
    (a1 : PySem.W.nsIn K mainGlobals "good_row" = some (some (.ref f1)))
    (l1 : K.lookup f1 = some ⟨oc1, od1, .func (PySem.W.fnOf "good_row" "good_row" (defArgs sGoodRow) (defBody sGoodRow) (defScope sGoodRow) .none kV1 dc1 pm1 an1 cd1 ct1), sl1⟩)
    (c1 : PySem.W.codeIn K cd1 "good_row" = true)
    (k1 : PySem.W.keepIn K (.ref f1) = true)
    (a2 : PySem.W.findIn K (.ref C) "__init__" = some (some (.ref f2)))
    (i2 : PySem.W.isFn K (.ref f2) = true)
    (l2 : K.lookup f2 = some ⟨oc2, od2, .func (PySem.W.fnOf "__init__" "Works.__init__" (defArgs sInit) (defBody sInit) (defScope sInit) .none kV2 dc2 pm2 an2 cd2 ct2), sl2⟩)
    (c2 : PySem.W.codeIn K cd2 "Works.__init__" = true)
    (k2 : PySem.W.keepIn K (.ref f2) = true)
    (a3 : PySem.W.nsIn K mainGlobals "pieces_of" = some (some (.ref f3)))
    (l3 : K.lookup f3 = some ⟨oc3, od3, .func (PySem.W.fnOf "pieces_of" "pieces_of" (defArgs sPiecesOf) (defBody sPiecesOf) (defScope sPiecesOf) .none kV3 dc3 pm3 an3 cd3 ct3), sl3⟩)
    (c3 : PySem.W.codeIn K cd3 "pieces_of" = true)
    (k3 : PySem.W.keepIn K (.ref f3) = true)
    (a4 : PySem.W.nsIn K mainGlobals "goes_on" = some (some (.ref f4)))
    (l4 : K.lookup f4 = some ⟨oc4, od4, .func (PySem.W.fnOf "goes_on" "goes_on" (defArgs sGoesOn) (defBody sGoesOn) (defScope sGoesOn) .none kV4 dc4 pm4 an4 cd4 ct4), sl4⟩)
    (c4 : PySem.W.codeIn K cd4 "goes_on" = true)
    (k4 : PySem.W.keepIn K (.ref f4) = true)
    (a5 : PySem.W.nsIn K mainGlobals "whole_to" = some (some (.ref f5)))
    (l5 : K.lookup f5 = some ⟨oc5, od5, .func (PySem.W.fnOf "whole_to" "whole_to" (defArgs sWholeTo) (defBody sWholeTo) (defScope sWholeTo) .none kV5 dc5 pm5 an5 cd5 ct5), sl5⟩)
    (c5 : PySem.W.codeIn K cd5 "whole_to" = true)
    (k5 : PySem.W.keepIn K (.ref f5) = true)
    (a6 : PySem.W.nsIn K mainGlobals "ring_from" = some (some (.ref f6)))
    (l6 : K.lookup f6 = some ⟨oc6, od6, .func (PySem.W.fnOf "ring_from" "ring_from" (defArgs sRingFrom) (defBody sRingFrom) (defScope sRingFrom) .none kV6 dc6 pm6 an6 cd6 ct6), sl6⟩)
    (c6 : PySem.W.codeIn K cd6 "ring_from" = true)
    (k6 : PySem.W.keepIn K (.ref f6) = true)
    (a7 : PySem.W.nsIn K mainGlobals "sizes_looked" = some (some (.ref f7)))
    (l7 : K.lookup f7 = some ⟨oc7, od7, .func (PySem.W.fnOf "sizes_looked" "sizes_looked" (defArgs sSizesLooked) (defBody sSizesLooked) (defScope sSizesLooked) .none kV7 dc7 pm7 an7 cd7 ct7), sl7⟩)
    (c7 : PySem.W.codeIn K cd7 "sizes_looked" = true)
    (k7 : PySem.W.keepIn K (.ref f7) = true)
    (a8 : PySem.W.nsIn K mainGlobals "ring_of" = some (some (.ref f8)))
    (l8 : K.lookup f8 = some ⟨oc8, od8, .func (PySem.W.fnOf "ring_of" "ring_of" (defArgs sRingOf) (defBody sRingOf) (defScope sRingOf) .none kV8 dc8 pm8 an8 cd8 ct8), sl8⟩)
    (c8 : PySem.W.codeIn K cd8 "ring_of" = true)
    (k8 : PySem.W.keepIn K (.ref f8) = true)
    (a9 : PySem.W.nsIn K mainGlobals "greatest_part" = some (some (.ref f9)))
    (l9 : K.lookup f9 = some ⟨oc9, od9, .func (PySem.W.fnOf "greatest_part" "greatest_part" (defArgs sGreatestPart) (defBody sGreatestPart) (defScope sGreatestPart) .none kV9 dc9 pm9 an9 cd9 ct9), sl9⟩)
    (c9 : PySem.W.codeIn K cd9 "greatest_part" = true)
    (k9 : PySem.W.keepIn K (.ref f9) = true)
    (a10 : PySem.W.nsIn K mainGlobals "lowered" = some (some (.ref f10)))
    (l10 : K.lookup f10 = some ⟨oc10, od10, .func (PySem.W.fnOf "lowered" "lowered" (defArgs sLowered) (defBody sLowered) (defScope sLowered) .none kV10 dc10 pm10 an10 cd10 ct10), sl10⟩)
    (c10 : PySem.W.codeIn K cd10 "lowered" = true)
    (k10 : PySem.W.keepIn K (.ref f10) = true)
    (a11 : PySem.W.nsIn K mainGlobals "first_place" = some (some (.ref f11)))
    (l11 : K.lookup f11 = some ⟨oc11, od11, .func (PySem.W.fnOf "first_place" "first_place" (defArgs sFirstPlace) (defBody sFirstPlace) (defScope sFirstPlace) .none kV11 dc11 pm11 an11 cd11 ct11), sl11⟩)
    (c11 : PySem.W.codeIn K cd11 "first_place" = true)
    (k11 : PySem.W.keepIn K (.ref f11) = true)
    (a12 : PySem.W.nsIn K mainGlobals "rest_of" = some (some (.ref f12)))
    (l12 : K.lookup f12 = some ⟨oc12, od12, .func (PySem.W.fnOf "rest_of" "rest_of" (defArgs sRestOf) (defBody sRestOf) (defScope sRestOf) .none kV12 dc12 pm12 an12 cd12 ct12), sl12⟩)
    (c12 : PySem.W.codeIn K cd12 "rest_of" = true)
    (k12 : PySem.W.keepIn K (.ref f12) = true)
    (a13 : PySem.W.nsIn K mainGlobals "is_sum" = some (some (.ref f13)))
    (l13 : K.lookup f13 = some ⟨oc13, od13, .func (PySem.W.fnOf "is_sum" "is_sum" (defArgs sIsSum) (defBody sIsSum) (defScope sIsSum) .none kV13 dc13 pm13 an13 cd13 ct13), sl13⟩)
    (c13 : PySem.W.codeIn K cd13 "is_sum" = true)
    (k13 : PySem.W.keepIn K (.ref f13) = true)
    (a14 : PySem.W.nsIn K mainGlobals "widened" = some (some (.ref f14)))
    (l14 : K.lookup f14 = some ⟨oc14, od14, .func (PySem.W.fnOf "widened" "widened" (defArgs sWidened) (defBody sWidened) (defScope sWidened) .none kV14 dc14 pm14 an14 cd14 ct14), sl14⟩)
    (c14 : PySem.W.codeIn K cd14 "widened" = true)
    (k14 : PySem.W.keepIn K (.ref f14) = true)
    (a15 : PySem.W.nsIn K mainGlobals "own_weight" = some (some (.ref f15)))
    (l15 : K.lookup f15 = some ⟨oc15, od15, .func (PySem.W.fnOf "own_weight" "own_weight" (defArgs sOwnWeight) (defBody sOwnWeight) (defScope sOwnWeight) .none kV15 dc15 pm15 an15 cd15 ct15), sl15⟩)
    (c15 : PySem.W.codeIn K cd15 "own_weight" = true)
    (k15 : PySem.W.keepIn K (.ref f15) = true)
    (a16 : PySem.W.nsIn K mainGlobals "laid_weight" = some (some (.ref f16)))
    (l16 : K.lookup f16 = some ⟨oc16, od16, .func (PySem.W.fnOf "laid_weight" "laid_weight" (defArgs sLaidWeight) (defBody sLaidWeight) (defScope sLaidWeight) .none kV16 dc16 pm16 an16 cd16 ct16), sl16⟩)
    (c16 : PySem.W.codeIn K cd16 "laid_weight" = true)
    (k16 : PySem.W.keepIn K (.ref f16) = true)
    (a17 : PySem.W.nsIn K mainGlobals "weights_upto" = some (some (.ref f17)))
    (l17 : K.lookup f17 = some ⟨oc17, od17, .func (PySem.W.fnOf "weights_upto" "weights_upto" (defArgs sWeightsUpto) (defBody sWeightsUpto) (defScope sWeightsUpto) .none kV17 dc17 pm17 an17 cd17 ct17), sl17⟩)
    (c17 : PySem.W.codeIn K cd17 "weights_upto" = true)
    (k17 : PySem.W.keepIn K (.ref f17) = true)
    (a18 : PySem.W.nsIn K mainGlobals "crushers_of" = some (some (.ref f18)))
    (l18 : K.lookup f18 = some ⟨oc18, od18, .func (PySem.W.fnOf "crushers_of" "crushers_of" (defArgs sCrushersOf) (defBody sCrushersOf) (defScope sCrushersOf) .none kV18 dc18 pm18 an18 cd18 ct18), sl18⟩)
    (c18 : PySem.W.codeIn K cd18 "crushers_of" = true)
    (k18 : PySem.W.keepIn K (.ref f18) = true)
    (a19 : PySem.W.nsIn K mainGlobals "openings_of" = some (some (.ref f19)))
    (l19 : K.lookup f19 = some ⟨oc19, od19, .func (PySem.W.fnOf "openings_of" "openings_of" (defArgs sOpeningsOf) (defBody sOpeningsOf) (defScope sOpeningsOf) .none kV19 dc19 pm19 an19 cd19 ct19), sl19⟩)
    (c19 : PySem.W.codeIn K cd19 "openings_of" = true)
    (k19 : PySem.W.keepIn K (.ref f19) = true)
    (a20 : PySem.W.nsIn K mainGlobals "height_of" = some (some (.ref f20)))
    (l20 : K.lookup f20 = some ⟨oc20, od20, .func (PySem.W.fnOf "height_of" "height_of" (defArgs sHeightOf) (defBody sHeightOf) (defScope sHeightOf) .none kV20 dc20 pm20 an20 cd20 ct20), sl20⟩)
    (c20 : PySem.W.codeIn K cd20 "height_of" = true)
    (k20 : PySem.W.keepIn K (.ref f20) = true)
    (a21 : PySem.W.nsIn K mainGlobals "check_two" = some (some (.ref f21)))
    (l21 : K.lookup f21 = some ⟨oc21, od21, .func (PySem.W.fnOf "check_two" "check_two" (defArgs sCheckTwo) (defBody sCheckTwo) (defScope sCheckTwo) .none kV21 dc21 pm21 an21 cd21 ct21), sl21⟩)
    (c21 : PySem.W.codeIn K cd21 "check_two" = true)
    (k21 : PySem.W.keepIn K (.ref f21) = true)
    (a22 : PySem.W.nsIn K mainGlobals "far_goal" = some (some (.ref f22)))
    (l22 : K.lookup f22 = some ⟨oc22, od22, .func (PySem.W.fnOf "far_goal" "far_goal" (defArgs sFarGoal) (defBody sFarGoal) (defScope sFarGoal) .none kV22 dc22 pm22 an22 cd22 ct22), sl22⟩)
    (c22 : PySem.W.codeIn K cd22 "far_goal" = true)
    (k22 : PySem.W.keepIn K (.ref f22) = true)
    (a23 : PySem.W.nsIn K mainGlobals "far_pair" = some (some (.ref f23)))
    (l23 : K.lookup f23 = some ⟨oc23, od23, .func (PySem.W.fnOf "far_pair" "far_pair" (defArgs sFarPair) (defBody sFarPair) (defScope sFarPair) .none kV23 dc23 pm23 an23 cd23 ct23), sl23⟩)
    (c23 : PySem.W.codeIn K cd23 "far_pair" = true)
    (k23 : PySem.W.keepIn K (.ref f23) = true)
    (a24 : PySem.W.nsIn K mainGlobals "next_tail" = some (some (.ref f24)))
    (l24 : K.lookup f24 = some ⟨oc24, od24, .func (PySem.W.fnOf "next_tail" "next_tail" (defArgs sNextTail) (defBody sNextTail) (defScope sNextTail) .none kV24 dc24 pm24 an24 cd24 ct24), sl24⟩)
    (c24 : PySem.W.codeIn K cd24 "next_tail" = true)
    (k24 : PySem.W.keepIn K (.ref f24) = true)
    (a25 : PySem.W.nsIn K mainGlobals "first_tails" = some (some (.ref f25)))
    (l25 : K.lookup f25 = some ⟨oc25, od25, .func (PySem.W.fnOf "first_tails" "first_tails" (defArgs sFirstTails) (defBody sFirstTails) (defScope sFirstTails) .none kV25 dc25 pm25 an25 cd25 ct25), sl25⟩)
    (c25 : PySem.W.codeIn K cd25 "first_tails" = true)
    (k25 : PySem.W.keepIn K (.ref f25) = true)
    (a26 : PySem.W.nsIn K mainGlobals "behind_tail" = some (some (.ref f26)))
    (l26 : K.lookup f26 = some ⟨oc26, od26, .func (PySem.W.fnOf "behind_tail" "behind_tail" (defArgs sBehindTail) (defBody sBehindTail) (defScope sBehindTail) .none kV26 dc26 pm26 an26 cd26 ct26), sl26⟩)
    (c26 : PySem.W.codeIn K cd26 "behind_tail" = true)
    (k26 : PySem.W.keepIn K (.ref f26) = true)
    (a27 : PySem.W.nsIn K mainGlobals "told_tails" = some (some (.ref f27)))
    (l27 : K.lookup f27 = some ⟨oc27, od27, .func (PySem.W.fnOf "told_tails" "told_tails" (defArgs sToldTails) (defBody sToldTails) (defScope sToldTails) .none kV27 dc27 pm27 an27 (.ref cT) ct27), sl27⟩)
    (c27 : PySem.W.codeIn K (.ref cT) "told_tails" = true)
    (k27 : PySem.W.keepIn K (.ref f27) = true)
    (a28 : PySem.W.nsIn K mainGlobals "parted_low" = some (some (.ref f28)))
    (l28 : K.lookup f28 = some ⟨oc28, od28, .func (PySem.W.fnOf "parted_low" "parted_low" (defArgs sPartedLow) (defBody sPartedLow) (defScope sPartedLow) .none kV28 dc28 pm28 an28 cd28 ct28), sl28⟩)
    (c28 : PySem.W.codeIn K cd28 "parted_low" = true)
    (k28 : PySem.W.keepIn K (.ref f28) = true)
    (a29 : PySem.W.nsIn K mainGlobals "same_far" = some (some (.ref f29)))
    (l29 : K.lookup f29 = some ⟨oc29, od29, .func (PySem.W.fnOf "same_far" "same_far" (defArgs sSameFar) (defBody sSameFar) (defScope sSameFar) .none kV29 dc29 pm29 an29 cd29 ct29), sl29⟩)
    (c29 : PySem.W.codeIn K cd29 "same_far" = true)
    (k29 : PySem.W.keepIn K (.ref f29) = true)
    (a30 : PySem.W.nsIn K mainGlobals "first_unlike" = some (some (.ref f30)))
    (l30 : K.lookup f30 = some ⟨oc30, od30, .func (PySem.W.fnOf "first_unlike" "first_unlike" (defArgs sFirstUnlike) (defBody sFirstUnlike) (defScope sFirstUnlike) .none kV30 dc30 pm30 an30 cd30 ct30), sl30⟩)
    (c30 : PySem.W.codeIn K cd30 "first_unlike" = true)
    (k30 : PySem.W.keepIn K (.ref f30) = true)
    (a31 : PySem.W.nsIn K mainGlobals "parting_of" = some (some (.ref f31)))
    (l31 : K.lookup f31 = some ⟨oc31, od31, .func (PySem.W.fnOf "parting_of" "parting_of" (defArgs sPartingOf) (defBody sPartingOf) (defScope sPartingOf) .none kV31 dc31 pm31 an31 cd31 ct31), sl31⟩)
    (c31 : PySem.W.codeIn K cd31 "parting_of" = true)
    (k31 : PySem.W.keepIn K (.ref f31) = true)
    (a32 : PySem.W.nsIn K mainGlobals "alike_papers" = some (some (.ref f32)))
    (l32 : K.lookup f32 = some ⟨oc32, od32, .func (PySem.W.fnOf "alike_papers" "alike_papers" (defArgs sAlikePapers) (defBody sAlikePapers) (defScope sAlikePapers) .none kV32 dc32 pm32 an32 cd32 ct32), sl32⟩)
    (c32 : PySem.W.codeIn K cd32 "alike_papers" = true)
    (k32 : PySem.W.keepIn K (.ref f32) = true)
    (a33 : PySem.W.nsIn K mainGlobals "_law_cell" = some (some (.ref f33)))
    (l33 : K.lookup f33 = some ⟨oc33, od33, .func (PySem.W.fnOf "_law_cell" "_law_cell" (defArgs sLawCell) (defBody sLawCell) (defScope sLawCell) .none kV33 dc33 pm33 an33 cd33 ct33), sl33⟩)
    (c33 : PySem.W.codeIn K cd33 "_law_cell" = true)
    (k33 : PySem.W.keepIn K (.ref f33) = true)
    (a34 : PySem.W.nsIn K mainGlobals "_law_row" = some (some (.ref f34)))
    (l34 : K.lookup f34 = some ⟨oc34, od34, .func (PySem.W.fnOf "_law_row" "_law_row" (defArgs sLawRow) (defBody sLawRow) (defScope sLawRow) .none kV34 dc34 pm34 an34 cd34 ct34), sl34⟩)
    (c34 : PySem.W.codeIn K cd34 "_law_row" = true)
    (k34 : PySem.W.keepIn K (.ref f34) = true)
    (a35 : PySem.W.nsIn K mainGlobals "_law_end" = some (some (.ref f35)))
    (l35 : K.lookup f35 = some ⟨oc35, od35, .func (PySem.W.fnOf "_law_end" "_law_end" (defArgs sLawEnd) (defBody sLawEnd) (defScope sLawEnd) .none kV35 dc35 pm35 an35 cd35 ct35), sl35⟩)
    (c35 : PySem.W.codeIn K cd35 "_law_end" = true)
    (k35 : PySem.W.keepIn K (.ref f35) = true)
    (a36 : PySem.W.nsIn K mainGlobals "_law_stuck" = some (some (.ref f36)))
    (l36 : K.lookup f36 = some ⟨oc36, od36, .func (PySem.W.fnOf "_law_stuck" "_law_stuck" (defArgs sLawStuck) (defBody sLawStuck) (defScope sLawStuck) .none kV36 dc36 pm36 an36 cd36 ct36), sl36⟩)
    (c36 : PySem.W.codeIn K cd36 "_law_stuck" = true)
    (k36 : PySem.W.keepIn K (.ref f36) = true)
    (a37 : PySem.W.nsIn K mainGlobals "_law_forward" = some (some (.ref f37)))
    (l37 : K.lookup f37 = some ⟨oc37, od37, .func (PySem.W.fnOf "_law_forward" "_law_forward" (defArgs sLawForward) (defBody sLawForward) (defScope sLawForward) .none kV37 dc37 pm37 an37 cd37 ct37), sl37⟩)
    (c37 : PySem.W.codeIn K cd37 "_law_forward" = true)
    (k37 : PySem.W.keepIn K (.ref f37) = true)
    (a38 : PySem.W.nsIn K mainGlobals "_law_rows" = some (some (.ref f38)))
    (l38 : K.lookup f38 = some ⟨oc38, od38, .func (PySem.W.fnOf "_law_rows" "_law_rows" (defArgs sLawRows) (defBody sLawRows) (defScope sLawRows) .none kV38 dc38 pm38 an38 cd38 ct38), sl38⟩)
    (c38 : PySem.W.codeIn K cd38 "_law_rows" = true)
    (k38 : PySem.W.keepIn K (.ref f38) = true)
    (a39 : PySem.W.nsIn K mainGlobals "_law_laid" = some (some (.ref f39)))
    (l39 : K.lookup f39 = some ⟨oc39, od39, .func (PySem.W.fnOf "_law_laid" "_law_laid" (defArgs sLawLaid) (defBody sLawLaid) (defScope sLawLaid) .none kV39 dc39 pm39 an39 cd39 ct39), sl39⟩)
    (c39 : PySem.W.codeIn K cd39 "_law_laid" = true)
    (k39 : PySem.W.keepIn K (.ref f39) = true)
    (a40 : PySem.W.nsIn K mainGlobals "_law_sizes" = some (some (.ref f40)))
    (l40 : K.lookup f40 = some ⟨oc40, od40, .func (PySem.W.fnOf "_law_sizes" "_law_sizes" (defArgs sLawSizes) (defBody sLawSizes) (defScope sLawSizes) .none kV40 dc40 pm40 an40 cd40 ct40), sl40⟩)
    (c40 : PySem.W.codeIn K cd40 "_law_sizes" = true)
    (k40 : PySem.W.keepIn K (.ref f40) = true)
    (a41 : PySem.W.nsIn K mainGlobals "_law_far_row" = some (some (.ref f41)))
    (l41 : K.lookup f41 = some ⟨oc41, od41, .func (PySem.W.fnOf "_law_far_row" "_law_far_row" (defArgs sLawFarRow) (defBody sLawFarRow) (defScope sLawFarRow) .none kV41 dc41 pm41 an41 cd41 ct41), sl41⟩)
    (c41 : PySem.W.codeIn K cd41 "_law_far_row" = true)
    (k41 : PySem.W.keepIn K (.ref f41) = true)
    (a42 : PySem.W.nsIn K mainGlobals "_law_renamed" = some (some (.ref f42)))
    (l42 : K.lookup f42 = some ⟨oc42, od42, .func (PySem.W.fnOf "_law_renamed" "_law_renamed" (defArgs sLawRenamed) (defBody sLawRenamed) (defScope sLawRenamed) .none kV42 dc42 pm42 an42 cd42 ct42), sl42⟩)
    (c42 : PySem.W.codeIn K cd42 "_law_renamed" = true)
    (k42 : PySem.W.keepIn K (.ref f42) = true)
    (a43 : PySem.W.nsIn K mainGlobals "_law_redirected" = some (some (.ref f43)))
    (l43 : K.lookup f43 = some ⟨oc43, od43, .func (PySem.W.fnOf "_law_redirected" "_law_redirected" (defArgs sLawRedirected) (defBody sLawRedirected) (defScope sLawRedirected) .none kV43 dc43 pm43 an43 cd43 ct43), sl43⟩)
    (c43 : PySem.W.codeIn K cd43 "_law_redirected" = true)
    (k43 : PySem.W.keepIn K (.ref f43) = true)
    (a44 : PySem.W.nsIn K mainGlobals "_law_nearly" = some (some (.ref f44)))
    (l44 : K.lookup f44 = some ⟨oc44, od44, .func (PySem.W.fnOf "_law_nearly" "_law_nearly" (defArgs sLawNearly) (defBody sLawNearly) (defScope sLawNearly) .none kV44 dc44 pm44 an44 cd44 ct44), sl44⟩)
    (c44 : PySem.W.codeIn K cd44 "_law_nearly" = true)
    (k44 : PySem.W.keepIn K (.ref f44) = true)
    (a45 : PySem.W.nsIn K mainGlobals "_law_beside" = some (some (.ref f45)))
    (l45 : K.lookup f45 = some ⟨oc45, od45, .func (PySem.W.fnOf "_law_beside" "_law_beside" (defArgs sLawBeside) (defBody sLawBeside) (defScope sLawBeside) .none kV45 dc45 pm45 an45 cd45 ct45), sl45⟩)
    (c45 : PySem.W.codeIn K cd45 "_law_beside" = true)
    (k45 : PySem.W.keepIn K (.ref f45) = true)
    (a46 : PySem.W.nsIn K mainGlobals "_law_two" = some (some (.ref f46)))
    (l46 : K.lookup f46 = some ⟨oc46, od46, .func (PySem.W.fnOf "_law_two" "_law_two" (defArgs sLawTwo) (defBody sLawTwo) (defScope sLawTwo) .none kV46 dc46 pm46 an46 cd46 ct46), sl46⟩)
    (c46 : PySem.W.codeIn K cd46 "_law_two" = true)
    (k46 : PySem.W.keepIn K (.ref f46) = true)
    (a47 : PySem.W.nsIn K mainGlobals "_law_lowered" = some (some (.ref f47)))
    (l47 : K.lookup f47 = some ⟨oc47, od47, .func (PySem.W.fnOf "_law_lowered" "_law_lowered" (defArgs sLawLowered) (defBody sLawLowered) (defScope sLawLowered) .none kV47 dc47 pm47 an47 cd47 ct47), sl47⟩)
    (c47 : PySem.W.codeIn K cd47 "_law_lowered" = true)
    (k47 : PySem.W.keepIn K (.ref f47) = true)
    (a48 : PySem.W.nsIn K mainGlobals "_law_left" = some (some (.ref f48)))
    (l48 : K.lookup f48 = some ⟨oc48, od48, .func (PySem.W.fnOf "_law_left" "_law_left" (defArgs sLawLeft) (defBody sLawLeft) (defScope sLawLeft) .none kV48 dc48 pm48 an48 cd48 ct48), sl48⟩)
    (c48 : PySem.W.codeIn K cd48 "_law_left" = true)
    (k48 : PySem.W.keepIn K (.ref f48) = true)
    (a49 : PySem.W.nsIn K mainGlobals "_law_wider" = some (some (.ref f49)))
    (l49 : K.lookup f49 = some ⟨oc49, od49, .func (PySem.W.fnOf "_law_wider" "_law_wider" (defArgs sLawWider) (defBody sLawWider) (defScope sLawWider) .none kV49 dc49 pm49 an49 cd49 ct49), sl49⟩)
    (c49 : PySem.W.codeIn K cd49 "_law_wider" = true)
    (k49 : PySem.W.keepIn K (.ref f49) = true)
    (a50 : PySem.W.nsIn K mainGlobals "_law_crushers" = some (some (.ref f50)))
    (l50 : K.lookup f50 = some ⟨oc50, od50, .func (PySem.W.fnOf "_law_crushers" "_law_crushers" (defArgs sLawCrushers) (defBody sLawCrushers) (defScope sLawCrushers) .none kV50 dc50 pm50 an50 cd50 ct50), sl50⟩)
    (c50 : PySem.W.codeIn K cd50 "_law_crushers" = true)
    (k50 : PySem.W.keepIn K (.ref f50) = true)
    (a51 : PySem.W.nsIn K mainGlobals "_law_tail" = some (some (.ref f51)))
    (l51 : K.lookup f51 = some ⟨oc51, od51, .func (PySem.W.fnOf "_law_tail" "_law_tail" (defArgs sLawTail) (defBody sLawTail) (defScope sLawTail) .none kV51 dc51 pm51 an51 cd51 ct51), sl51⟩)
    (c51 : PySem.W.codeIn K cd51 "_law_tail" = true)
    (k51 : PySem.W.keepIn K (.ref f51) = true)
    (a52 : PySem.W.nsIn K mainGlobals "_law_least" = some (some (.ref f52)))
    (l52 : K.lookup f52 = some ⟨oc52, od52, .func (PySem.W.fnOf "_law_least" "_law_least" (defArgs sLawLeast) (defBody sLawLeast) (defScope sLawLeast) .none kV52 dc52 pm52 an52 cd52 ct52), sl52⟩)
    (c52 : PySem.W.codeIn K cd52 "_law_least" = true)
    (k52 : PySem.W.keepIn K (.ref f52) = true)
    (a53 : PySem.W.nsIn K mainGlobals "law" = some (some (.ref f53)))
    (l53 : K.lookup f53 = some ⟨oc53, od53, .func (PySem.W.fnOf "law" "law" (defArgs sLaw) (defBody sLaw) (defScope sLaw) .none kV53 dc53 pm53 an53 cd53 ct53), sl53⟩)
    (c53 : PySem.W.codeIn K cd53 "law" = true)
    (k53 : PySem.W.keepIn K (.ref f53) = true)
    (n_len : PySem.W.nsIn K mainGlobals "len" = some none)
    (n_range : PySem.W.nsIn K mainGlobals "range" = some none)
    (n_max : PySem.W.nsIn K mainGlobals "max" = some none)
    (n_min : PySem.W.nsIn K mainGlobals "min" = some none)
    (n_abs : PySem.W.nsIn K mainGlobals "abs" = some none)
    (n_int : PySem.W.nsIn K mainGlobals "int" = some none)
    (n_sorted : PySem.W.nsIn K mainGlobals "sorted" = some none)
    (n_dict : PySem.W.nsIn K mainGlobals "dict" = some none)
    (n_list : PySem.W.nsIn K mainGlobals "list" = some none)
    (n_enumerate : PySem.W.nsIn K mainGlobals "enumerate" = some none)
    (m0 : PySem.W.nsIn K mainGlobals "MOST_ROWS" = some (some (.int 12 t0)))
    (m1 : PySem.W.nsIn K mainGlobals "MOST_PARTS" = some (some (.int 9 t1)))
    (m2 : PySem.W.nsIn K mainGlobals "MOST_BIN" = some (some (.int 5 t2)))
    (m3 : PySem.W.nsIn K mainGlobals "MOST_CRUSHERS" = some (some (.int 4 t3)))
    (m4 : PySem.W.nsIn K mainGlobals "WIDEST_alike" = some (some (.int 20 t4)))
    (lc : K.lookup cT = some ⟨.type "code", odc, .fields vsc, slc⟩)
    (hv : codeVs vsc cT Pt = true)
    (nPt : K.lookup Pt = none)
    : LawAtS l w K CX0 10 63 "script" mg fa h := by
  have e := hfa.symm.trans (PySem.W.mg_of X G a53)
  cases e
  have Tx : TxtM K mg C := ⟨⟨pgC, hdC, poC, saC⟩, nPa, nRo, PySem.W.mg_none_of X G n_len, PySem.W.mg_none_of X G n_range, PySem.W.mg_none_of X G n_max, PySem.W.mg_none_of X G n_min, PySem.W.mg_none_of X G n_abs, PySem.W.mg_none_of X G n_int, PySem.W.mg_none_of X G n_sorted, PySem.W.mg_none_of X G n_dict, PySem.W.mg_none_of X G n_list, PySem.W.mg_none_of X G n_enumerate, ⟨t0, PySem.W.mg_of X G m0⟩, ⟨t1, PySem.W.mg_of X G m1⟩, ⟨t2, PySem.W.mg_of X G m2⟩, hW, ⟨t3, PySem.W.mg_of X G m3⟩, ⟨t4, PySem.W.mg_of X G m4⟩⟩
  have F1 := fun_mk (st := sGoodRow) l1 c1 k1
  have b1 := F1.binds (ps := ["row", "many"]) fun _ _ _ _ _ _ us hl => match us, hl with | [_, _], _ => rfl
  have F2 := fun_mk (st := sInit) l2 c2 k2
  have b2 := F2.binds (ps := ["self", "parts", "rows"]) fun _ _ _ _ _ _ us hl => match us, hl with | [_, _, _], _ => rfl
  have F3 := fun_mk (st := sPiecesOf) l3 c3 k3
  have b3 := F3.binds (ps := ["size", "parts"]) fun _ _ _ _ _ _ us hl => match us, hl with | [_, _], _ => rfl
  have F4 := fun_mk (st := sGoesOn) l4 c4 k4
  have b4 := F4.binds (ps := ["works", "row", "size"]) fun _ _ _ _ _ _ us hl => match us, hl with | [_, _, _], _ => rfl
  have F5 := fun_mk (st := sWholeTo) l5 c5 k5
  have b5 := F5.binds (ps := ["works", "row", "size"]) fun _ _ _ _ _ _ us hl => match us, hl with | [_, _, _], _ => rfl
  have F6 := fun_mk (st := sRingFrom) l6 c6 k6
  have b6 := F6.binds (ps := ["works", "row", "size"]) fun _ _ _ _ _ _ us hl => match us, hl with | [_, _, _], _ => rfl
  have F7 := fun_mk (st := sSizesLooked) l7 c7 k7
  have b7 := F7.binds (ps := ["works"]) fun _ _ _ _ _ _ us hl => match us, hl with | [_], _ => rfl
  have F8 := fun_mk (st := sRingOf) l8 c8 k8
  have b8 := F8.binds (ps := ["works"]) fun _ _ _ _ _ _ us hl => match us, hl with | [_], _ => rfl
  have F9 := fun_mk (st := sGreatestPart) l9 c9 k9
  have b9 := F9.binds (ps := ["row"]) fun _ _ _ _ _ _ us hl => match us, hl with | [_], _ => rfl
  have F10 := fun_mk (st := sLowered) l10 c10 k10
  have b10 := F10.binds (ps := ["row"]) fun _ _ _ _ _ _ us hl => match us, hl with | [_], _ => rfl
  have F11 := fun_mk (st := sFirstPlace) l11 c11 k11
  have b11 := F11.binds (ps := ["row"]) fun _ _ _ _ _ _ us hl => match us, hl with | [_], _ => rfl
  have F12 := fun_mk (st := sRestOf) l12 c12 k12
  have b12 := F12.binds (ps := ["span", "row"]) fun _ _ _ _ _ _ us hl => match us, hl with | [_, _], _ => rfl
  have F13 := fun_mk (st := sIsSum) l13 c13 k13
  have b13 := F13.binds (ps := ["span", "row"]) fun _ _ _ _ _ _ us hl => match us, hl with | [_, _], _ => rfl
  have F14 := fun_mk (st := sWidened) l14 c14 k14
  have b14 := F14.binds (ps := ["span", "row"]) fun _ _ _ _ _ _ us hl => match us, hl with | [_, _], _ => rfl
  have F15 := fun_mk (st := sOwnWeight) l15 c15 k15
  have b15 := F15.binds (ps := ["works", "row", "size", "number"]) fun _ _ _ _ _ _ us hl => match us, hl with | [_, _, _, _], _ => rfl
  have F16 := fun_mk (st := sLaidWeight) l16 c16 k16
  have b16 := F16.binds (ps := ["works", "row", "size", "number", "ahead_of"]) fun _ _ _ _ _ _ us hl => match us, hl with | [_, _, _, _, _], _ => rfl
  have F17 := fun_mk (st := sWeightsUpto) l17 c17 k17
  have b17 := F17.binds (ps := ["works", "number", "most"]) fun _ _ _ _ _ _ us hl => match us, hl with | [_, _, _], _ => rfl
  have F18 := fun_mk (st := sCrushersOf) l18 c18 k18
  have b18 := F18.binds (ps := ["works"]) fun _ _ _ _ _ _ us hl => match us, hl with | [_], _ => rfl
  have F19 := fun_mk (st := sOpeningsOf) l19 c19 k19
  have b19 := F19.binds (ps := ["works"]) fun _ _ _ _ _ _ us hl => match us, hl with | [_], _ => rfl
  have F20 := fun_mk (st := sHeightOf) l20 c20 k20
  have b20 := F20.binds (ps := ["one", "other"]) fun _ _ _ _ _ _ us hl => match us, hl with | [_, _], _ => rfl
  have F21 := fun_mk (st := sCheckTwo) l21 c21 k21
  have b21 := F21.binds (ps := ["one", "other"]) fun _ _ _ _ _ _ us hl => match us, hl with | [_, _], _ => rfl
  have F22 := fun_mk (st := sFarGoal) l22 c22 k22
  have b22 := F22.binds (ps := ["works", "row"]) fun _ _ _ _ _ _ us hl => match us, hl with | [_, _], _ => rfl
  have F23 := fun_mk (st := sFarPair) l23 c23 k23
  have b23 := F23.binds (ps := ["works", "places", "first", "row", "number"]) fun _ _ _ _ _ _ us hl => match us, hl with | [_, _, _, _, _], _ => rfl
  have F24 := fun_mk (st := sNextTail) l24 c24 k24
  have b24 := F24.binds (ps := ["one", "other", "places", "rest", "number"]) fun _ _ _ _ _ _ us hl => match us, hl with | [_, _, _, _, _], _ => rfl
  have F25 := fun_mk (st := sFirstTails) l25 c25 k25
  have b25 := F25.binds (ps := ["one", "other", "number"]) fun _ _ _ _ _ _ us hl => match us, hl with | [_, _, _], _ => rfl
  have F26 := fun_mk (st := sBehindTail) l26 c26 k26
  have b26 := F26.binds (ps := ["one", "other", "places", "number"]) fun _ _ _ _ _ _ us hl => match us, hl with | [_, _, _, _], _ => rfl
  have F27 : FunC K "told_tails" "told_tails" sToldTails f27 _ cT := ⟨⟨_, _, _, _, _, _, _, _, rfl, l27, c27⟩, k27⟩
  have b27 := F27.fn.binds (ps := ["one", "other", "number"]) fun _ _ _ _ _ _ us hl => match us, hl with | [_, _, _], _ => rfl
  have F28 := fun_mk (st := sPartedLow) l28 c28 k28
  have b28 := F28.binds (ps := ["one", "other", "number"]) fun _ _ _ _ _ _ us hl => match us, hl with | [_, _, _], _ => rfl
  have F29 := fun_mk (st := sSameFar) l29 c29 k29
  have b29 := F29.binds (ps := ["one", "other", "places", "number"]) fun _ _ _ _ _ _ us hl => match us, hl with | [_, _, _, _], _ => rfl
  have F30 := fun_mk (st := sFirstUnlike) l30 c30 k30
  have b30 := F30.binds (ps := ["one", "other", "number"]) fun _ _ _ _ _ _ us hl => match us, hl with | [_, _, _], _ => rfl
  have F31 := fun_mk (st := sPartingOf) l31 c31 k31
  have b31 := F31.binds (ps := ["one", "other"]) fun _ _ _ _ _ _ us hl => match us, hl with | [_, _], _ => rfl
  have F32 := fun_mk (st := sAlikePapers) l32 c32 k32
  have b32 := F32.binds (ps := ["one", "other"]) fun _ _ _ _ _ _ us hl => match us, hl with | [_, _], _ => rfl
  have F33 := fun_mk (st := sLawCell) l33 c33 k33
  have b33 := F33.binds (ps := ["script", "k"]) fun _ _ _ _ _ _ us hl => match us, hl with | [_, _], _ => rfl
  have F34 := fun_mk (st := sLawRow) l34 c34 k34
  have b34 := F34.binds (ps := ["cell", "many", "most"]) fun _ _ _ _ _ _ us hl => match us, hl with | [_, _, _], _ => rfl
  have F35 := fun_mk (st := sLawEnd) l35 c35 k35
  have b35 := F35.binds (ps := ["rows", "row", "size"]) fun _ _ _ _ _ _ us hl => match us, hl with | [_, _, _], _ => rfl
  have F36 := fun_mk (st := sLawStuck) l36 c36 k36
  have b36 := F36.binds (ps := ["rows"]) fun _ _ _ _ _ _ us hl => match us, hl with | [_], _ => rfl
  have F37 := fun_mk (st := sLawForward) l37 c37 k37
  have b37 := F37.binds (ps := ["rows"]) fun _ _ _ _ _ _ us hl => match us, hl with | [_], _ => rfl
  have F38 := fun_mk (st := sLawRows) l38 c38 k38
  have b38 := F38.binds (ps := ["script", "at", "many", "most", "crushers"]) fun _ _ _ _ _ _ us hl => match us, hl with | [_, _, _, _, _], _ => rfl
  have F39 := fun_mk (st := sLawLaid) l39 c39 k39
  have b39 := F39.binds (ps := ["parts", "rows", "row", "size", "number", "table"]) fun _ _ _ _ _ _ us hl => match us, hl with | [_, _, _, _, _, _], _ => rfl
  have F40 := fun_mk (st := sLawSizes) l40 c40 k40
  have b40 := F40.binds (ps := ["parts", "size"]) fun _ _ _ _ _ _ us hl => match us, hl with | [_, _], _ => rfl
  have F41 := fun_mk (st := sLawFarRow) l41 c41 k41
  have b41 := F41.binds (ps := ["parts", "rows", "size", "number"]) fun _ _ _ _ _ _ us hl => match us, hl with | [_, _, _, _], _ => rfl
  have F42 := fun_mk (st := sLawRenamed) l42 c42 k42
  have b42 := F42.binds (ps := ["rows", "names"]) fun _ _ _ _ _ _ us hl => match us, hl with | [_, _], _ => rfl
  have F43 := fun_mk (st := sLawRedirected) l43 c43 k43
  have b43 := F43.binds (ps := ["rows", "at", "old", "new"]) fun _ _ _ _ _ _ us hl => match us, hl with | [_, _, _, _], _ => rfl
  have F44 := fun_mk (st := sLawNearly) l44 c44 k44
  have b44 := F44.binds (ps := ["rows", "cell"]) fun _ _ _ _ _ _ us hl => match us, hl with | [_, _], _ => rfl
  have F45 := fun_mk (st := sLawBeside) l45 c45 k45
  have b45 := F45.binds (ps := ["rows", "cell"]) fun _ _ _ _ _ _ us hl => match us, hl with | [_, _], _ => rfl
  have F46 := fun_mk (st := sLawTwo) l46 c46 k46
  have b46 := F46.binds (ps := ["script", "many", "most", "crushers"]) fun _ _ _ _ _ _ us hl => match us, hl with | [_, _, _, _], _ => rfl
  have F47 := fun_mk (st := sLawLowered) l47 c47 k47
  have b47 := F47.binds (ps := ["row"]) fun _ _ _ _ _ _ us hl => match us, hl with | [_], _ => rfl
  have F48 := fun_mk (st := sLawLeft) l48 c48 k48
  have b48 := F48.binds (ps := ["span", "row"]) fun _ _ _ _ _ _ us hl => match us, hl with | [_, _], _ => rfl
  have F49 := fun_mk (st := sLawWider) l49 c49 k49
  have b49 := F49.binds (ps := ["span", "row"]) fun _ _ _ _ _ _ us hl => match us, hl with | [_, _], _ => rfl
  have F50 := fun_mk (st := sLawCrushers) l50 c50 k50
  have b50 := F50.binds (ps := ["rows"]) fun _ _ _ _ _ _ us hl => match us, hl with | [_], _ => rfl
  have F51 := fun_mk (st := sLawTail) l51 c51 k51
  have b51 := F51.binds (ps := ["parts", "pair", "size", "number"]) fun _ _ _ _ _ _ us hl => match us, hl with | [_, _, _, _], _ => rfl
  have F52 := fun_mk (st := sLawLeast) l52 c52 k52
  have b52 := F52.binds (ps := ["parts", "pair", "number", "sizes", "height"]) fun _ _ _ _ _ _ us hl => match us, hl with | [_, _, _, _, _], _ => rfl
  have F53 := fun_mk (st := sLaw) l53 c53 k53
  have b53 := F53.binds (ps := ["script"]) fun _ _ _ _ _ _ us hl => match us, hl with | [_], _ => rfl
  have tabs : ∀ H : Hp, (∀ p ∈ [(cT, Pt)], H p.2 = some (.tbl #[])) → Tabs [(Pt, lamQ)] H := fun H hH p hp => by
    rw [List.mem_singleton.mp hp]
    exact TabS.nil (hH (cT, Pt) (List.mem_singleton.mpr rfl))
  refine ⟨PySem.W.fnOf "law" "law" (defArgs sLaw) (defBody sLaw) (defScope sLaw) .none kV53 dc53 pm53 an53 cd53 ct53, [(cT, Pt)], spLaw [(Pt, lamQ)] K, fun p hp => ?_, fun p hp => ?_, fun p hp => ?_, fun s v => .of_eq rfl, fun H a ns _ _ hH hS => ⟨a, ns, rfl, hS, tabs H hH, fun _ => rfl⟩, fun base _ _ hTB => ?_⟩
  · (rw [List.mem_singleton.mp hp])
    exact hPt
  · (rw [List.mem_singleton.mp hp])
    exact nPt
  · (rw [List.mem_singleton.mp hp])
    exact PySem.W.codeHd_of_K X (codeHd_by lc hv)
  · have TB := hTB (cT, Pt) (List.mem_singleton.mpr rfl)
    have hmT : (Pt, lamQ) ∈ [(Pt, lamQ)] := List.mem_singleton.mpr rfl
    have huT : ∀ x ∈ [(Pt, lamQ)], x.1 = Pt → x.2 = lamQ := fun x hx _ => by
      rw [List.mem_singleton.mp hx]
    have H1 : Has l.prog w K mg base "good_row" ["row", "many"] 1 (spGoodRow [(Pt, lamQ)] K) := ⟨⟨f1, _, PySem.W.mg_of X G a1, k1, b1, okGoodRow F1 Tx⟩⟩
    have o2 : FnOk l.prog w K mg base CX0 2 f2 _ ["self", "parts", "rows"] (spInit [(Pt, lamQ)] C) := okInit F2 Tx H1
    have HWorks : MkW l.prog w K mg base [(Pt, lamQ)] C := ⟨⟨f2, _, ⟨mkC, a2, i2, kcC⟩, PySem.W.mg_of X G aC, b2, o2⟩⟩
    have H3 : Has l.prog w K mg base "pieces_of" ["size", "parts"] 1 (spPieces [(Pt, lamQ)]) := ⟨⟨f3, _, PySem.W.mg_of X G a3, k3, b3, okPiecesOf F3⟩⟩
    have H4 : Has l.prog w K mg base "goes_on" ["works", "row", "size"] 2 (spGoes [(Pt, lamQ)] C) := ⟨⟨f4, _, PySem.W.mg_of X G a4, k4, b4, okGoesOn F4 Tx H3⟩⟩
    have H5 : Has l.prog w K mg base "whole_to" ["works", "row", "size"] 3 (spWhole [(Pt, lamQ)] C) := ⟨⟨f5, _, PySem.W.mg_of X G a5, k5, b5, okWholeTo F5 Tx H4⟩⟩
    have H6 : Has l.prog w K mg base "ring_from" ["works", "row", "size"] 4 (spRingFrom [(Pt, lamQ)] C) := ⟨⟨f6, _, PySem.W.mg_of X G a6, k6, b6, okRingFrom F6 Tx H5⟩⟩
    have H7 : Has l.prog w K mg base "sizes_looked" ["works"] 1 (spSizesLooked [(Pt, lamQ)] C) := ⟨⟨f7, _, PySem.W.mg_of X G a7, k7, b7, okSizesLooked F7 Tx⟩⟩
    have H8 : Has l.prog w K mg base "ring_of" ["works"] 5 (spRingOf [(Pt, lamQ)] C) := ⟨⟨f8, _, PySem.W.mg_of X G a8, k8, b8, okRingOf F8 Tx H6 H7⟩⟩
    have H9 : Has l.prog w K mg base "greatest_part" ["row"] 1 (spInts [(Pt, lamQ)] fun row => .int (gcdL row : Int)) := ⟨⟨f9, _, PySem.W.mg_of X G a9, k9, b9, okGreatestPart F9 Tx⟩⟩
    have H10 : Has l.prog w K mg base "lowered" ["row"] 2 (spLowered [(Pt, lamQ)]) := ⟨⟨f10, _, PySem.W.mg_of X G a10, k10, b10, okLowered F10 Tx H9⟩⟩
    have H11 : Has l.prog w K mg base "first_place" ["row"] 1 (spInts [(Pt, lamQ)] fun row => .int (placeV (fp row))) := ⟨⟨f11, _, PySem.W.mg_of X G a11, k11, b11, okFirstPlace F11 Tx⟩⟩
    have H12 : Has l.prog w K mg base "rest_of" ["span", "row"] 3 (spRest [(Pt, lamQ)]) := ⟨⟨f12, _, PySem.W.mg_of X G a12, k12, b12, okRestOf F12 Tx H10⟩⟩
    have H13 : Has l.prog w K mg base "is_sum" ["span", "row"] 4 (spIsSum [(Pt, lamQ)]) := ⟨⟨f13, _, PySem.W.mg_of X G a13, k13, b13, okIsSum F13 Tx H12 H11⟩⟩
    have H14 : Has l.prog w K mg base "widened" ["span", "row"] 4 (spWidened [(Pt, lamQ)] widen) := ⟨⟨f14, _, PySem.W.mg_of X G a14, k14, b14, okWidened F14 Tx H12 H11 H10⟩⟩
    have H15 : Has l.prog w K mg base "own_weight" ["works", "row", "size", "number"] 1 (spOwn [(Pt, lamQ)] C) := ⟨⟨f15, _, PySem.W.mg_of X G a15, k15, b15, okOwnWeight F15 Tx⟩⟩
    have H16 : Has l.prog w K mg base "laid_weight" ["works", "row", "size", "number", "ahead_of"] 3 (spLaid [(Pt, lamQ)] C) := ⟨⟨f16, _, PySem.W.mg_of X G a16, k16, b16, okLaidWeight F16 Tx H4 H15⟩⟩
    have H17 : Has l.prog w K mg base "weights_upto" ["works", "number", "most"] 4 (spUpto [(Pt, lamQ)] C) := ⟨⟨f17, _, PySem.W.mg_of X G a17, k17, b17, okWeightsUpto F17 Tx H16⟩⟩
    have H18 : Has l.prog w K mg base "crushers_of" ["works"] 1 (spCrushers [(Pt, lamQ)] C) := ⟨⟨f18, _, PySem.W.mg_of X G a18, k18, b18, okCrushersOf F18 Tx⟩⟩
    have H19 : Has l.prog w K mg base "openings_of" ["works"] 1 (spOpenings [(Pt, lamQ)] C) := ⟨⟨f19, _, PySem.W.mg_of X G a19, k19, b19, okOpeningsOf F19 Tx⟩⟩
    have H20 : Has l.prog w K mg base "height_of" ["one", "other"] 2 (spHeight [(Pt, lamQ)] C) := ⟨⟨f20, _, PySem.W.mg_of X G a20, k20, b20, okHeightOf F20 Tx H19⟩⟩
    have H21 : Has l.prog w K mg base "check_two" ["one", "other"] 6 (spCheck [(Pt, lamQ)] C) := ⟨⟨f21, _, PySem.W.mg_of X G a21, k21, b21, okCheckTwo F21 Tx H8 H18 H20⟩⟩
    have H22 : Has l.prog w K mg base "far_goal" ["works", "row"] 1 (spFarGoal [(Pt, lamQ)] C) := ⟨⟨f22, _, PySem.W.mg_of X G a22, k22, b22, okFarGoal F22 Tx⟩⟩
    have H23 : Has l.prog w K mg base "far_pair" ["works", "places", "first", "row", "number"] 2 (spFarPair [(Pt, lamQ)] C) := ⟨⟨f23, _, PySem.W.mg_of X G a23, k23, b23, okFarPair F23 Tx H22 H18⟩⟩
    have H24 : Has l.prog w K mg base "next_tail" ["one", "other", "places", "rest", "number"] 3 (spNext [(Pt, lamQ)] C) := ⟨⟨f24, _, PySem.W.mg_of X G a24, k24, b24, okNextTail F24 Tx H23 H18⟩⟩
    have H25 : Has l.prog w K mg base "first_tails" ["one", "other", "number"] 5 (spFirst [(Pt, lamQ)] C) := ⟨⟨f25, _, PySem.W.mg_of X G a25, k25, b25, okFirstTails F25 Tx H20 H17 H18⟩⟩
    have H26 : Has l.prog w K mg base "behind_tail" ["one", "other", "places", "number"] 4 (spBehind [(Pt, lamQ)] C) := ⟨⟨f26, _, PySem.W.mg_of X G a26, k26, b26, okBehindTail F26 Tx H24⟩⟩
    have H27 : Has l.prog w K mg base "told_tails" ["one", "other", "number"] 6 (spTold [(Pt, lamQ)] C) := ⟨⟨f27, _, PySem.W.mg_of X G a27, k27, b27, okToldTails F27 Tx TB hmT huT H25 H13 H14 H26⟩⟩
    have H28 : Has l.prog w K mg base "parted_low" ["one", "other", "number"] 5 (spParted [(Pt, lamQ)] C) := ⟨⟨f28, _, PySem.W.mg_of X G a28, k28, b28, okPartedLow F28 Tx H20 H17⟩⟩
    have H29 : Has l.prog w K mg base "same_far" ["one", "other", "places", "number"] 3 (spSameFar [(Pt, lamQ)] C) := ⟨⟨f29, _, PySem.W.mg_of X G a29, k29, b29, okSameFar F29 Tx H23 H18⟩⟩
    have H30 : Has l.prog w K mg base "first_unlike" ["one", "other", "number"] 7 (spUnlike [(Pt, lamQ)] C) := ⟨⟨f30, _, PySem.W.mg_of X G a30, k30, b30, okFirstUnlike F30 Tx H28 H29 H27⟩⟩
    have H31 : Has l.prog w K mg base "parting_of" ["one", "other"] 8 (spParting [(Pt, lamQ)] C) := ⟨⟨f31, _, PySem.W.mg_of X G a31, k31, b31, okPartingOf F31 Tx H21 H30⟩⟩
    have H32 : Has l.prog w K mg base "alike_papers" ["one", "other"] 9 (spAlike [(Pt, lamQ)] C) := ⟨⟨f32, _, PySem.W.mg_of X G a32, k32, b32, okAlikePapers F32 Tx H31 H27⟩⟩
    have H33 : Has l.prog w K mg base "_law_cell" ["script", "k"] 1 (spLawCell [(Pt, lamQ)] K) := ⟨⟨f33, _, PySem.W.mg_of X G a33, k33, b33, okLawCell F33 Tx⟩⟩
    have H34 : Has l.prog w K mg base "_law_row" ["cell", "many", "most"] 1 (spLawRow [(Pt, lamQ)]) := ⟨⟨f34, _, PySem.W.mg_of X G a34, k34, b34, okLawRow F34 Tx⟩⟩
    have H35 : Has l.prog w K mg base "_law_end" ["rows", "row", "size"] 1 (spLawEnd [(Pt, lamQ)]) := ⟨⟨f35, _, PySem.W.mg_of X G a35, k35, b35, okLawEnd F35 Tx⟩⟩
    have H36 : Has l.prog w K mg base "_law_stuck" ["rows"] 2 (spLawStuck [(Pt, lamQ)]) := ⟨⟨f36, _, PySem.W.mg_of X G a36, k36, b36, okLawStuck F36 Tx H35⟩⟩
    have H37 : Has l.prog w K mg base "_law_forward" ["rows"] 1 (spLawForward [(Pt, lamQ)]) := ⟨⟨f37, _, PySem.W.mg_of X G a37, k37, b37, okLawForward F37 Tx⟩⟩
    have H38 : Has l.prog w K mg base "_law_rows" ["script", "at", "many", "most", "crushers"] 3 (spLawRows [(Pt, lamQ)] K) := ⟨⟨f38, _, PySem.W.mg_of X G a38, k38, b38, okLawRows F38 Tx H33 H34 H36 H37⟩⟩
    have H39 : Has l.prog w K mg base "_law_laid" ["parts", "rows", "row", "size", "number", "table"] 2 (spLawLaid [(Pt, lamQ)]) := ⟨⟨f39, _, PySem.W.mg_of X G a39, k39, b39, okLawLaid F39 Tx H35⟩⟩
    have H40 : Has l.prog w K mg base "_law_sizes" ["parts", "size"] 1 (spLawSizes [(Pt, lamQ)]) := ⟨⟨f40, _, PySem.W.mg_of X G a40, k40, b40, okLawSizes F40 Tx⟩⟩
    have H41 : Has l.prog w K mg base "_law_far_row" ["parts", "rows", "size", "number"] 3 (spLawFar [(Pt, lamQ)]) := ⟨⟨f41, _, PySem.W.mg_of X G a41, k41, b41, okLawFarRow F41 Tx H39 H40⟩⟩
    have H42 : Has l.prog w K mg base "_law_renamed" ["rows", "names"] 1 (spLawRenamed [(Pt, lamQ)]) := ⟨⟨f42, _, PySem.W.mg_of X G a42, k42, b42, okLawRenamed F42 Tx⟩⟩
    have H43 : Has l.prog w K mg base "_law_redirected" ["rows", "at", "old", "new"] 1 (spLawRedirected [(Pt, lamQ)]) := ⟨⟨f43, _, PySem.W.mg_of X G a43, k43, b43, okLawRedirected F43 Tx⟩⟩
    have H44 : Has l.prog w K mg base "_law_nearly" ["rows", "cell"] 3 (spLawNear [(Pt, lamQ)]) := ⟨⟨f44, _, PySem.W.mg_of X G a44, k44, b44, okLawNearly F44 Tx H36⟩⟩
    have H45 : Has l.prog w K mg base "_law_beside" ["rows", "cell"] 4 (spLawBeside [(Pt, lamQ)]) := ⟨⟨f45, _, PySem.W.mg_of X G a45, k45, b45, okLawBeside F45 Tx H44 H43 H42⟩⟩
    have H46 : Has l.prog w K mg base "_law_two" ["script", "many", "most", "crushers"] 5 (spLawTwo [(Pt, lamQ)] K) := ⟨⟨f46, _, PySem.W.mg_of X G a46, k46, b46, okLawTwo F46 Tx H33 H38 H45⟩⟩
    have H47 : Has l.prog w K mg base "_law_lowered" ["row"] 1 (spLowered [(Pt, lamQ)]) := ⟨⟨f47, _, PySem.W.mg_of X G a47, k47, b47, okLawLowered F47 Tx⟩⟩
    have H48 : Has l.prog w K mg base "_law_left" ["span", "row"] 2 (spRest [(Pt, lamQ)]) := ⟨⟨f48, _, PySem.W.mg_of X G a48, k48, b48, okLawLeft F48 Tx H47⟩⟩
    have H49 : Has l.prog w K mg base "_law_wider" ["span", "row"] 3 (spWidened [(Pt, lamQ)] widenL) := ⟨⟨f49, _, PySem.W.mg_of X G a49, k49, b49, okLawWider F49 Tx H48⟩⟩
    have H50 : Has l.prog w K mg base "_law_crushers" ["rows"] 1 (spLawCrushers [(Pt, lamQ)]) := ⟨⟨f50, _, PySem.W.mg_of X G a50, k50, b50, okLawCrushers F50 Tx⟩⟩
    have H51 : Has l.prog w K mg base "_law_tail" ["parts", "pair", "size", "number"] 4 (spLawTail [(Pt, lamQ)]) := ⟨⟨f51, _, PySem.W.mg_of X G a51, k51, b51, okLawTail F51 Tx H41 H50⟩⟩
    have H52 : Has l.prog w K mg base "_law_least" ["parts", "pair", "number", "sizes", "height"] 5 (spLawLeast [(Pt, lamQ)]) := ⟨⟨f52, _, PySem.W.mg_of X G a52, k52, b52, okLawLeast F52 Tx H51 H49⟩⟩
    exact okLaw F53 Tx HWorks H33 H46 H32 H52
/-- the end: what is read of the module's loose name too -/
theorem walk {l : PySem.W.OpenLaw} {q p0 : Program} {lv : List (Str × PySem.W.WData)} {loose : List Str} {YP : World → Heap → Prop} {d : DefRec} {K : Params → PySem.W.Frag} (hn : l.most = some 63) (hdf : d.params.defaults = []) (hlv : (("WIDEST_works" : Str), PySem.W.WData.int (10 ^ 60)) ∈ lv)
    (hY : ∀ (w0 : World) (h0 : Heap), YP w0 h0 → (K w0.params).In h0)
    (F : ∀ (w : World) (mg : Str → Option Value) (fa : Addr) (h : Heap), YP w h → (K w.params).In h → h.Ns mainGlobals mg → mg d.name = some (.ref fa) → CstI mg "WIDEST_works" (10 ^ 60) → LawAtS l w (K w.params) CX0 10 63 "script" mg fa h) :
    PySem.W.WalkO q loose (PySem.W.XL p0 lv) YP l.row.toRowW d [] (fun f vs => PySem.call f vs) := by
  refine Att.attach_callB hn hdf fun w s₀ s₁ mg mb fa o pm cd doc a vs ns G Y ho hd hcd hmg hobj hints hlen hbits hgen => ?_
  have KX := hY w _ Y
  have cst : CstI mg "WIDEST_works" (10 ^ 60) := by
    obtain ⟨v, e, r⟩ := G.X.2.val _ hlv
    obtain ⟨t, ev, _⟩ := PySem.W.readsW_int_inv r
    exact ⟨t, by rw [← ev]; exact e⟩
  obtain ⟨fd, cs, sp, hT, nT, hC, hb, hsp, hF⟩ := F w mg fa _ Y KX G.T.g hmg cst
  have room : Room 10 callerA := ⟨rfl, by decide, by decide⟩
  exact law_callTs KX G.T.g G.T.b G.T.builtins G.T.nolimit hgen hT nT hC G.T.bmain hobj hints (Nat.le_trans hlen (by decide)) room hF hb (fun H hH hS => hsp H a ns hlen hbits hH hS) fun H e s' z => z
end Mw
open PyProof.Rows PySem PySem.W
set_option maxRecDepth 100003 in
set_option maxHeartbeats 0 in
theorem PySem.Challenge.cw_meshworks_k50_whole_least_papers_holds : PySem.Challenge.rw_meshworks_k50_whole_least_papers.Holds := by
  w_on; o_law; k_head
  (case hw => w_witness2)
  k_fill
  refine Mw.walk (l := PySem.Challenge.rw_meshworks_k50_whole_least_papers) rfl rfl (List.mem_singleton.mpr rfl) (fun w h Y => PySem.W.km_in_of Y) ?F
  case F =>
    intro w mg fa h Y KX G hmg hW
    refine' Mw.all_mk (Pt := 267) KX G hmg hW (PySem.W.km_tabs_of Y 267 (List.mem_singleton.mpr rfl)) ?aC ?pgC ?hdC ?poC ?saC ?mkC ?kcC ?nPa ?nRo ?a1 ?l1 ?c1 ?k1 ?a2 ?i2 ?l2 ?c2 ?k2 ?a3 ?l3 ?c3 ?k3 ?a4 ?l4 ?c4 ?k4 ?a5 ?l5 ?c5 ?k5 ?a6 ?l6 ?c6 ?k6 ?a7 ?l7 ?c7 ?k7 ?a8 ?l8 ?c8 ?k8 ?a9 ?l9 ?c9 ?k9 ?a10 ?l10 ?c10 ?k10 ?a11 ?l11 ?c11 ?k11 ?a12 ?l12 ?c12 ?k12 ?a13 ?l13 ?c13 ?k13 ?a14 ?l14 ?c14 ?k14 ?a15 ?l15 ?c15 ?k15 ?a16 ?l16 ?c16 ?k16 ?a17 ?l17 ?c17 ?k17 ?a18 ?l18 ?c18 ?k18 ?a19 ?l19 ?c19 ?k19 ?a20 ?l20 ?c20 ?k20 ?a21 ?l21 ?c21 ?k21 ?a22 ?l22 ?c22 ?k22 ?a23 ?l23 ?c23 ?k23 ?a24 ?l24 ?c24 ?k24 ?a25 ?l25 ?c25 ?k25 ?a26 ?l26 ?c26 ?k26 ?a27 ?l27 ?c27 ?k27 ?a28 ?l28 ?c28 ?k28 ?a29 ?l29 ?c29 ?k29 ?a30 ?l30 ?c30 ?k30 ?a31 ?l31 ?c31 ?k31 ?a32 ?l32 ?c32 ?k32 ?a33 ?l33 ?c33 ?k33 ?a34 ?l34 ?c34 ?k34 ?a35 ?l35 ?c35 ?k35 ?a36 ?l36 ?c36 ?k36 ?a37 ?l37 ?c37 ?k37 ?a38 ?l38 ?c38 ?k38 ?a39 ?l39 ?c39 ?k39 ?a40 ?l40 ?c40 ?k40 ?a41 ?l41 ?c41 ?k41 ?a42 ?l42 ?c42 ?k42 ?a43 ?l43 ?c43 ?k43 ?a44 ?l44 ?c44 ?k44 ?a45 ?l45 ?c45 ?k45 ?a46 ?l46 ?c46 ?k46 ?a47 ?l47 ?c47 ?k47 ?a48 ?l48 ?c48 ?k48 ?a49 ?l49 ?c49 ?k49 ?a50 ?l50 ?c50 ?k50 ?a51 ?l51 ?c51 ?k51 ?a52 ?l52 ?c52 ?k52 ?a53 ?l53 ?c53 ?k53 ?n_len ?n_range ?n_max ?n_min ?n_abs ?n_int ?n_sorted ?n_dict ?n_list ?n_enumerate ?m0 ?m1 ?m2 ?m3 ?m4 ?lc ?hv ?nPt
    (case aC => k_is)
    (case pgC => k_is)
    (case hdC => k_is)
    (case poC => k_is)
    (case saC => k_is)
    (case mkC => k_is)
    (case kcC => k_is)
    (case nPa => k_is)
    (case nRo => k_is)
    (case a1 => k_is)
    (case l1 => k_is)
    (case c1 => k_is)
    (case k1 => k_is)
    (case a2 => k_is)
    (case i2 => k_is)
    (case l2 => k_is)
    (case c2 => k_is)
    (case k2 => k_is)
    (case a3 => k_is)
    (case l3 => k_is)
    (case c3 => k_is)
    (case k3 => k_is)
    (case a4 => k_is)
    (case l4 => k_is)
    (case c4 => k_is)
    (case k4 => k_is)
    (case a5 => k_is)
    (case l5 => k_is)
    (case c5 => k_is)
    (case k5 => k_is)
    (case a6 => k_is)
    (case l6 => k_is)
    (case c6 => k_is)
    (case k6 => k_is)
    (case a7 => k_is)
    (case l7 => k_is)
    (case c7 => k_is)
    (case k7 => k_is)
    (case a8 => k_is)
    (case l8 => k_is)
    (case c8 => k_is)
    (case k8 => k_is)
    (case a9 => k_is)
    (case l9 => k_is)
    (case c9 => k_is)
    (case k9 => k_is)
    (case a10 => k_is)
    (case l10 => k_is)
    (case c10 => k_is)
    (case k10 => k_is)
    (case a11 => k_is)
    (case l11 => k_is)
    (case c11 => k_is)
    (case k11 => k_is)
    (case a12 => k_is)
    (case l12 => k_is)
    (case c12 => k_is)
    (case k12 => k_is)
    (case a13 => k_is)
    (case l13 => k_is)
    (case c13 => k_is)
    (case k13 => k_is)
    (case a14 => k_is)
    (case l14 => k_is)
    (case c14 => k_is)
    (case k14 => k_is)
    (case a15 => k_is)
    (case l15 => k_is)
    (case c15 => k_is)
    (case k15 => k_is)
    (case a16 => k_is)
    (case l16 => k_is)
    (case c16 => k_is)
    (case k16 => k_is)
    (case a17 => k_is)
    (case l17 => k_is)
    (case c17 => k_is)
    (case k17 => k_is)
    (case a18 => k_is)
    (case l18 => k_is)
    (case c18 => k_is)
    (case k18 => k_is)
    (case a19 => k_is)
    (case l19 => k_is)
    (case c19 => k_is)
    (case k19 => k_is)
    (case a20 => k_is)
    (case l20 => k_is)
    (case c20 => k_is)
    (case k20 => k_is)
    (case a21 => k_is)
    (case l21 => k_is)
    (case c21 => k_is)
    (case k21 => k_is)
    (case a22 => k_is)
    (case l22 => k_is)
    (case c22 => k_is)
    (case k22 => k_is)
    (case a23 => k_is)
    (case l23 => k_is)
    (case c23 => k_is)
    (case k23 => k_is)
    (case a24 => k_is)
    (case l24 => k_is)
    (case c24 => k_is)
    (case k24 => k_is)
    (case a25 => k_is)
    (case l25 => k_is)
    (case c25 => k_is)
    (case k25 => k_is)
    (case a26 => k_is)
    (case l26 => k_is)
    (case c26 => k_is)
    (case k26 => k_is)
    (case a27 => k_is)
    (case l27 => k_is)
    (case c27 => k_is)
    (case k27 => k_is)
    (case a28 => k_is)
    (case l28 => k_is)
    (case c28 => k_is)
    (case k28 => k_is)
    (case a29 => k_is)
    (case l29 => k_is)
    (case c29 => k_is)
    (case k29 => k_is)
    (case a30 => k_is)
    (case l30 => k_is)
    (case c30 => k_is)
    (case k30 => k_is)
    (case a31 => k_is)
    (case l31 => k_is)
    (case c31 => k_is)
    (case k31 => k_is)
    (case a32 => k_is)
    (case l32 => k_is)
    (case c32 => k_is)
    (case k32 => k_is)
    (case a33 => k_is)
    (case l33 => k_is)
    (case c33 => k_is)
    (case k33 => k_is)
    (case a34 => k_is)
    (case l34 => k_is)
    (case c34 => k_is)
    (case k34 => k_is)
    (case a35 => k_is)
    (case l35 => k_is)
    (case c35 => k_is)
    (case k35 => k_is)
    (case a36 => k_is)
    (case l36 => k_is)
    (case c36 => k_is)
    (case k36 => k_is)
    (case a37 => k_is)
    (case l37 => k_is)
    (case c37 => k_is)
    (case k37 => k_is)
    (case a38 => k_is)
    (case l38 => k_is)
    (case c38 => k_is)
    (case k38 => k_is)
    (case a39 => k_is)
    (case l39 => k_is)
    (case c39 => k_is)
    (case k39 => k_is)
    (case a40 => k_is)
    (case l40 => k_is)
    (case c40 => k_is)
    (case k40 => k_is)
    (case a41 => k_is)
    (case l41 => k_is)
    (case c41 => k_is)
    (case k41 => k_is)
    (case a42 => k_is)
    (case l42 => k_is)
    (case c42 => k_is)
    (case k42 => k_is)
    (case a43 => k_is)
    (case l43 => k_is)
    (case c43 => k_is)
    (case k43 => k_is)
    (case a44 => k_is)
    (case l44 => k_is)
    (case c44 => k_is)
    (case k44 => k_is)
    (case a45 => k_is)
    (case l45 => k_is)
    (case c45 => k_is)
    (case k45 => k_is)
    (case a46 => k_is)
    (case l46 => k_is)
    (case c46 => k_is)
    (case k46 => k_is)
    (case a47 => k_is)
    (case l47 => k_is)
    (case c47 => k_is)
    (case k47 => k_is)
    (case a48 => k_is)
    (case l48 => k_is)
    (case c48 => k_is)
    (case k48 => k_is)
    (case a49 => k_is)
    (case l49 => k_is)
    (case c49 => k_is)
    (case k49 => k_is)
    (case a50 => k_is)
    (case l50 => k_is)
    (case c50 => k_is)
    (case k50 => k_is)
    (case a51 => k_is)
    (case l51 => k_is)
    (case c51 => k_is)
    (case k51 => k_is)
    (case a52 => k_is)
    (case l52 => k_is)
    (case c52 => k_is)
    (case k52 => k_is)
    (case a53 => k_is)
    (case l53 => k_is)
    (case c53 => k_is)
    (case k53 => k_is)
    (case n_len => k_is)
    (case n_range => k_is)
    (case n_max => k_is)
    (case n_min => k_is)
    (case n_abs => k_is)
    (case n_int => k_is)
    (case n_sorted => k_is)
    (case n_dict => k_is)
    (case n_list => k_is)
    (case n_enumerate => k_is)
    (case m0 => k_is)
    (case m1 => k_is)
    (case m2 => k_is)
    (case m3 => k_is)
    (case m4 => k_is)
    (case lc => k_is)
    (case hv => first | rfl | decide +kernel)
    (case nPt => exact Mw.km_none Y (by first | rfl | decide +kernel))
