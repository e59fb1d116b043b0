import PyProof.Rows.All
import Kxd4Spec
import Kxd4Neutral
import Wide.All
import OpenK.AllK
import Wide.FinOn
import Open.SpecLaws
import KE.OsGo
import HandS.ForSpec
import HandS.Comp
import HandS.Iter
import HandS.Dict
import HandS.CallLocal
import HandS.NoneIn
import HandS.Conv
import HandS.Wide
import HandS.Evl
import PySem.Challenge.RW_linearfits_s01_answers
import KE.KDictCopyH
set_option linter.all false
/-! # The specification's fractions as rational numbers -/
namespace LF
open Kxd4 (Fraction)

/-- the fraction of a rational number -/
def ofQ (q : Rat) : Fraction := ⟨q.num, q.den⟩
theorem ofQ_inj {p q : Rat} (h : ofQ p = ofQ q) : p = q := by
  have h1 : p.num = q.num := congrArg Fraction.numerator h
  have h2 : p.den = q.den := congrArg Fraction.denominator h
  exact Rat.ext h1 h2
theorem ofQ_eq {p q : Rat} : ofQ p = ofQ q ↔ p = q := ⟨ofQ_inj, fun h => by rw [h]⟩
theorem num_ne (q : Rat) : ((ofQ q).numerator = 0) ↔ q = 0 := Rat.num_eq_zero

theorem divQ (n d : Int) : (n : Rat) / (d : Rat) = Rat.divInt n d := (Rat.divInt_eq_div n d).symm

theorem fraction_eq (n d : Int) : Kxd4.fraction n d = ofQ ((n : Rat) / (d : Rat)) := by
  rw [divQ]
  unfold Kxd4.fraction ofQ
  by_cases h0 : d = 0
  · subst h0
    simp
  · have hg : Int.gcd d n = Int.gcd n d := Int.gcd_comm d n
    have hgp : 0 < Int.gcd n d := by
      rcases Nat.eq_zero_or_pos (Int.gcd n d) with h | h
      · rw [Int.gcd_eq_zero_iff] at h
        exact absurd h.2 h0
      · exact h
    have hdvd : (Int.gcd n d : Int) ∣ d := Int.gcd_dvd_right ..
    have hdvn : (Int.gcd n d : Int) ∣ n := Int.gcd_dvd_left ..
    rw [Rat.num_divInt, Rat.den_divInt, if_neg h0, hg]
    simp only [h0, if_false]
    by_cases hn : d < 0
    · simp only [hn, if_true]
      rw [Int.sign_eq_neg_one_of_neg hn]
      congr 1
      · rw [show (-1 : Int) * n = -n by omega]
      · obtain ⟨e, he⟩ := hdvd
        generalize Int.gcd n d = g at *
        subst he
        rw [show -((g : Int) * e) = g * (-e) by grind, Int.mul_ediv_cancel_left _ (by omega)]
        rw [Int.natAbs_mul, Int.natAbs_natCast, Nat.mul_div_cancel_left _ hgp]
        have : e < 0 := by
          rcases Int.lt_or_le e 0 with h | h
          · exact h
          · exact absurd hn (by have := Int.mul_nonneg (Int.natCast_nonneg g) h; omega)
        omega
    · simp only [hn, if_false]
      rw [Int.sign_eq_one_of_pos (by omega), Int.one_mul]
      congr 1
      obtain ⟨e, he⟩ := hdvd
      generalize Int.gcd n d = g at *
      subst he
      rw [Int.mul_ediv_cancel_left _ (by omega)]
      rw [Int.natAbs_mul, Int.natAbs_natCast, Nat.mul_div_cancel_left _ hgp]
      have : 0 < e := by
        rcases Int.lt_or_le 0 e with h | h
        · exact h
        · exact absurd (show (g : Int) * e ≤ 0 from Int.mul_nonpos_of_nonneg_of_nonpos (Int.natCast_nonneg g) h) (by omega)
      omega

theorem numden (q : Rat) : (q.num : Rat) / ((q.den : Int) : Rat) = q := by
  rw [divQ, Rat.num_divInt_den]
theorem den_ne (q : Rat) : ((q.den : Int) : Rat) ≠ 0 := by
  intro h
  have h1 : ((q.den : Int) : Rat) = ((0 : Int) : Rat) := h
  rw [Rat.intCast_inj] at h1
  exact q.den_nz (by omega)

theorem plus_eq (p q : Rat) : Kxd4.plus (ofQ p) (ofQ q) = ofQ (p + q) := by
  unfold Kxd4.plus
  rw [fraction_eq]
  congr 1
  show ((p.num * (q.den : Int) + q.num * (p.den : Int) : Int) : Rat) / (((p.den : Int) * (q.den : Int) : Int) : Rat) = p + q
  have hp := numden p
  have hq := numden q
  have h1 := den_ne p
  have h2 := den_ne q
  generalize (p.den : Int) = pd at *
  generalize (q.den : Int) = qd at *
  push_cast
  rw [← hp, ← hq]
  grind
theorem negative_eq (p : Rat) : Kxd4.negative (ofQ p) = ofQ (-p) := by
  unfold Kxd4.negative ofQ
  rw [Rat.neg_num, Rat.neg_den]
theorem minus_eq (p q : Rat) : Kxd4.minus (ofQ p) (ofQ q) = ofQ (p - q) := by
  unfold Kxd4.minus
  rw [negative_eq, plus_eq]
  congr 1
  grind
theorem times_eq (p q : Rat) : Kxd4.times (ofQ p) (ofQ q) = ofQ (p * q) := by
  unfold Kxd4.times
  rw [fraction_eq]
  congr 1
  show ((p.num * q.num : Int) : Rat) / (((p.den : Int) * (q.den : Int) : Int) : Rat) = p * q
  have hp := numden p
  have hq := numden q
  have h1 := den_ne p
  have h2 := den_ne q
  generalize (p.den : Int) = pd at *
  generalize (q.den : Int) = qd at *
  push_cast
  rw [← hp, ← hq]
  grind
theorem over_eq (p q : Rat) : Kxd4.over (ofQ p) (ofQ q) = ofQ (p / q) := by
  unfold Kxd4.over
  rw [fraction_eq]
  congr 1
  show ((p.num * (q.den : Int) : Int) : Rat) / (((p.den : Int) * q.num : Int) : Rat) = p / q
  have hp := numden p
  have hq := numden q
  have h1 := den_ne p
  have h2 := den_ne q
  generalize (p.den : Int) = pd at *
  generalize (q.den : Int) = qd at *
  push_cast
  rw [← hp, ← hq]
  by_cases h3 : (q.num : Rat) = 0
  · rw [h3]
    grind
  · grind
theorem ofInt_eq (n : Int) : Kxd4.ofInt n = ofQ (n : Rat) := by
  unfold Kxd4.ofInt ofQ
  rw [Rat.num_intCast, Rat.den_intCast]
theorem ofNat_eq (n : Nat) : Kxd4.ofNat n = ofQ ((n : Int) : Rat) := by
  unfold Kxd4.ofNat ofQ
  rw [Rat.num_intCast, Rat.den_intCast]
theorem zero_eq : (⟨0, 1⟩ : Fraction) = ofQ 0 := rfl
theorem one_eq : (⟨1, 1⟩ : Fraction) = ofQ 1 := rfl

def mapQ (l : List Rat) : List Fraction := l.map ofQ
def sumQ (l : List Rat) : Rat := l.foldl (· + ·) 0
theorem total_go : ∀ (l : List Rat) (a : Rat), (l.map ofQ).foldl Kxd4.plus (ofQ a) = ofQ (l.foldl (· + ·) a)
  | [], _ => rfl
  | x :: r, a => by
    rw [List.map_cons, List.foldl_cons, plus_eq, total_go r, List.foldl_cons]
theorem total_eq (l : List Rat) : Kxd4.total (l.map ofQ) = ofQ (sumQ l) := total_go l 0
def dotQ (a b : List Rat) : Rat := sumQ (List.zipWith (· * ·) a b)
theorem zipWith_ofQ {f : Fraction → Fraction → Fraction} {g : Rat → Rat → Rat} (h : ∀ p q, f (ofQ p) (ofQ q) = ofQ (g p q)) : ∀ (a b : List Rat), List.zipWith f (a.map ofQ) (b.map ofQ) = (List.zipWith g a b).map ofQ
  | [], _ => by simp
  | _ :: _, [] => by simp
  | x :: a, y :: b => by
    simp only [List.map_cons, List.zipWith_cons_cons, h, zipWith_ofQ h a b]
theorem dot_eq (a b : List Rat) : Kxd4.dot (a.map ofQ) (b.map ofQ) = ofQ (dotQ a b) := by
  unfold Kxd4.dot dotQ
  rw [zipWith_ofQ times_eq, total_eq]
theorem getD_ofQ (l : List Rat) (k : Nat) (d : Rat) : (l.map ofQ).getD k (ofQ d) = ofQ (l.getD k d) := by
  rw [List.getD_eq_getElem?_getD, List.getElem?_map, List.getD_eq_getElem?_getD]
  cases l[k]? <;> rfl

/-! ## Echelon forms over the rationals -/
def leadQ (row : List Rat) : Option Nat := row.findIdx? fun x => decide (x ≠ 0)
theorem lead_eq (row : List Rat) : Kxd4.leadOf (row.map ofQ) = leadQ row := by
  unfold Kxd4.leadOf leadQ
  rw [List.findIdx?_map]
  congr 1
  funext x
  show (x.num != 0) = decide (x ≠ 0)
  by_cases h : x = 0
  · subst h; rfl
  · have : x.num ≠ 0 := fun z => h (Rat.num_eq_zero.mp z)
    simp [h, this]
def reduceQ (row other : List Rat) : List Rat := match leadQ other with
  | none => row
  | some k => List.zipWith (fun x y => x - (row.getD k 0 / other.getD k 1) * y) row other
theorem reduce_eq (row other : List Rat) : Kxd4.reduceBy (row.map ofQ) (other.map ofQ) = (reduceQ row other).map ofQ := by
  unfold Kxd4.reduceBy reduceQ
  rw [lead_eq]
  cases leadQ other with
  | none => rfl
  | some k =>
    simp only
    rw [zero_eq, one_eq, getD_ofQ, getD_ofQ, over_eq]
    exact zipWith_ofQ (fun p q => by rw [times_eq, minus_eq]) _ _
def reducesQ (row : List Rat) (found : List (List Rat)) : List Rat := found.foldl reduceQ row
theorem reduces_eq : ∀ (found : List (List Rat)) (row : List Rat), (found.map (·.map ofQ)).foldl Kxd4.reduceBy (row.map ofQ) = (reducesQ row found).map ofQ
  | [], _ => rfl
  | x :: r, row => by
    rw [List.map_cons, List.foldl_cons, reduce_eq, reduces_eq r]
    rfl
def echStep (found : List (List Rat)) (row : List Rat) : List (List Rat) :=
  if (leadQ (reducesQ row found)).isNone then found else found ++ [reducesQ row found]
def echelonQ (rows : List (List Rat)) : List (List Rat) := rows.foldl echStep []
theorem echelon_go : ∀ (rows found : List (List Rat)), (rows.map (·.map ofQ)).foldl (fun found row =>
    let r := found.foldl Kxd4.reduceBy row
    if (Kxd4.leadOf r).isNone then found else found ++ [r]) (found.map (·.map ofQ)) = (rows.foldl echStep found).map (·.map ofQ)
  | [], _ => rfl
  | x :: r, found => by
    rw [List.map_cons, List.foldl_cons, List.foldl_cons, ← echelon_go r]
    congr 1
    simp only
    rw [reduces_eq, lead_eq]
    unfold echStep
    split <;> simp
theorem echelon_eq (rows : List (List Rat)) : Kxd4.echelon (rows.map (·.map ofQ)) = (echelonQ rows).map (·.map ofQ) := echelon_go rows []
def rankQ (rows : List (List Rat)) : Nat := (echelonQ rows).length
theorem rank_eq (rows : List (List Rat)) : Kxd4.rankOf (rows.map (·.map ofQ)) = rankQ rows := by
  unfold Kxd4.rankOf rankQ
  rw [echelon_eq, List.length_map]
def upQ (e : List (List Rat)) : List (List Rat) := e.foldr (fun row found => reducesQ row found :: found) []
theorem up_eq : ∀ (e : List (List Rat)), (e.map (·.map ofQ)).foldr (fun row found => found.foldl Kxd4.reduceBy row :: found) ([] : List (List Fraction)) = (upQ e).map (·.map ofQ)
  | [] => rfl
  | x :: r => by
    rw [List.map_cons, List.foldr_cons, up_eq r, reduces_eq]
    rfl
def solveQ (width : Nat) (rows : List (List Rat)) : List Rat :=
  (List.range width).map fun j => match (upQ (echelonQ rows)).find? fun r => leadQ r == some j with
    | none => 0
    | some r => r.getD width 0 / r.getD j 1
theorem solve_eq (width : Nat) (rows : List (List Rat)) : Kxd4.solve width (rows.map (·.map ofQ)) = (solveQ width rows).map ofQ := by
  unfold Kxd4.solve solveQ
  simp only
  rw [echelon_eq, up_eq, List.map_map]
  refine List.map_congr_left fun j _ => ?_
  rw [List.find?_map]
  have e : ((fun r => Kxd4.leadOf r == some j) ∘ fun x : List Rat => x.map ofQ) = fun r => leadQ r == some j := by
    funext r
    show (Kxd4.leadOf (r.map ofQ) == some j) = _
    rw [lead_eq]
  rw [e]
  simp only [Function.comp]
  cases (upQ (echelonQ rows)).find? fun r => leadQ r == some j with
  | none => rfl
  | some r =>
    show Kxd4.over ((r.map ofQ).getD width ⟨0, 1⟩) ((r.map ofQ).getD j ⟨1, 1⟩) = _
    rw [zero_eq, one_eq, getD_ofQ, getD_ofQ, over_eq]
def colQ (rows : List (List Rat)) (j : Nat) : List Rat := rows.map fun r => r.getD j 0
theorem col_eq (rows : List (List Rat)) (j : Nat) : Kxd4.columnOf (rows.map (·.map ofQ)) j = (colQ rows j).map ofQ := by
  unfold Kxd4.columnOf colQ
  rw [List.map_map, List.map_map]
  refine List.map_congr_left fun r _ => ?_
  show (r.map ofQ).getD j ⟨0, 1⟩ = _
  rw [zero_eq, getD_ofQ]
  rfl
def pickQ (columns : List Nat) (row : List Rat) : List Rat := columns.map fun j => row.getD j 0
theorem pick_eq (columns : List Nat) (row : List Rat) : Kxd4.pick columns (row.map ofQ) = (pickQ columns row).map ofQ := by
  unfold Kxd4.pick pickQ
  rw [List.map_map]
  refine List.map_congr_left fun j _ => ?_
  show (row.map ofQ).getD j ⟨0, 1⟩ = _
  rw [zero_eq, getD_ofQ]
  rfl
def normalQ (width : Nat) (rows : List (List Rat)) (right : List Rat) : List (List Rat) :=
  (List.range width).map fun i => (List.range width).map (fun j => dotQ (colQ rows i) (colQ rows j)) ++ [right.getD i 0]
theorem normal_eq (width : Nat) (rows : List (List Rat)) (right : List Rat) : Kxd4.normal width (rows.map (·.map ofQ)) (right.map ofQ) = (normalQ width rows right).map (·.map ofQ) := by
  unfold Kxd4.normal normalQ
  rw [List.map_map]
  refine List.map_congr_left fun i _ => ?_
  show _ = (_ : List Rat).map ofQ
  rw [List.map_append, List.map_map, List.map_singleton, zero_eq, getD_ofQ]
  congr 1
  refine List.map_congr_left fun j _ => ?_
  rw [col_eq, col_eq, dot_eq]
  rfl
def rightQ (width : Nat) (rows : List (List Rat)) (y : List Rat) : List Rat := (List.range width).map fun i => dotQ (colQ rows i) y
theorem right_eq (width : Nat) (rows : List (List Rat)) (y : List Rat) : ((List.range width).map fun i => Kxd4.dot (Kxd4.columnOf (rows.map (·.map ofQ)) i) (y.map ofQ)) = (rightQ width rows y).map ofQ := by
  unfold rightQ
  rw [List.map_map]
  refine List.map_congr_left fun i _ => ?_
  rw [col_eq, dot_eq]
  rfl
def leastQ (width : Nat) (rows : List (List Rat)) (y : List Rat) : List Rat := solveQ width (normalQ width rows (rightQ width rows y))
theorem least_eq (width : Nat) (rows : List (List Rat)) (y : List Rat) : Kxd4.leastSquares width (rows.map (·.map ofQ)) (y.map ofQ) = (leastQ width rows y).map ofQ := by
  unfold Kxd4.leastSquares leastQ
  rw [right_eq, normal_eq, solve_eq]
def residQ (width : Nat) (rows : List (List Rat)) (y : List Rat) : Rat :=
  sumQ (List.zipWith (fun r v => (v - dotQ r (leastQ width rows y)) * (v - dotQ r (leastQ width rows y))) rows y)
theorem zipWith_rows {f : List Fraction → Fraction → Fraction} {g : List Rat → Rat → Rat} (h : ∀ p q, f (p.map ofQ) (ofQ q) = ofQ (g p q)) : ∀ (a : List (List Rat)) (b : List Rat), List.zipWith f (a.map (·.map ofQ)) (b.map ofQ) = (List.zipWith g a b).map ofQ
  | [], _ => by simp
  | _ :: _, [] => by simp
  | x :: a, y :: b => by
    simp only [List.map_cons, List.zipWith_cons_cons, h, zipWith_rows h a b]
theorem resid_eq (width : Nat) (rows : List (List Rat)) (y : List Rat) : Kxd4.residualSum width (rows.map (·.map ofQ)) (y.map ofQ) = ofQ (residQ width rows y) := by
  unfold Kxd4.residualSum residQ
  simp only
  rw [least_eq, zipWith_rows (g := fun r v => (v - dotQ r (leastQ width rows y)) * (v - dotQ r (leastQ width rows y))) (fun p q => by rw [dot_eq, minus_eq, times_eq]), total_eq]
end LF

set_option linter.all false
/-! # Spans of vectors, systems in reduced echelon form -/
namespace LF

abbrev Vec := Nat → Rat
inductive Span (G : Vec → Prop) : Vec → Prop
  | zero : Span G (fun _ => 0)
  | step {u v : Vec} (c : Rat) (hu : G u) (hv : Span G v) : Span G (fun j => c * u j + v j)
section
variable {G G' : Vec → Prop} {u v : Vec}
theorem Span.cast (h : Span G u) (e : ∀ j, v j = u j) : Span G v := by
  have : v = u := funext e
  rw [this]; exact h
theorem Span.gen (h : G u) : Span G u := (Span.step 1 h Span.zero).cast fun j => by grind
theorem Span.lin (P : Vec → Prop) (h0 : P fun _ => 0) (hs : ∀ c u v, G u → P v → P fun j => c * u j + v j) (h : Span G v) : P v := by
  induction h with
  | zero => exact h0
  | step c hu _ ih => exact hs c _ _ hu ih
theorem Span.add (hu : Span G u) (hv : Span G v) : Span G (fun j => u j + v j) := by
  induction hu with
  | zero => exact hv.cast fun j => by grind
  | step c hu _ ih => exact (Span.step c hu ih).cast fun j => by grind
theorem Span.smul (c : Rat) (hu : Span G u) : Span G (fun j => c * u j) := by
  induction hu with
  | zero => exact Span.zero.cast fun j => by grind
  | step d hu _ ih => exact (Span.step (c * d) hu ih).cast fun j => by grind
theorem Span.comb (a b : Rat) (hu : Span G u) (hv : Span G v) : Span G (fun j => a * u j + b * v j) := (hu.smul a).add (hv.smul b)
theorem Span.le (h : ∀ u, G u → Span G' u) (hv : Span G v) : Span G' v := by
  induction hv with
  | zero => exact Span.zero
  | step c hu _ ih => exact ((h _ hu).smul c).add ih
theorem Span.mono (h : ∀ u, G u → G' u) (hv : Span G v) : Span G' v := hv.le fun u hu => Span.gen (h u hu)
end

/-! ## Reduced systems -/
structure Red (L : List (Nat × Vec)) : Prop where
  nz : ∀ e ∈ L, e.2 e.1 ≠ 0
  low : ∀ e ∈ L, ∀ j, j < e.1 → e.2 j = 0
  off : ∀ e ∈ L, ∀ f ∈ L, e.1 ≠ f.1 → e.2 f.1 = 0
  nd : (L.map (·.1)).Nodup
/-- the rows of a system -/
def Gs (L : List (Nat × Vec)) : Vec → Prop := fun u => ∃ e ∈ L, u = e.2
def proj : List (Nat × Vec) → Vec → Nat → Rat
  | [], _, _ => 0
  | e :: L, v, j => v e.1 / e.2 e.1 * e.2 j + proj L v j
theorem proj_lin (L : List (Nat × Vec)) (c : Rat) (u v : Vec) (j : Nat) : proj L (fun j => c * u j + v j) j = c * proj L u j + proj L v j := by
  induction L with
  | nil => show (0 : Rat) = c * 0 + 0; grind
  | cons e L ih =>
    simp only [proj, ih]
    rw [Rat.div_def, Rat.div_def, Rat.div_def]
    grind
theorem proj_none {L : List (Nat × Vec)} {v : Vec} {j : Nat} (h : ∀ e ∈ L, v e.1 = 0 ∨ e.2 j = 0) : proj L v j = 0 := by
  induction L with
  | nil => rfl
  | cons e L ih =>
    simp only [proj]
    rw [ih fun f hf => h f (List.mem_cons_of_mem _ hf)]
    rcases h e List.mem_cons_self with q | q
    · rw [q, Rat.div_def]; grind
    · rw [q]; grind
theorem proj_self : ∀ {L : List (Nat × Vec)}, (∀ e ∈ L, e.2 e.1 ≠ 0) → (∀ e ∈ L, ∀ f ∈ L, e.1 ≠ f.1 → e.2 f.1 = 0) → (L.map (·.1)).Nodup → ∀ e ∈ L, ∀ j, proj L e.2 j = e.2 j
  | [], _, _, _, e, he, _ => by cases he
  | f :: L, nz, off, nd, e, he, j => by
    rw [List.map_cons, List.nodup_cons] at nd
    have nz' : ∀ e ∈ L, e.2 e.1 ≠ 0 := fun e he => nz e (List.mem_cons_of_mem _ he)
    have off' : ∀ e ∈ L, ∀ f ∈ L, e.1 ≠ f.1 → e.2 f.1 = 0 := fun e he f hf => off e (List.mem_cons_of_mem _ he) f (List.mem_cons_of_mem _ hf)
    simp only [proj]
    rcases List.mem_cons.mp he with rfl | hL
    · rw [proj_none (L := L) fun g hg => .inl (off e he g (List.mem_cons_of_mem _ hg) fun z => nd.1 (z ▸ List.mem_map_of_mem hg))]
      have := nz e he
      rw [Rat.div_def]
      grind
    · have hne : e.1 ≠ f.1 := fun z => nd.1 (z ▸ List.mem_map_of_mem hL)
      rw [off e he f List.mem_cons_self hne, proj_self nz' off' nd.2 e hL j, Rat.div_def]
      grind
section
variable {L L' : List (Nat × Vec)} {v : Vec}
theorem Red.proj (R : Red L) (h : Span (Gs L) v) (j : Nat) : v j = proj L v j := by
  refine Span.lin (fun v => v j = LF.proj L v j) ?_ (fun c u v hu ih => ?_) h
  · exact (proj_none fun e _ => .inl rfl).symm
  · obtain ⟨e, he, rfl⟩ := hu
    rw [proj_lin, proj_self R.nz R.off R.nd e he j]
    simp only
    rw [← ih]
theorem Red.zero (R : Red L) (h : Span (Gs L) v) (hz : ∀ e ∈ L, v e.1 = 0) (j : Nat) : v j = 0 := by
  rw [R.proj h j]
  exact proj_none fun e he => .inl (hz e he)
theorem Red.lead (R : Red L) (h : Span (Gs L) v) {j : Nat} (hj : v j ≠ 0) (hl : ∀ i, i < j → v i = 0) : j ∈ L.map (·.1) := by
  by_cases c : j ∈ L.map (·.1)
  · exact c
  · refine absurd ?_ hj
    rw [R.proj h j]
    refine proj_none fun e he => ?_
    rcases Nat.lt_trichotomy e.1 j with q | q | q
    · exact .inl (hl _ q)
    · exact absurd (List.mem_map.mpr ⟨e, he, q⟩) c
    · exact .inr (R.low e he j q)
theorem Red.sub (R : Red L) (R' : Red L') (h : ∀ u, Span (Gs L) u → Span (Gs L') u) {j : Nat} (hj : j ∈ L.map (·.1)) : j ∈ L'.map (·.1) := by
  obtain ⟨e, he, rfl⟩ := List.mem_map.mp hj
  exact R'.lead (h _ (Span.gen ⟨e, he, rfl⟩)) (R.nz e he) (R.low e he)
theorem Red.perm (R : Red L) (R' : Red L') (h : ∀ u, Span (Gs L) u ↔ Span (Gs L') u) : (L.map (·.1)).Perm (L'.map (·.1)) :=
  (List.perm_ext_iff_of_nodup R.nd R'.nd).mpr fun _ => ⟨R.sub R' fun u => (h u).mp, R'.sub R fun u => (h u).mpr⟩
theorem Red.length_eq (R : Red L) (R' : Red L') (h : ∀ u, Span (Gs L) u ↔ Span (Gs L') u) : L.length = L'.length := by
  have := (R.perm R' h).length_eq
  rwa [List.length_map, List.length_map] at this
theorem Red.uniq (R : Red L) (R' : Red L') (h : ∀ u, Span (Gs L) u ↔ Span (Gs L') u) {e f : Nat × Vec} (he : e ∈ L) (hf : f ∈ L') (ef : e.1 = f.1) (j : Nat) : e.2 j / e.2 e.1 = f.2 j / f.2 f.1 := by
  have hd : Span (Gs L) (fun j => (1 / e.2 e.1) * e.2 j + (-(1 / f.2 f.1)) * f.2 j) :=
    Span.comb _ _ (Span.gen ⟨e, he, rfl⟩) ((h _).mpr (Span.gen ⟨f, hf, rfl⟩))
  have hz := R.zero hd (fun g hg => ?_) j
  · have h1 := R.nz e he
    have h2 := R'.nz f hf
    simp only [Rat.div_def] at hz ⊢
    grind
  · have h1 := R.nz e he
    have h2 := R'.nz f hf
    by_cases c : g.1 = e.1
    · rw [c]
      rw [← ef] at h2 ⊢
      simp only [Rat.div_def]
      grind
    · have c1 : e.2 g.1 = 0 := R.off e he g hg (Ne.symm c)
      have hg' := (R.sub R' (fun u => (h u).mp) (List.mem_map_of_mem hg) : g.1 ∈ L'.map (·.1))
      obtain ⟨g', hg', q⟩ := List.mem_map.mp hg'
      have c2 : f.2 g'.1 = 0 := R'.off f hf g' hg' (by rw [q, ← ef]; exact Ne.symm c)
      rw [q] at c2
      simp only [c1, c2]
      grind
end

/-! ## Rows as vectors -/
def vf (r : List Rat) : Vec := fun j => r.getD j 0
theorem vf_len {r : List Rat} {j : Nat} (h : r.length ≤ j) : vf r j = 0 := by
  unfold vf
  rw [List.getD_eq_getElem?_getD, List.getElem?_eq_none h]
  rfl
theorem vf_zip {f : Rat → Rat → Rat} (h0 : f 0 0 = 0) {a b : List Rat} (h : a.length = b.length) (j : Nat) : vf (List.zipWith f a b) j = f (vf a j) (vf b j) := by
  unfold vf
  rw [List.getD_eq_getElem?_getD, List.getD_eq_getElem?_getD, List.getD_eq_getElem?_getD, List.getElem?_zipWith]
  by_cases hj : j < a.length
  · rw [List.getElem?_eq_getElem hj, List.getElem?_eq_getElem (h ▸ hj)]
    rfl
  · rw [List.getElem?_eq_none (by omega), List.getElem?_eq_none (by omega)]
    exact h0.symm
/-- the rows' vectors -/
def Gr (rows : List (List Rat)) : Vec → Prop := fun u => ∃ r ∈ rows, u = vf r
theorem lead_some {r : List Rat} {k : Nat} (h : leadQ r = some k) : vf r k ≠ 0 ∧ (∀ j, j < k → vf r j = 0) ∧ k < r.length := by
  unfold leadQ at h
  rw [List.findIdx?_eq_some_iff_getElem] at h
  obtain ⟨hk, h1, h2⟩ := h
  refine ⟨?_, fun j hj => ?_, hk⟩
  · unfold vf
    rw [List.getD_eq_getElem?_getD, List.getElem?_eq_getElem hk]
    simpa using h1
  · have := h2 j hj
    unfold vf
    rw [List.getD_eq_getElem?_getD, List.getElem?_eq_getElem (Nat.lt_trans hj hk)]
    simpa using this
theorem lead_none {r : List Rat} (h : leadQ r = none) (j : Nat) : vf r j = 0 := by
  unfold leadQ at h
  rw [List.findIdx?_eq_none_iff] at h
  unfold vf
  rw [List.getD_eq_getElem?_getD]
  cases q : r[j]? with
  | none => rfl
  | some x => simpa using h x (List.mem_of_getElem? q)
theorem lead_of {r : List Rat} {k : Nat} (h1 : vf r k ≠ 0) (h2 : ∀ j, j < k → vf r j = 0) : leadQ r = some k := by
  cases q : leadQ r with
  | none => exact absurd (lead_none q k) h1
  | some m =>
    obtain ⟨a, b, _⟩ := lead_some q
    rcases Nat.lt_trichotomy m k with c | c | c
    · exact absurd (h2 m c) a
    · rw [c]
    · exact absurd (b k c) h1

theorem reduce_len {row g : List Rat} {w : Nat} (h1 : row.length = w) (h2 : g.length = w) : (reduceQ row g).length = w := by
  unfold reduceQ
  cases leadQ g with
  | none => exact h1
  | some k => simp [h1, h2]
theorem vf_getD1 {g : List Rat} {k : Nat} (h : k < g.length) : g.getD k 1 = vf g k := by
  unfold vf
  rw [List.getD_eq_getElem?_getD, List.getD_eq_getElem?_getD, List.getElem?_eq_getElem h]
  rfl
theorem vf_reduce {row g : List Rat} {k : Nat} (hl : row.length = g.length) (h : leadQ g = some k) (j : Nat) : vf (reduceQ row g) j = vf row j - vf row k / vf g k * vf g j := by
  unfold reduceQ
  rw [h]
  simp only
  rw [vf_zip (by grind) hl, vf_getD1 (lead_some h).2.2]
  rfl
theorem vf_reduce_at {row g : List Rat} {k : Nat} (hl : row.length = g.length) (h : leadQ g = some k) : vf (reduceQ row g) k = 0 := by
  rw [vf_reduce hl h]
  have := (lead_some h).1
  rw [Rat.div_def]
  grind
theorem reduce_keep {row g : List Rat} {i : Nat} (hl : row.length = g.length) (h1 : vf row i = 0) (h2 : vf g i = 0) : vf (reduceQ row g) i = 0 := by
  cases q : leadQ g with
  | none => unfold reduceQ; rw [q]; exact h1
  | some k => rw [vf_reduce hl q, h1, h2]; grind
theorem reduces_len {w : Nat} : ∀ {fs : List (List Rat)} {row : List Rat}, row.length = w → (∀ f ∈ fs, f.length = w) → (reducesQ row fs).length = w
  | [], _, h, _ => h
  | f :: fs, row, h, hf => reduces_len (fs := fs) (row := reduceQ row f) (reduce_len h (hf f List.mem_cons_self)) fun g hg => hf g (List.mem_cons_of_mem _ hg)
theorem reduces_keep {w : Nat} {i : Nat} : ∀ {fs : List (List Rat)} {row : List Rat}, row.length = w → (∀ f ∈ fs, f.length = w ∧ vf f i = 0) → vf row i = 0 → vf (reducesQ row fs) i = 0
  | [], _, _, _, h => h
  | f :: fs, row, hl, hf, h => by
    have h1 := hf f List.mem_cons_self
    exact reduces_keep (fs := fs) (row := reduceQ row f) (reduce_len hl h1.1) (fun g hg => hf g (List.mem_cons_of_mem _ hg)) (reduce_keep (hl.trans h1.1.symm) h h1.2)
/-- reduced by all, it is 0 at each one's first place, if the later ones are 0 at the earlier ones' -/
theorem reduces_at {w : Nat} : ∀ {fs : List (List Rat)} {row : List Rat}, row.length = w → (∀ f ∈ fs, f.length = w) → fs.Pairwise (fun r s => ∀ k, leadQ r = some k → vf s k = 0) →
    ∀ f ∈ fs, ∀ k, leadQ f = some k → vf (reducesQ row fs) k = 0
  | [], _, _, _, _, f, hf, _, _ => by cases hf
  | g :: fs, row, hl, hf, hp, f, hm, k, hk => by
    rw [List.pairwise_cons] at hp
    have hg := hf g List.mem_cons_self
    have hf' : ∀ f ∈ fs, f.length = w := fun f h => hf f (List.mem_cons_of_mem _ h)
    rcases List.mem_cons.mp hm with rfl | hm
    · exact reduces_keep (fs := fs) (row := reduceQ row f) (reduce_len hl hg) (fun s hs => ⟨hf' s hs, hp.1 s hs k hk⟩) (vf_reduce_at (hl.trans hg.symm) hk)
    · exact reduces_at (fs := fs) (row := reduceQ row g) (reduce_len hl hg) hf' hp.2 f hm k hk
theorem reduces_span {w : Nat} {G : Vec → Prop} : ∀ {fs : List (List Rat)} {row : List Rat}, row.length = w → (∀ f ∈ fs, f.length = w ∧ Span G (vf f)) → (Span G (vf (reducesQ row fs)) ↔ Span G (vf row))
  | [], _, _, _ => Iff.rfl
  | f :: fs, row, hl, hf => by
    have h1 := hf f List.mem_cons_self
    have ih := reduces_span (G := G) (fs := fs) (row := reduceQ row f) (reduce_len hl h1.1) fun g hg => hf g (List.mem_cons_of_mem _ hg)
    refine Iff.trans ih ?_
    cases q : leadQ f with
    | none => unfold reduceQ; rw [q]
    | some k =>
      have e := vf_reduce (row := row) (hl.trans h1.1.symm) q
      constructor
      · intro h
        exact (Span.comb 1 (vf row k / vf f k) h h1.2).cast fun j => by rw [e]; grind
      · intro h
        exact (Span.comb 1 (-(vf row k / vf f k)) h h1.2).cast fun j => by rw [e]; grind

/-! ## The specification's echelon form -/
structure Ech (w : Nat) (found : List (List Rat)) : Prop where
  len : ∀ r ∈ found, r.length = w
  nn : ∀ r ∈ found, leadQ r ≠ none
  pw : found.Pairwise fun r s => ∀ k, leadQ r = some k → vf s k = 0
theorem Ech.nil (w : Nat) : Ech w [] := ⟨fun _ h => (by cases h), fun _ h => (by cases h), .nil⟩
theorem Ech.step {w : Nat} {found : List (List Rat)} (E : Ech w found) {row : List Rat} (hr : row.length = w) : Ech w (echStep found row) := by
  unfold echStep
  split
  · exact E
  · rename_i hn
    have hl := reduces_len hr E.len
    refine ⟨fun r h => ?_, fun r h => ?_, ?_⟩
    · rcases List.mem_append.mp h with h | h
      · exact E.len r h
      · rw [List.mem_singleton.mp h]; exact hl
    · rcases List.mem_append.mp h with h | h
      · exact E.nn r h
      · rw [List.mem_singleton.mp h]
        intro z
        rw [z] at hn
        exact hn rfl
    · rw [List.pairwise_append]
      refine ⟨E.pw, List.pairwise_singleton .., fun r h s hs k hk => ?_⟩
      rw [List.mem_singleton.mp hs]
      exact reduces_at hr E.len E.pw r h k hk
theorem Ech.fold {w : Nat} : ∀ (rows : List (List Rat)) {found : List (List Rat)}, Ech w found → (∀ r ∈ rows, r.length = w) → Ech w (rows.foldl echStep found)
  | [], _, E, _ => E
  | x :: r, found, E, h => Ech.fold r (E.step (h x List.mem_cons_self)) fun y hy => h y (List.mem_cons_of_mem _ hy)
theorem ech_ok {w : Nat} {rows : List (List Rat)} (h : ∀ r ∈ rows, r.length = w) : Ech w (echelonQ rows) := Ech.fold rows (Ech.nil w) h
theorem echStep_span {w : Nat} {found : List (List Rat)} (E : Ech w found) {row : List Rat} (hr : row.length = w) (v : Vec) :
    Span (Gr (echStep found row)) v ↔ Span (fun u => Gr found u ∨ u = vf row) v := by
  have base : ∀ f ∈ found, f.length = w ∧ Span (fun u => Gr found u ∨ u = vf row) (vf f) := fun f hf => ⟨E.len f hf, Span.gen (.inl ⟨f, hf, rfl⟩)⟩
  have key : Span (fun u => Gr found u ∨ u = vf row) (vf (reducesQ row found)) := (reduces_span hr base).mpr (Span.gen (.inr rfl))
  have up : ∀ G : Vec → Prop, (∀ f ∈ found, Span G (vf f)) → Span G (vf (reducesQ row found)) → Span G (vf row) := fun G h1 h2 => (reduces_span hr fun f hf => ⟨E.len f hf, h1 f hf⟩).mp h2
  unfold echStep
  split
  · rename_i hn
    have hz : ∀ j, vf (reducesQ row found) j = 0 := lead_none (by simpa using hn)
    constructor
    · exact Span.mono fun u hu => .inl hu
    · refine Span.le fun u hu => ?_
      rcases hu with hu | rfl
      · exact Span.gen hu
      · exact up _ (fun f hf => Span.gen ⟨f, hf, rfl⟩) (Span.zero.cast hz)
  · constructor
    · refine Span.le fun u ⟨r, h, e⟩ => ?_
      subst e
      rcases List.mem_append.mp h with h | h
      · exact Span.gen (.inl ⟨r, h, rfl⟩)
      · rw [List.mem_singleton.mp h]; exact key
    · refine Span.le fun u hu => ?_
      rcases hu with ⟨f, hf, rfl⟩ | rfl
      · exact Span.gen ⟨f, List.mem_append_left _ hf, rfl⟩
      · exact up _ (fun f hf => Span.gen ⟨f, List.mem_append_left _ hf, rfl⟩) (Span.gen ⟨_, List.mem_append_right _ (List.mem_singleton.mpr rfl), rfl⟩)
theorem ech_span_go {w : Nat} : ∀ (rows : List (List Rat)) {found : List (List Rat)}, Ech w found → (∀ r ∈ rows, r.length = w) → ∀ v,
    Span (Gr (rows.foldl echStep found)) v ↔ Span (fun u => Gr found u ∨ Gr rows u) v
  | [], found, E, _, v => ⟨Span.mono fun u hu => .inl hu, Span.mono fun u hu => hu.elim id fun ⟨_, h, _⟩ => by cases h⟩
  | x :: r, found, E, h, v => by
    have hx := h x List.mem_cons_self
    rw [List.foldl_cons]
    refine Iff.trans (ech_span_go r (E.step hx) (fun y hy => h y (List.mem_cons_of_mem _ hy)) v) ?_
    constructor
    · refine Span.le fun u hu => ?_
      rcases hu with hu | ⟨y, hy, rfl⟩
      · have := (echStep_span E hx u).mp (Span.gen hu)
        refine this.mono fun u hu => ?_
        rcases hu with hu | rfl
        · exact .inl hu
        · exact .inr ⟨x, List.mem_cons_self, rfl⟩
      · exact Span.gen (.inr ⟨y, List.mem_cons_of_mem _ hy, rfl⟩)
    · have low : ∀ u, Span (fun u => Gr found u ∨ u = vf x) u → Span (fun u => Gr (echStep found x) u ∨ Gr r u) u := fun u hu => ((echStep_span E hx u).mpr hu).mono fun u hu => .inl hu
      refine Span.le fun u hu => ?_
      rcases hu with hu | ⟨y, hy, rfl⟩
      · exact low _ (Span.gen (.inl hu))
      · rcases List.mem_cons.mp hy with rfl | hy
        · exact low _ (Span.gen (.inr rfl))
        · exact Span.gen (.inr ⟨y, hy, rfl⟩)
theorem ech_span {w : Nat} {rows : List (List Rat)} (h : ∀ r ∈ rows, r.length = w) (v : Vec) : Span (Gr (echelonQ rows)) v ↔ Span (Gr rows) v := by
  refine Iff.trans (ech_span_go rows (Ech.nil w) h v) ⟨Span.mono fun u hu => ?_, Span.mono fun u hu => .inr hu⟩
  rcases hu with ⟨_, h, _⟩ | hu
  · cases h
  · exact hu

/-! ## .. reduced from below -/
structure Upd (w : Nat) (U : List (List Rat)) : Prop extends Ech w U where
  pw2 : U.Pairwise fun r s => ∀ k, leadQ s = some k → vf r k = 0
theorem up_zero {w : Nat} {i : Nat} : ∀ {e : List (List Rat)}, (∀ r ∈ e, r.length = w ∧ vf r i = 0) → ∀ r ∈ upQ e, r.length = w ∧ vf r i = 0
  | [], _, r, hr => by cases hr
  | x :: e, h, r, hr => by
    have ih := up_zero (e := e) fun r hr => h r (List.mem_cons_of_mem _ hr)
    have hx := h x List.mem_cons_self
    rcases List.mem_cons.mp (show r ∈ reducesQ x (upQ e) :: upQ e from hr) with rfl | hr
    · exact ⟨reduces_len hx.1 fun f hf => (ih f hf).1, reduces_keep hx.1 ih hx.2⟩
    · exact ih r hr
/-- a row keeps its first place -/
theorem reduces_lead {w k : Nat} : ∀ {fs : List (List Rat)} {row : List Rat}, row.length = w → (∀ f ∈ fs, f.length = w ∧ vf f k = 0) → leadQ row = some k → leadQ (reducesQ row fs) = some k
  | [], _, _, _, h => h
  | f :: fs, row, hl, hf, h => by
    have h1 := hf f List.mem_cons_self
    refine reduces_lead (fs := fs) (row := reduceQ row f) (reduce_len hl h1.1) (fun g hg => hf g (List.mem_cons_of_mem _ hg)) ?_
    cases q : leadQ f with
    | none => unfold reduceQ; rw [q]; exact h
    | some m =>
      have e := vf_reduce (row := row) (hl.trans h1.1.symm) q
      obtain ⟨a1, a2, _⟩ := lead_some h
      obtain ⟨b1, b2, _⟩ := lead_some q
      have hmk : m ≠ k := fun z => b1 (z ▸ h1.2)
      rcases Nat.lt_or_gt_of_ne hmk with c | c
      · -- the factor is 0
        have z : vf row m = 0 := a2 m c
        refine lead_of ?_ fun j hj => ?_
        · rw [e, z]; rw [Rat.div_def]; grind
        · rw [e, z, a2 j hj]; rw [Rat.div_def]; grind
      · refine lead_of ?_ fun j hj => ?_
        · rw [e, b2 k c]; grind
        · rw [e, b2 j (Nat.lt_trans hj c), a2 j hj]; grind
theorem up_ok {w : Nat} : ∀ {e : List (List Rat)}, Ech w e → Upd w (upQ e) ∧ (upQ e).map leadQ = e.map leadQ
  | [], _ => ⟨⟨Ech.nil w, .nil⟩, rfl⟩
  | x :: e, E => by
    have pc := List.pairwise_cons.mp E.pw
    have Ee : Ech w e := ⟨fun r h => E.len r (List.mem_cons_of_mem _ h), fun r h => E.nn r (List.mem_cons_of_mem _ h), pc.2⟩
    obtain ⟨U, hm⟩ := up_ok Ee
    have hx := E.len x List.mem_cons_self
    obtain ⟨k, hk⟩ := Option.ne_none_iff_exists'.mp (E.nn x List.mem_cons_self)
    have z := up_zero (i := k) (e := e) fun r h => ⟨Ee.len r h, pc.1 r h k hk⟩
    have hl : leadQ (reducesQ x (upQ e)) = some k := reduces_lead hx z hk
    have hup : upQ (x :: e) = reducesQ x (upQ e) :: upQ e := rfl
    rw [hup]
    refine ⟨⟨⟨fun r h => ?_, fun r h => ?_, ?_⟩, ?_⟩, ?_⟩
    · rcases List.mem_cons.mp h with rfl | h
      · exact reduces_len hx U.len
      · exact U.len r h
    · rcases List.mem_cons.mp h with rfl | h
      · rw [hl]; exact fun z => by cases z
      · exact U.nn r h
    · refine List.pairwise_cons.mpr ⟨fun r h m hm => ?_, U.pw⟩
      rw [hl] at hm
      cases hm
      exact (z r h).2
    · refine List.pairwise_cons.mpr ⟨fun r h m hm => reduces_at hx U.len U.pw r h m hm, U.pw2⟩
    · show leadQ (reducesQ x (upQ e)) :: (upQ e).map leadQ = leadQ x :: e.map leadQ
      rw [hl, hk, hm]
theorem up_span {w : Nat} : ∀ {e : List (List Rat)}, Ech w e → ∀ v, Span (Gr (upQ e)) v ↔ Span (Gr e) v
  | [], _, v => Iff.rfl
  | x :: e, E, v => by
    have pc := List.pairwise_cons.mp E.pw
    have Ee : Ech w e := ⟨fun r h => E.len r (List.mem_cons_of_mem _ h), fun r h => E.nn r (List.mem_cons_of_mem _ h), pc.2⟩
    have ih := up_span Ee
    obtain ⟨U, _⟩ := up_ok Ee
    have hx := E.len x List.mem_cons_self
    constructor
    · refine Span.le fun u ⟨r, h, eq⟩ => ?_
      subst eq
      have low : ∀ f ∈ upQ e, Span (Gr (x :: e)) (vf f) := fun f hf => ((ih _).mp (Span.gen ⟨f, hf, rfl⟩)).mono fun u ⟨r, h, q⟩ => ⟨r, List.mem_cons_of_mem _ h, q⟩
      rcases List.mem_cons.mp (show r ∈ reducesQ x (upQ e) :: upQ e from h) with rfl | h
      · exact (reduces_span hx fun f hf => ⟨U.len f hf, low f hf⟩).mpr (Span.gen ⟨x, List.mem_cons_self, rfl⟩)
      · exact low r h
    · refine Span.le fun u ⟨r, h, eq⟩ => ?_
      subst eq
      have low : ∀ f ∈ upQ e, Span (Gr (upQ (x :: e))) (vf f) := fun f hf => Span.gen ⟨f, List.mem_cons_of_mem _ hf, rfl⟩
      rcases List.mem_cons.mp h with rfl | h
      · exact (reduces_span hx fun f hf => ⟨U.len f hf, low f hf⟩).mp (Span.gen ⟨_, List.mem_cons_self, rfl⟩)
      · exact ((ih _).mpr (Span.gen ⟨r, h, rfl⟩)).mono fun u ⟨r, h, q⟩ => ⟨r, List.mem_cons_of_mem _ h, q⟩
/-- the system of rows that have a first place each -/
def sysOf (U : List (List Rat)) : List (Nat × Vec) := U.map fun r => ((leadQ r).getD 0, vf r)
theorem sys_span (U : List (List Rat)) (v : Vec) : Span (Gs (sysOf U)) v ↔ Span (Gr U) v := by
  constructor
  · refine Span.mono fun u ⟨e, he, q⟩ => ?_
    obtain ⟨r, hr, rfl⟩ := List.mem_map.mp he
    exact ⟨r, hr, q⟩
  · refine Span.mono fun u ⟨r, hr, q⟩ => ⟨_, List.mem_map.mpr ⟨r, hr, rfl⟩, q⟩
theorem Upd.red {w : Nat} {U : List (List Rat)} (u : Upd w U) : Red (sysOf U) := by
  have at_ : ∀ r ∈ U, ∃ k, leadQ r = some k := fun r h => Option.ne_none_iff_exists'.mp (u.nn r h)
  -- two rows at different places of the list
  have off : ∀ {l : List (List Rat)}, (∀ r ∈ l, ∃ k, leadQ r = some k) → l.Pairwise (fun r s => ∀ k, leadQ r = some k → vf s k = 0) → l.Pairwise (fun r s => ∀ k, leadQ s = some k → vf r k = 0) →
      ∀ r ∈ l, ∀ s ∈ l, (leadQ r).getD 0 ≠ (leadQ s).getD 0 → vf r ((leadQ s).getD 0) = 0 := by
    intro l
    induction l with
    | nil => intro _ _ _ r hr; cases hr
    | cons x l ih =>
      intro ha h1 h2 r hr s hs hne
      have p1 := List.pairwise_cons.mp h1
      have p2 := List.pairwise_cons.mp h2
      obtain ⟨ks, hks⟩ := ha s hs
      obtain ⟨kr, hkr⟩ := ha r hr
      rcases List.mem_cons.mp hr with er | hr'
      · rcases List.mem_cons.mp hs with es | hs'
        · rw [er, es] at hne; exact absurd rfl hne
        · rw [er, hks]; exact p2.1 s hs' ks hks
      · rcases List.mem_cons.mp hs with es | hs'
        · rw [hks]
          rw [es] at hks
          exact p1.1 r hr' ks hks
        · exact ih (fun r h => ha r (List.mem_cons_of_mem _ h)) p1.2 p2.2 r hr' s hs' hne
  have nd : ∀ {l : List (List Rat)}, (∀ r ∈ l, ∃ k, leadQ r = some k) → l.Pairwise (fun r s => ∀ k, leadQ r = some k → vf s k = 0) → (l.map fun r => (leadQ r).getD 0).Nodup := by
    intro l
    induction l with
    | nil => intro _ _; exact List.nodup_nil
    | cons x l ih =>
      intro ha h1
      have p1 := List.pairwise_cons.mp h1
      rw [List.map_cons, List.nodup_cons]
      refine ⟨fun hm => ?_, ih (fun r h => ha r (List.mem_cons_of_mem _ h)) p1.2⟩
      obtain ⟨s, hs, q⟩ := List.mem_map.mp hm
      obtain ⟨kx, hkx⟩ := ha x List.mem_cons_self
      obtain ⟨ks, hks⟩ := ha s (List.mem_cons_of_mem _ hs)
      rw [hkx, hks] at q
      have q : ks = kx := q
      have z := p1.1 s hs kx hkx
      rw [← q] at z
      exact (lead_some hks).1 z
  refine ⟨fun e he => ?_, fun e he j hj => ?_, fun e he f hf hne => ?_, ?_⟩
  · obtain ⟨r, hr, rfl⟩ := List.mem_map.mp he
    obtain ⟨k, hk⟩ := at_ r hr
    simp only [hk]
    exact (lead_some hk).1
  · obtain ⟨r, hr, rfl⟩ := List.mem_map.mp he
    obtain ⟨k, hk⟩ := at_ r hr
    simp only [hk] at hj ⊢
    exact (lead_some hk).2.1 j hj
  · obtain ⟨r, hr, rfl⟩ := List.mem_map.mp he
    obtain ⟨s, hs, rfl⟩ := List.mem_map.mp hf
    exact off at_ u.pw u.pw2 r hr s hs hne
  · unfold sysOf
    rw [List.map_map]
    exact nd at_ u.pw

/-! ## what the specification's rank and solutions are -/
section
variable {w : Nat} {rows : List (List Rat)}
theorem spec_red (h : ∀ r ∈ rows, r.length = w) : Red (sysOf (upQ (echelonQ rows))) := (up_ok (ech_ok h)).1.red
theorem spec_span (h : ∀ r ∈ rows, r.length = w) (v : Vec) : Span (Gs (sysOf (upQ (echelonQ rows)))) v ↔ Span (Gr rows) v :=
  (sys_span _ v).trans ((up_span (ech_ok h) v).trans (ech_span h v))
theorem up_length (e : List (List Rat)) : (upQ e).length = e.length := by
  induction e with
  | nil => rfl
  | cons x e ih => show (upQ e).length + 1 = _; rw [ih]; rfl
theorem rank_sys (rows : List (List Rat)) : (sysOf (upQ (echelonQ rows))).length = rankQ rows := by
  unfold sysOf
  rw [List.length_map, up_length]
  rfl
/-- the rank by any reduced system of the same span -/
theorem rank_of_red (h : ∀ r ∈ rows, r.length = w) {L : List (Nat × Vec)} (R : Red L) (hs : ∀ v, Span (Gs L) v ↔ Span (Gr rows) v) : rankQ rows = L.length := by
  rw [← rank_sys]
  exact (spec_red h).length_eq R fun u => (spec_span h u).trans (hs u).symm
/-- one row more -/
theorem rank_snoc (h : ∀ r ∈ rows, r.length = w) {c : List Rat} (hc : c.length = w) : (Span (Gr rows) (vf c) → rankQ (rows ++ [c]) = rankQ rows) ∧ (¬ Span (Gr rows) (vf c) → rankQ (rows ++ [c]) = rankQ rows + 1) := by
  have E := ech_ok h
  have e : echelonQ (rows ++ [c]) = echStep (echelonQ rows) c := by
    unfold echelonQ
    rw [List.foldl_append]
    rfl
  have base : ∀ f ∈ echelonQ rows, f.length = w ∧ Span (Gr (echelonQ rows)) (vf f) := fun f hf => ⟨E.len f hf, Span.gen ⟨f, hf, rfl⟩⟩
  have hred := reduces_span (G := Gr (echelonQ rows)) hc base
  have R := spec_red h
  constructor
  · intro hs
    have hs := hred.mpr ((ech_span h _).mpr hs)
    have hz := R.zero ((spec_span h _).mpr ((ech_span h _).mp hs)) fun g hg => by
      obtain ⟨r, hr, rfl⟩ := List.mem_map.mp hg
      obtain ⟨k, hk⟩ := Option.ne_none_iff_exists'.mp ((up_ok E).1.nn r hr)
      have hm : leadQ r ∈ (upQ (echelonQ rows)).map leadQ := List.mem_map_of_mem hr
      rw [(up_ok E).2] at hm
      obtain ⟨r', hr', q⟩ := List.mem_map.mp hm
      simp only [hk]
      exact reduces_at hc E.len E.pw r' hr' k (by rw [q, hk])
    have hn : leadQ (reducesQ c (echelonQ rows)) = none := by
      cases q : leadQ (reducesQ c (echelonQ rows)) with
      | none => rfl
      | some k => exact absurd (hz k) (lead_some q).1
    unfold rankQ
    rw [e]
    unfold echStep
    rw [hn]
    rfl
  · intro hs
    unfold rankQ
    rw [e]
    unfold echStep
    split
    · rename_i hn
      refine absurd ?_ hs
      refine (ech_span h _).mp (hred.mp (Span.zero.cast (lead_none (by simpa using hn))))
    · rw [List.length_append]
      rfl
theorem find_lead {U : List (List Rat)} (u : Red (sysOf U)) (hn : ∀ r ∈ U, leadQ r ≠ none) {j : Nat} : (∀ r, U.find? (fun r => leadQ r == some j) = some r → r ∈ U ∧ leadQ r = some j) ∧
    (U.find? (fun r => leadQ r == some j) = none → j ∉ (sysOf U).map (·.1)) := by
  constructor
  · intro r hr
    have h1 := List.mem_of_find?_eq_some hr
    have h2 := List.find?_some hr
    exact ⟨h1, by simpa using h2⟩
  · intro hr hm
    rw [List.find?_eq_none] at hr
    obtain ⟨e, he, q⟩ := List.mem_map.mp hm
    obtain ⟨r, hr', rfl⟩ := List.mem_map.mp he
    obtain ⟨k, hk⟩ := Option.ne_none_iff_exists'.mp (hn r hr')
    have := hr r hr'
    rw [hk] at this
    simp only [hk] at q
    have q : k = j := q
    rw [q] at this
    simp at this
/-- a solution by any reduced system of the same span -/
theorem solve_of_red {many : Nat} (h : ∀ r ∈ rows, r.length = many + 1) {L : List (Nat × Vec)} (R : Red L) (hs : ∀ v, Span (Gs L) v ↔ Span (Gr rows) v) {j : Nat} (hj : j < many) :
    (∀ e ∈ L, e.1 = j → (solveQ many rows).getD j 0 = e.2 many / e.2 j) ∧ (j ∉ L.map (·.1) → (solveQ many rows).getD j 0 = 0) := by
  have hg : (solveQ many rows).getD j 0 = (match (upQ (echelonQ rows)).find? fun r => leadQ r == some j with
    | none => 0
    | some r => r.getD many 0 / r.getD j 1) := by
    unfold solveQ
    rw [List.getD_eq_getElem?_getD, List.getElem?_map, List.getElem?_range hj]
    rfl
  have U := (up_ok (ech_ok h)).1
  obtain ⟨f1, f2⟩ := find_lead (spec_red h) U.nn (j := j)
  have sp : ∀ u, Span (Gs (sysOf (upQ (echelonQ rows)))) u ↔ Span (Gs L) u := fun u => (spec_span h u).trans (hs u).symm
  constructor
  · intro e he ej
    rw [hg]
    cases q : (upQ (echelonQ rows)).find? fun r => leadQ r == some j with
    | none =>
      exact absurd (R.sub (spec_red h) (fun u => (sp u).mpr) (List.mem_map.mpr ⟨e, he, ej⟩)) (f2 q)
    | some r =>
      obtain ⟨h1, h2⟩ := f1 r q
      simp only
      rw [vf_getD1 (lead_some h2).2.2]
      have hm : ((leadQ r).getD 0, vf r) ∈ sysOf (upQ (echelonQ rows)) := List.mem_map.mpr ⟨r, h1, rfl⟩
      have z := (spec_red h).uniq R sp hm he (by rw [h2]; exact ej.symm) many
      simp only [h2] at z
      have z : vf r many / vf r j = e.2 many / e.2 e.1 := z
      rw [ej] at z
      exact z
  · intro hn
    rw [hg]
    cases q : (upQ (echelonQ rows)).find? fun r => leadQ r == some j with
    | none => rfl
    | some r =>
      obtain ⟨h1, h2⟩ := f1 r q
      refine absurd ?_ hn
      refine (spec_red h).sub R (fun u => (sp u).mp) (List.mem_map.mpr ⟨((leadQ r).getD 0, vf r), List.mem_map.mpr ⟨r, h1, rfl⟩, ?_⟩)
      simp [h2]
theorem solve_length (many : Nat) (rows : List (List Rat)) : (solveQ many rows).length = many := by
  unfold solveQ
  rw [List.length_map, List.length_range]
end
end LF

set_option linter.all false
/-! # The program's elimination over whole numbers -/
namespace LF

def absI (i : Int) : Int := if i < 0 then -i else i
def common (a b : Int) : Int := (Int.gcd a b : Int)
def multiple (a b : Int) : Int := absI (a.fdiv (common a b) * b)
def part (t b : Int) : Int := if b < 0 then 0 - common t b else common t b
def ratio (t b : Int) : Int × Int := (t.fdiv (part t b), b.fdiv (part t b))
def contentOf (row : List Int) : Int := row.foldl common 0
def lowered (row : List Int) : List Int := if contentOf row < 2 then row else row.map fun n => n.fdiv (contentOf row)
def crossed (row lead : List Int) (p : Nat) : List Int := List.zipWith (fun n o => lead.getD p 0 * n - row.getD p 0 * o) row lead
def cleared (row lead : List Int) (p : Nat) : List Int := if row.getD p 0 = 0 then row else lowered (crossed row lead p)
def firstWith (rows : List (List Int)) (p : Nat) : Option Nat := rows.findIdx? fun r => decide (r.getD p 0 ≠ 0)
def without (rows : List (List Int)) (i : Nat) : List (List Int) := rows.take i ++ rows.drop (i + 1)
def rankStep (s : Nat × List (List Int)) (p : Nat) : Nat × List (List Int) := match firstWith s.2 p with
  | none => s
  | some i => (s.1 + 1, (without s.2 i).map fun row => cleared row (s.2.getD i []) p)
def rankOf (rows : List (List Int)) (many : Nat) : Nat := ((List.range many).foldl rankStep (0, rows)).1
abbrev Leads := List (Nat × List Int)
def leadsStep (s : Leads × List (List Int)) (p : Nat) : Leads × List (List Int) := match firstWith s.2 p with
  | none => s
  | some i => (s.1.map (fun e => (e.1, cleared e.2 (s.2.getD i []) p)) ++ [(p, s.2.getD i [])], (without s.2 i).map fun row => cleared row (s.2.getD i []) p)
def leadsOf (rows : List (List Int)) (many : Nat) : Leads × List (List Int) := (List.range many).foldl leadsStep ([], rows)
def bottomOf (leads : Leads) : Int := leads.foldl (fun b e => multiple b (e.2.getD e.1 0)) 1
def topsOf (leads : Leads) (bottom : Int) (many : Nat) : List Int := leads.foldl (fun t e => t.set e.1 (e.2.getD many 0 * bottom.fdiv (e.2.getD e.1 0))) (List.replicate many 0)
def solved (rows : List (List Int)) (many : Nat) : Option (List Int × Int) :=
  if (leadsOf rows many).2.any (fun r => decide (r.getD many 0 ≠ 0)) then none
  else some (topsOf (leadsOf rows many).1 (bottomOf (leadsOf rows many).1) many, bottomOf (leadsOf rows many).1)

/-! ## whole numbers -/
theorem fdiv_exact {a b : Int} (h : b ∣ a) : ((a.fdiv b : Int) : Rat) = (a : Rat) / (b : Rat) := by
  obtain ⟨c, rfl⟩ := h
  by_cases hb : b = 0
  · subst hb
    simp [Rat.div_def]
  · rw [Int.mul_fdiv_cancel_left _ hb]
    have hb' : (b : Rat) ≠ 0 := fun z => hb (by
      have z : ((b : Int) : Rat) = ((0 : Int) : Rat) := z
      exact Rat.intCast_inj.mp z)
    push_cast
    grind
theorem castne {b : Int} (hb : b ≠ 0) : (b : Rat) ≠ 0 := fun z => hb (by
      have z : ((b : Int) : Rat) = ((0 : Int) : Rat) := z
      exact Rat.intCast_inj.mp z)
theorem cast0 {b : Int} : (b : Rat) = 0 ↔ b = 0 := ⟨fun z => by
      have z : ((b : Int) : Rat) = ((0 : Int) : Rat) := z
      exact Rat.intCast_inj.mp z, fun z => by rw [z]; rfl⟩
theorem common_dvd (a b : Int) : common a b ∣ a ∧ common a b ∣ b := ⟨Int.gcd_dvd_left .., Int.gcd_dvd_right ..⟩
theorem common_nonneg (a b : Int) : 0 ≤ common a b := Int.natCast_nonneg _
theorem common_ne {a b : Int} (h : b ≠ 0) : common a b ≠ 0 := fun z => by
  have z : (Int.gcd a b : Int) = 0 := z
  have : Int.gcd a b = 0 := by omega
  exact h (Int.gcd_eq_zero_iff.mp this).2
/-- the pair of a rational number -/
def pairQ (q : Rat) : Int × Int := (q.num, (q.den : Int))
theorem ratio_eq {t b : Int} (hb : b ≠ 0) : ratio t b = pairQ ((t : Rat) / (b : Rat)) := by
  have h := fraction_eq t b
  unfold Kxd4.fraction at h
  have hc : common t b ≠ 0 := common_ne hb
  obtain ⟨⟨x, hx⟩, ⟨y, hy⟩⟩ := common_dvd t b
  have hg : (Int.gcd t b : Int) = common t b := rfl
  have hp : 0 < common t b := by have := common_nonneg t b; omega
  simp only [hb, if_false] at h
  unfold ratio part pairQ
  split at h
  · rename_i hn
    have e1 := congrArg Kxd4.Fraction.numerator h
    have e2 := congrArg Kxd4.Fraction.denominator h
    simp only [ofQ] at e1 e2
    rw [← e1, ← e2, if_pos hn, hg]
    generalize common t b = g at *
    rw [hx, hy]
    rw [show (0 : Int) - g = -g by omega]
    have hy0 : y < 0 := by
      rcases Int.lt_or_le y 0 with h | h
      · exact h
      · have := Int.mul_nonneg (Int.le_of_lt hp) h; omega
    have a1 : (g * x).fdiv (-g) = -x := by
      rw [show g * x = -g * -x by grind, Int.mul_fdiv_cancel_left _ (by omega)]
    have a2 : (g * y).fdiv (-g) = -y := by
      rw [show g * y = -g * -y by grind, Int.mul_fdiv_cancel_left _ (by omega)]
    have a3 : -(g * x) / g = -x := by
      rw [show -(g * x) = g * -x by grind, Int.mul_ediv_cancel_left _ (by omega)]
    have a4 : -(g * y) / g = -y := by
      rw [show -(g * y) = g * -y by grind, Int.mul_ediv_cancel_left _ (by omega)]
    rw [a1, a2, a3, a4]
    congr 1
    omega
  · rename_i hn
    have e1 := congrArg Kxd4.Fraction.numerator h
    have e2 := congrArg Kxd4.Fraction.denominator h
    simp only [ofQ] at e1 e2
    rw [← e1, ← e2, if_neg hn, hg]
    generalize common t b = g at *
    rw [hx, hy]
    have hy0 : 0 < y := by
      rcases Int.lt_or_le 0 y with h | h
      · exact h
      · have := Int.mul_nonpos_of_nonneg_of_nonpos (Int.le_of_lt hp) h; omega
    rw [Int.mul_fdiv_cancel_left _ (by omega), Int.mul_fdiv_cancel_left _ (by omega), Int.mul_ediv_cancel_left _ (by omega), Int.mul_ediv_cancel_left _ (by omega)]
    congr 1
    omega

/-! ## rows -/
def vi (r : List Int) : Vec := fun j => ((r.getD j 0 : Int) : Rat)
def castRow (r : List Int) : List Rat := r.map fun (n : Int) => (n : Rat)
theorem vi_cast (r : List Int) (j : Nat) : vf (castRow r) j = vi r j := by
  unfold vf vi castRow
  rw [List.getD_eq_getElem?_getD, List.getElem?_map, List.getD_eq_getElem?_getD]
  cases r[j]? <;> rfl
theorem content_go : ∀ (row : List Int) (p : Int), 0 ≤ p → 0 ≤ row.foldl common p ∧ row.foldl common p ∣ p ∧ ∀ n ∈ row, row.foldl common p ∣ n
  | [], p, h => ⟨h, Int.dvd_refl _, fun n hn => by cases hn⟩
  | x :: r, p, h => by
    obtain ⟨h1, h2, h3⟩ := content_go r (common p x) (common_nonneg _ _)
    rw [List.foldl_cons]
    refine ⟨h1, Int.dvd_trans h2 (common_dvd p x).1, fun n hn => ?_⟩
    rcases List.mem_cons.mp hn with rfl | hn
    · exact Int.dvd_trans h2 (common_dvd p n).2
    · exact h3 n hn
theorem content_dvd {row : List Int} {n : Int} (h : n ∈ row) : contentOf row ∣ n := (content_go row 0 (Int.le_refl 0)).2.2 n h
theorem content_nonneg (row : List Int) : 0 ≤ contentOf row := (content_go row 0 (Int.le_refl 0)).1
theorem lowered_len (row : List Int) : (lowered row).length = row.length := by
  unfold lowered
  split
  · rfl
  · rw [List.length_map]
theorem lowered_spec (row : List Int) : ∃ a : Rat, a ≠ 0 ∧ ∀ j, vi (lowered row) j = a * vi row j := by
  unfold lowered
  split
  · exact ⟨1, by decide, fun j => by grind⟩
  · rename_i h
    have hc : contentOf row ≠ 0 := by omega
    have hc' := castne hc
    refine ⟨1 / (contentOf row : Rat), ?_, fun j => ?_⟩
    · rw [Rat.div_def]
      grind
    · unfold vi
      rw [List.getD_eq_getElem?_getD, List.getElem?_map, List.getD_eq_getElem?_getD]
      cases q : row[j]? with
      | none =>
        show ((0 : Int) : Rat) = _ * ((0 : Int) : Rat)
        grind
      | some x =>
        show ((x.fdiv (contentOf row) : Int) : Rat) = _ * ((x : Int) : Rat)
        rw [fdiv_exact (content_dvd (List.mem_of_getElem? q))]
        rw [Rat.div_def, Rat.div_def]
        grind
theorem crossed_len {row lead : List Int} {p : Nat} (h : row.length = lead.length) : (crossed row lead p).length = row.length := by
  unfold crossed
  rw [List.length_zipWith, h, Nat.min_self]
theorem vi_crossed {row lead : List Int} {p : Nat} (h : row.length = lead.length) (j : Nat) : vi (crossed row lead p) j = vi lead p * vi row j - vi row p * vi lead j := by
  unfold vi crossed
  rw [List.getD_eq_getElem?_getD (l := List.zipWith _ _ _), List.getElem?_zipWith, List.getD_eq_getElem?_getD (l := row) (i := j), List.getD_eq_getElem?_getD (l := lead) (i := j)]
  by_cases hj : j < row.length
  · rw [List.getElem?_eq_getElem hj, List.getElem?_eq_getElem (h ▸ hj)]
    show ((lead.getD p 0 * row[j] - row.getD p 0 * lead[j] : Int) : Rat) = _
    push_cast
    rfl
  · rw [List.getElem?_eq_none (by omega), List.getElem?_eq_none (by omega)]
    show ((0 : Int) : Rat) = _ * ((0 : Int) : Rat) - _ * ((0 : Int) : Rat)
    grind
theorem cleared_len {row lead : List Int} {p : Nat} (h : row.length = lead.length) : (cleared row lead p).length = row.length := by
  unfold cleared
  split
  · rfl
  · rw [lowered_len, crossed_len h]
theorem cleared_spec {row lead : List Int} {p : Nat} (h : row.length = lead.length) (hp : vi lead p ≠ 0) :
    (∃ a b : Rat, a ≠ 0 ∧ ∀ j, vi (cleared row lead p) j = a * vi row j + b * vi lead j) ∧ vi (cleared row lead p) p = 0 := by
  unfold cleared
  split
  · rename_i h0
    refine ⟨⟨1, 0, by decide, fun j => by grind⟩, ?_⟩
    unfold vi
    rw [h0]
    rfl
  · obtain ⟨a, ha, e⟩ := lowered_spec (crossed row lead p)
    refine ⟨⟨a * vi lead p, -(a * vi row p), ?_, fun j => ?_⟩, ?_⟩
    · intro z
      rcases Rat.mul_eq_zero.mp z with z | z
      · exact ha z
      · exact hp z
    · rw [e, vi_crossed h]
      grind
    · rw [e, vi_crossed h]
      grind

/-! ## the loop -/
theorem foldl_range_inv {β : Type} (P : Nat → β → Prop) (f : β → Nat → β) (b : β) : ∀ (n : Nat), P 0 b → (∀ k b, k < n → P k b → P (k + 1) (f b k)) → P n ((List.range n).foldl f b)
  | 0, h0, _ => h0
  | n + 1, h0, hs => by
    rw [List.range_succ, List.foldl_append]
    exact hs n _ (Nat.lt_succ_self n) (foldl_range_inv P f b n h0 fun k b hk hp => hs k b (Nat.lt_succ_of_lt hk) hp)
/-- the vectors of rows -/
def Gi (rows : List (List Int)) : Vec → Prop := fun u => ∃ r ∈ rows, u = vi r
theorem Gi_cast (rows : List (List Int)) (v : Vec) : Span (Gr (rows.map castRow)) v ↔ Span (Gi rows) v := by
  constructor
  · refine Span.mono fun u ⟨r, hr, q⟩ => ?_
    obtain ⟨r', hr', rfl⟩ := List.mem_map.mp hr
    exact ⟨r', hr', q.trans (funext (vi_cast r'))⟩
  · refine Span.mono fun u ⟨r, hr, q⟩ => ⟨castRow r, List.mem_map_of_mem hr, q.trans (funext fun j => (vi_cast r j).symm)⟩
def Gl (leads : Leads) : Vec → Prop := fun u => ∃ e ∈ leads, u = vi e.2
structure Elim (w k : Nat) (rows : List (List Int)) (s : Leads × List (List Int)) : Prop where
  llen : ∀ e ∈ s.1, e.2.length = w
  len : ∀ r ∈ s.2, r.length = w
  below : ∀ e ∈ s.1, e.1 < k
  nz : ∀ e ∈ s.1, vi e.2 e.1 ≠ 0
  low : ∀ e ∈ s.1, ∀ j, j < e.1 → vi e.2 j = 0
  off : ∀ e ∈ s.1, ∀ f ∈ s.1, e.1 ≠ f.1 → vi e.2 f.1 = 0
  nd : (s.1.map (·.1)).Nodup
  gone : ∀ r ∈ s.2, ∀ j, j < k → vi r j = 0
  span : ∀ v, Span (fun u => Gl s.1 u ∨ Gi s.2 u) v ↔ Span (Gi rows) v
theorem first_some {rows : List (List Int)} {p i : Nat} (h : firstWith rows p = some i) : ∃ r, rows[i]? = some r ∧ rows.getD i [] = r ∧ vi r p ≠ 0 := by
  unfold firstWith at h
  rw [List.findIdx?_eq_some_iff_getElem] at h
  obtain ⟨hi, h1, _⟩ := h
  refine ⟨rows[i], by simp [hi], by rw [List.getD_eq_getElem?_getD, List.getElem?_eq_getElem hi]; rfl, ?_⟩
  exact castne (by simpa using h1)
theorem first_none {rows : List (List Int)} {p : Nat} (h : firstWith rows p = none) : ∀ r ∈ rows, vi r p = 0 := by
  unfold firstWith at h
  rw [List.findIdx?_eq_none_iff] at h
  intro r hr
  have := h r hr
  have z : r.getD p 0 = 0 := by simpa using this
  unfold vi
  rw [z]
  rfl
theorem mem_without {rows : List (List Int)} {i : Nat} {x : List Int} (h : x ∈ without rows i) : x ∈ rows := by
  unfold without at h
  rcases List.mem_append.mp h with h | h
  · exact List.mem_of_mem_take h
  · exact List.mem_of_mem_drop h
theorem mem_split {rows : List (List Int)} {i : Nat} {r x : List Int} (hi : rows[i]? = some r) (h : x ∈ rows) : x = r ∨ x ∈ without rows i := by
  obtain ⟨n, hn, e⟩ := List.mem_iff_getElem.mp h
  unfold without
  rcases Nat.lt_trichotomy n i with c | c | c
  · refine .inr (List.mem_append_left _ ?_)
    rw [← e]
    exact List.mem_take_iff_getElem.mpr ⟨n, by omega, rfl⟩
  · subst c
    rw [List.getElem?_eq_getElem hn] at hi
    exact .inl (e.symm.trans (Option.some.inj hi))
  · refine .inr (List.mem_append_right _ ?_)
    rw [← e]
    refine List.mem_drop_iff_getElem.mpr ⟨n - (i + 1), by omega, ?_⟩
    congr 1
    omega
theorem Elim.start {w : Nat} {rows : List (List Int)} (h : ∀ r ∈ rows, r.length = w) : Elim w 0 rows ([], rows) where
  llen := fun _ h => by cases h
  len := h
  below := fun _ h => by cases h
  nz := fun _ h => by cases h
  low := fun _ h => by cases h
  off := fun _ h => by cases h
  nd := List.nodup_nil
  gone := fun _ _ j hj => by omega
  span := fun v => ⟨Span.mono fun u hu => hu.elim (fun ⟨_, h, _⟩ => by cases h) id, Span.mono fun u hu => .inr hu⟩
theorem Elim.step {w k : Nat} {rows : List (List Int)} {s : Leads × List (List Int)} (E : Elim w k rows s) : Elim w (k + 1) rows (leadsStep s k) := by
  unfold leadsStep
  cases q : firstWith s.2 k with
  | none =>
    simp only
    refine ⟨E.llen, E.len, fun e he => Nat.lt_succ_of_lt (E.below e he), E.nz, E.low, E.off, E.nd, fun r hr j hj => ?_, E.span⟩
    rcases Nat.lt_succ_iff_lt_or_eq.mp hj with c | c
    · exact E.gone r hr j c
    · rw [c]; exact first_none q r hr
  | some i =>
    obtain ⟨lead, hi, hd, hk⟩ := first_some q
    simp only [hd]
    have hm : lead ∈ s.2 := List.mem_of_getElem? hi
    have ll : lead.length = w := E.len lead hm
    have lz : ∀ j, j < k → vi lead j = 0 := E.gone lead hm
    have cl : ∀ row : List Int, row.length = w → row.length = lead.length := fun row h => h.trans ll.symm
    have wl : ∀ r ∈ without s.2 i, r.length = w := fun r hr => E.len r (mem_without hr)
    refine ⟨fun e he => ?_, fun r hr => ?_, fun e he => ?_, fun e he => ?_, fun e he j hj => ?_, fun e he f hf hne => ?_, ?_, fun r hr j hj => ?_, fun v => ?_⟩
    · rcases List.mem_append.mp he with he | he
      · obtain ⟨e', he', rfl⟩ := List.mem_map.mp he
        exact (cleared_len (cl _ (E.llen e' he'))).trans (E.llen e' he')
      · rw [List.mem_singleton.mp he]; exact ll
    · obtain ⟨r', hr', rfl⟩ := List.mem_map.mp hr
      exact (cleared_len (cl _ (wl r' hr'))).trans (wl r' hr')
    · rcases List.mem_append.mp he with he | he
      · obtain ⟨e', he', rfl⟩ := List.mem_map.mp he
        exact Nat.lt_succ_of_lt (E.below e' he')
      · rw [List.mem_singleton.mp he]; exact Nat.lt_succ_self k
    · rcases List.mem_append.mp he with he | he
      · obtain ⟨e', he', rfl⟩ := List.mem_map.mp he
        obtain ⟨⟨a, b, ha, hab⟩, _⟩ := cleared_spec (cl _ (E.llen e' he')) hk
        show vi (cleared e'.2 lead k) e'.1 ≠ 0
        rw [hab, lz _ (E.below e' he')]
        intro z
        have z : a * vi e'.2 e'.1 = 0 := by grind
        rcases Rat.mul_eq_zero.mp z with z | z
        · exact ha z
        · exact E.nz e' he' z
      · rw [List.mem_singleton.mp he]; exact hk
    · rcases List.mem_append.mp he with he | he
      · obtain ⟨e', he', rfl⟩ := List.mem_map.mp he
        obtain ⟨⟨a, b, ha, hab⟩, _⟩ := cleared_spec (cl _ (E.llen e' he')) hk
        have hj : j < e'.1 := hj
        show vi (cleared e'.2 lead k) j = 0
        rw [hab, lz _ (Nat.lt_trans hj (E.below e' he')), E.low e' he' j hj]
        grind
      · rw [List.mem_singleton.mp he] at hj ⊢; exact lz j hj
    · rcases List.mem_append.mp he with he | he
      · obtain ⟨e', he', rfl⟩ := List.mem_map.mp he
        obtain ⟨⟨a, b, ha, hab⟩, h0⟩ := cleared_spec (cl _ (E.llen e' he')) hk
        rcases List.mem_append.mp hf with hf | hf
        · obtain ⟨f', hf', rfl⟩ := List.mem_map.mp hf
          show vi (cleared e'.2 lead k) f'.1 = 0
          rw [hab, lz _ (E.below f' hf'), E.off e' he' f' hf' hne]
          grind
        · rw [List.mem_singleton.mp hf]; exact h0
      · rw [List.mem_singleton.mp he] at hne ⊢
        rcases List.mem_append.mp hf with hf | hf
        · obtain ⟨f', hf', rfl⟩ := List.mem_map.mp hf
          exact lz _ (E.below f' hf')
        · rw [List.mem_singleton.mp hf] at hne; exact absurd rfl hne
    · rw [List.map_append, List.map_map, List.nodup_append]
      refine ⟨E.nd, List.nodup_cons.mpr ⟨by simp, List.nodup_nil⟩, fun a ha b hb => ?_⟩
      obtain ⟨e', he', q1⟩ := List.mem_map.mp ha
      have q1 : e'.1 = a := q1
      rw [List.map_singleton, List.mem_singleton] at hb
      rw [hb, ← q1]
      exact Nat.ne_of_lt (E.below e' he')
    · obtain ⟨r', hr', rfl⟩ := List.mem_map.mp hr
      obtain ⟨⟨a, b, ha, hab⟩, h0⟩ := cleared_spec (cl _ (wl r' hr')) hk
      rcases Nat.lt_succ_iff_lt_or_eq.mp hj with c | c
      · rw [hab, lz j c, E.gone r' (mem_without hr') j c]
        grind
      · rw [c]; exact h0
    · refine Iff.trans ?_ (E.span v)
      -- what is cleared, and back
      have fw : ∀ (G : Vec → Prop) (row : List Int), row.length = w → Span G (vi lead) → Span G (vi row) → Span G (vi (cleared row lead k)) := fun G row hr h1 h2 => by
        obtain ⟨⟨a, b, ha, hab⟩, _⟩ := cleared_spec (cl _ hr) hk
        exact (Span.comb a b h2 h1).cast hab
      have bw : ∀ (G : Vec → Prop) (row : List Int), row.length = w → Span G (vi lead) → Span G (vi (cleared row lead k)) → Span G (vi row) := fun G row hr h1 h2 => by
        obtain ⟨⟨a, b, ha, hab⟩, _⟩ := cleared_spec (cl _ hr) hk
        refine (Span.comb (1 / a) (-(b / a)) h2 h1).cast fun j => ?_
        rw [hab, Rat.div_def, Rat.div_def]
        grind
      constructor
      · have hlead : Span (fun u => Gl s.1 u ∨ Gi s.2 u) (vi lead) := Span.gen (.inr ⟨lead, hm, rfl⟩)
        refine Span.le fun u hu => ?_
        rcases hu with ⟨e, he, rfl⟩ | ⟨r, hr, rfl⟩
        · rcases List.mem_append.mp he with he | he
          · obtain ⟨e', he', rfl⟩ := List.mem_map.mp he
            exact fw _ _ (E.llen e' he') hlead (Span.gen (.inl ⟨e', he', rfl⟩))
          · rw [List.mem_singleton.mp he]; exact hlead
        · obtain ⟨r', hr', rfl⟩ := List.mem_map.mp hr
          exact fw _ _ (wl r' hr') hlead (Span.gen (.inr ⟨r', mem_without hr', rfl⟩))
      · refine Span.le fun u hu => ?_
        generalize hG : (fun u => Gl (s.1.map (fun e => (e.1, cleared e.2 lead k)) ++ [(k, lead)]) u ∨ Gi ((without s.2 i).map fun row => cleared row lead k) u) = G
        have hlead : Span G (vi lead) := by
          rw [← hG]
          exact Span.gen (.inl ⟨(k, lead), List.mem_append_right _ (List.mem_singleton.mpr rfl), rfl⟩)
        rcases hu with ⟨e, he, rfl⟩ | ⟨r, hr, rfl⟩
        · refine bw _ _ (E.llen e he) hlead ?_
          rw [← hG]
          exact Span.gen (.inl ⟨(e.1, cleared e.2 lead k), List.mem_append_left _ (List.mem_map.mpr ⟨e, he, rfl⟩), rfl⟩)
        · rcases mem_split hi hr with rfl | hr
          · exact hlead
          · refine bw _ _ (wl r hr) hlead ?_
            rw [← hG]
            exact Span.gen (.inr ⟨_, List.mem_map_of_mem hr, rfl⟩)
theorem elim_ok {w : Nat} {rows : List (List Int)} (h : ∀ r ∈ rows, r.length = w) (many : Nat) : Elim w many rows (leadsOf rows many) :=
  foldl_range_inv (fun k s => Elim w k rows s) leadsStep ([], rows) many (Elim.start h) fun _ _ _ E => E.step

/-! ## the system of the leads -/
def sysI (leads : Leads) : List (Nat × Vec) := leads.map fun e => (e.1, vi e.2)
theorem sysI_places (leads : Leads) : (sysI leads).map (·.1) = leads.map (·.1) := by
  unfold sysI
  rw [List.map_map]
  rfl
section
variable {w k : Nat} {rows : List (List Int)} {s : Leads × List (List Int)}
theorem Elim.red (E : Elim w k rows s) : Red (sysI s.1) where
  nz := fun e he => by
    obtain ⟨e', he', rfl⟩ := List.mem_map.mp he
    exact E.nz e' he'
  low := fun e he j hj => by
    obtain ⟨e', he', rfl⟩ := List.mem_map.mp he
    exact E.low e' he' j hj
  off := fun e he f hf hne => by
    obtain ⟨e', he', rfl⟩ := List.mem_map.mp he
    obtain ⟨f', hf', rfl⟩ := List.mem_map.mp hf
    exact E.off e' he' f' hf' hne
  nd := by
    rw [sysI_places]
    exact E.nd
/-- where the rows that are left are 0 -/
theorem Elim.sys_span (E : Elim w k rows s) (hz : ∀ r ∈ s.2, ∀ j, vi r j = 0) (v : Vec) : Span (Gs (sysI s.1)) v ↔ Span (Gi rows) v := by
  refine Iff.trans ?_ (E.span v)
  constructor
  · refine Span.mono fun u ⟨e, he, q⟩ => ?_
    obtain ⟨e', he', rfl⟩ := List.mem_map.mp he
    exact .inl ⟨e', he', q⟩
  · refine Span.le fun u hu => ?_
    rcases hu with ⟨e, he, rfl⟩ | ⟨r, hr, rfl⟩
    · exact Span.gen ⟨_, List.mem_map.mpr ⟨e, he, rfl⟩, rfl⟩
    · exact Span.zero.cast (hz r hr)
theorem vi_len {r : List Int} {j : Nat} (h : r.length ≤ j) : vi r j = 0 := by
  unfold vi
  rw [List.getD_eq_getElem?_getD, List.getElem?_eq_none h]
  rfl
end
/-! ## rank -/
theorem rank_leads (rows : List (List Int)) : ∀ (l : List Nat) (a : Nat × List (List Int)) (b : Leads × List (List Int)), a.1 = b.1.length → a.2 = b.2 →
    (l.foldl rankStep a).1 = (l.foldl leadsStep b).1.length
  | [], a, b, h1, _ => h1
  | p :: l, a, b, h1, h2 => by
    rw [List.foldl_cons, List.foldl_cons]
    refine rank_leads rows l _ _ ?_ ?_
    · unfold rankStep leadsStep
      rw [h2]
      cases firstWith b.2 p with
      | none => exact h1
      | some i => simp [h1]
    · unfold rankStep leadsStep
      rw [h2]
      cases firstWith b.2 p with
      | none => exact h2
      | some i => rfl
theorem rank_mirror {many : Nat} {rows : List (List Int)} (h : ∀ r ∈ rows, r.length = many) : rankOf rows many = rankQ (rows.map castRow) := by
  have E := elim_ok h many
  have hz : ∀ r ∈ (leadsOf rows many).2, ∀ j, vi r j = 0 := fun r hr j => by
    by_cases c : j < many
    · exact E.gone r hr j c
    · exact vi_len (by rw [E.len r hr]; omega)
  have hl : ∀ r ∈ rows.map castRow, r.length = many := fun r hr => by
    obtain ⟨r', hr', rfl⟩ := List.mem_map.mp hr
    unfold castRow
    rw [List.length_map]
    exact h r' hr'
  rw [rank_of_red hl E.red fun v => (E.sys_span hz v).trans (Gi_cast rows v).symm]
  unfold sysI
  rw [List.length_map]
  exact rank_leads rows _ _ _ rfl rfl
/-! ## solutions -/
theorem multiple_spec {a b : Int} (ha : 0 < a) (hb : b ≠ 0) : 0 < multiple a b ∧ a ∣ multiple a b ∧ b ∣ multiple a b := by
  unfold multiple
  obtain ⟨⟨x, hx⟩, ⟨y, hy⟩⟩ := common_dvd a b
  have hc : common a b ≠ 0 := common_ne hb
  have e1 : a.fdiv (common a b) = x := by
    generalize common a b = g at *
    rw [hx, Int.mul_fdiv_cancel_left _ hc]
  rw [e1]
  have hx0 : x ≠ 0 := fun z => by rw [z] at hx; omega
  have hn : x * b ≠ 0 := Int.mul_ne_zero hx0 hb
  have d1 : a ∣ x * b := ⟨y, by
    generalize common a b = g at *
    rw [hy, hx]
    grind⟩
  have d2 : b ∣ x * b := ⟨x, Int.mul_comm ..⟩
  unfold absI
  split
  · exact ⟨by omega, Int.dvd_neg.mpr d1, Int.dvd_neg.mpr d2⟩
  · exact ⟨by omega, d1, d2⟩
theorem bottom_go : ∀ (leads : Leads) (b : Int), 0 < b → (∀ e ∈ leads, e.2.getD e.1 0 ≠ 0) →
    0 < leads.foldl (fun b e => multiple b (e.2.getD e.1 0)) b ∧ b ∣ leads.foldl (fun b e => multiple b (e.2.getD e.1 0)) b ∧ ∀ e ∈ leads, e.2.getD e.1 0 ∣ leads.foldl (fun b e => multiple b (e.2.getD e.1 0)) b
  | [], b, h, _ => ⟨h, Int.dvd_refl _, fun _ h => by cases h⟩
  | e :: r, b, h, hn => by
    obtain ⟨m1, m2, m3⟩ := multiple_spec h (hn e List.mem_cons_self)
    obtain ⟨i1, i2, i3⟩ := bottom_go r (multiple b (e.2.getD e.1 0)) m1 fun f hf => hn f (List.mem_cons_of_mem _ hf)
    rw [List.foldl_cons]
    refine ⟨i1, Int.dvd_trans m2 i2, fun f hf => ?_⟩
    rcases List.mem_cons.mp hf with rfl | hf
    · exact Int.dvd_trans m3 i2
    · exact i3 f hf
theorem tops_go (bottom : Int) (many : Nat) : ∀ (leads : Leads) (t : List Int), (leads.map (·.1)).Nodup → (∀ e ∈ leads, e.1 < t.length) →
    (leads.foldl (fun t e => t.set e.1 (e.2.getD many 0 * bottom.fdiv (e.2.getD e.1 0))) t).length = t.length ∧
    (∀ e ∈ leads, (leads.foldl (fun t e => t.set e.1 (e.2.getD many 0 * bottom.fdiv (e.2.getD e.1 0))) t).getD e.1 0 = e.2.getD many 0 * bottom.fdiv (e.2.getD e.1 0)) ∧
    ∀ j, j ∉ leads.map (·.1) → (leads.foldl (fun t e => t.set e.1 (e.2.getD many 0 * bottom.fdiv (e.2.getD e.1 0))) t).getD j 0 = t.getD j 0
  | [], t, _, _ => ⟨rfl, fun _ h => (by cases h), fun _ _ => rfl⟩
  | e :: r, t, nd, hl => by
    rw [List.map_cons, List.nodup_cons] at nd
    obtain ⟨i1, i2, i3⟩ := tops_go bottom many r (t.set e.1 (e.2.getD many 0 * bottom.fdiv (e.2.getD e.1 0))) nd.2 fun f hf => by
      rw [List.length_set]
      exact hl f (List.mem_cons_of_mem _ hf)
    rw [List.foldl_cons]
    refine ⟨by rw [i1, List.length_set], fun f hf => ?_, fun j hj => ?_⟩
    · rcases List.mem_cons.mp hf with rfl | hf
      · rw [i3 _ nd.1, List.getD_eq_getElem?_getD, List.getElem?_set_self (hl f List.mem_cons_self)]
        rfl
      · exact i2 f hf
    · rw [List.map_cons, List.mem_cons, not_or] at hj
      rw [i3 j hj.2, List.getD_eq_getElem?_getD, List.getElem?_set_ne (Ne.symm hj.1), ← List.getD_eq_getElem?_getD]
theorem vi_ne {r : List Int} {j : Nat} (h : vi r j ≠ 0) : r.getD j 0 ≠ 0 := fun z => h (by unfold vi; rw [z]; rfl)
section
variable {many : Nat} {rows : List (List Int)} {tops : List Int} {bottom : Int}
theorem solved_left (h : solved rows many = some (tops, bottom)) : (∀ r ∈ (leadsOf rows many).2, r.getD many 0 = 0) ∧ tops = topsOf (leadsOf rows many).1 bottom many ∧ bottom = bottomOf (leadsOf rows many).1 := by
  unfold solved at h
  split at h
  · cases h
  · rename_i hn
    injection h with h
    injection h with h1 h2
    refine ⟨fun r hr => ?_, ?_, h2.symm⟩
    · simp only [List.any_eq_true, not_exists, not_and] at hn
      simpa using hn r hr
    · rw [← h2, ← h1]
theorem solved_zero (hr : ∀ r ∈ rows, r.length = many + 1) (h : solved rows many = some (tops, bottom)) : ∀ r ∈ (leadsOf rows many).2, ∀ j, vi r j = 0 := fun r hm j => by
  have E := elim_ok hr many
  rcases Nat.lt_trichotomy j many with c | c | c
  · exact E.gone r hm j c
  · rw [c]
    unfold vi
    rw [(solved_left h).1 r hm]
    rfl
  · exact vi_len (by rw [E.len r hm]; omega)
theorem solved_bottom (hr : ∀ r ∈ rows, r.length = many + 1) (h : solved rows many = some (tops, bottom)) : 0 < bottom ∧ tops.length = many := by
  have E := elim_ok hr many
  obtain ⟨_, h2, h3⟩ := solved_left h
  constructor
  · rw [h3]
    exact (bottom_go _ 1 (by decide) fun e he => vi_ne (E.nz e he)).1
  · rw [h2]
    unfold topsOf
    rw [(tops_go bottom many _ (List.replicate many 0) E.nd fun e he => by rw [List.length_replicate]; exact E.below e he).1, List.length_replicate]
/-- the j-th unknown -/
theorem solved_at (hr : ∀ r ∈ rows, r.length = many + 1) (h : solved rows many = some (tops, bottom)) {j : Nat} (hj : j < many) :
    (∀ e ∈ (leadsOf rows many).1, e.1 = j → vi tops j / (bottom : Rat) = vi e.2 many / vi e.2 j) ∧ (j ∉ (leadsOf rows many).1.map (·.1) → vi tops j = 0) := by
  have E := elim_ok hr many
  obtain ⟨_, h2, h3⟩ := solved_left h
  have T := tops_go bottom many _ (List.replicate many 0) E.nd fun e he => by rw [List.length_replicate]; exact E.below e he
  have B := bottom_go (leadsOf rows many).1 1 (by decide) fun e he => vi_ne (E.nz e he)
  have hb := castne (show bottom ≠ 0 by have := (solved_bottom hr h).1; omega)
  constructor
  · intro e he ej
    have t := T.2.1 e he
    have d : e.2.getD e.1 0 ∣ bottom := by rw [h3]; exact B.2.2 e he
    have n := E.nz e he
    rw [ej] at t d n
    unfold vi at n ⊢
    rw [h2]
    unfold topsOf
    rw [t]
    push_cast
    rw [fdiv_exact d]
    simp only [Rat.div_def]
    grind
  · intro hn
    unfold vi
    rw [h2]
    unfold topsOf
    rw [T.2.2 j hn, List.getD_eq_getElem?_getD, List.getElem?_replicate]
    split <;> rfl
theorem castlen {w : Nat} (hr : ∀ r ∈ rows, r.length = w) : ∀ r ∈ rows.map castRow, r.length = w := fun r h => by
  obtain ⟨r', hr', rfl⟩ := List.mem_map.mp h
  unfold castRow
  rw [List.length_map]
  exact hr r' hr'
/-- what is solved is the specification's solution -/
theorem solved_spec (hr : ∀ r ∈ rows, r.length = many + 1) (h : solved rows many = some (tops, bottom)) {j : Nat} (hj : j < many) : (solveQ many (rows.map castRow)).getD j 0 = vi tops j / (bottom : Rat) := by
  have E := elim_ok hr many
  have S := solve_of_red (castlen hr) E.red (fun v => (E.sys_span (solved_zero hr h) v).trans (Gi_cast rows v).symm) hj
  rw [sysI_places] at S
  by_cases c : j ∈ (leadsOf rows many).1.map (·.1)
  · obtain ⟨e, he, ej⟩ := List.mem_map.mp c
    rw [S.1 (e.1, vi e.2) (List.mem_map.mpr ⟨e, he, rfl⟩) ej, (solved_at hr h hj).1 e he ej]
  · rw [S.2 c, (solved_at hr h hj).2 c]
    rw [Rat.div_def]
    grind
/-- where nothing is solved, the equations fight -/
theorem solved_none (hr : ∀ r ∈ rows, r.length = many + 1) (h : solved rows many = none) : ∃ v, Span (Gi rows) v ∧ (∀ j, j < many → v j = 0) ∧ v many ≠ 0 := by
  have E := elim_ok hr many
  unfold solved at h
  split at h
  · rename_i ha
    rw [List.any_eq_true] at ha
    obtain ⟨r, hm, hn⟩ := ha
    exact ⟨vi r, (E.span _).mp (Span.gen (.inr ⟨r, hm, rfl⟩)), E.gone r hm, castne (by simpa using hn)⟩
  · cases h
end
end LF

set_option linter.all false
/-! # Sums; normal equations -/
namespace LF

def S : Nat → (Nat → Rat) → Rat
  | 0, _ => 0
  | n + 1, f => S n f + f n
theorem S_congr {f g : Nat → Rat} : ∀ {n : Nat}, (∀ i, i < n → f i = g i) → S n f = S n g
  | 0, _ => rfl
  | n + 1, h => by
    show S n f + f n = S n g + g n
    rw [S_congr fun i hi => h i (Nat.lt_succ_of_lt hi), h n (Nat.lt_succ_self n)]
theorem S_zero {f : Nat → Rat} {n : Nat} (h : ∀ i, i < n → f i = 0) : S n f = 0 := by
  induction n with
  | zero => rfl
  | succ n ih =>
    show S n f + f n = 0
    rw [ih fun i hi => h i (Nat.lt_succ_of_lt hi), h n (Nat.lt_succ_self n)]
    grind
theorem S_add (f g : Nat → Rat) : ∀ n, S n (fun i => f i + g i) = S n f + S n g
  | 0 => by show (0 : Rat) = 0 + 0; grind
  | n + 1 => by
    show S n _ + _ = (S n f + f n) + (S n g + g n)
    rw [S_add f g n]
    grind
theorem S_mul (c : Rat) (f : Nat → Rat) : ∀ n, S n (fun i => c * f i) = c * S n f
  | 0 => by show (0 : Rat) = c * 0; grind
  | n + 1 => by
    show S n _ + _ = c * (S n f + f n)
    rw [S_mul c f n]
    grind
theorem S_single {f : Nat → Rat} {p : Nat} : ∀ {n : Nat}, p < n → (∀ j, j < n → j ≠ p → f j = 0) → S n f = f p
  | n + 1, hp, h => by
    show S n f + f n = f p
    by_cases c : p = n
    · subst c
      rw [S_zero fun i hi => h i (Nat.lt_succ_of_lt hi) (Nat.ne_of_lt hi)]
      grind
    · rw [S_single (p := p) (by omega) fun j hj hne => h j (Nat.lt_succ_of_lt hj) hne, h n (Nat.lt_succ_self n) (Ne.symm c)]
      grind
/-- the sum over a list -/
def SL {α : Type} : List α → (α → Rat) → Rat
  | [], _ => 0
  | x :: l, f => f x + SL l f
section
variable {α : Type}
theorem SL_congr {f g : α → Rat} : ∀ {l : List α}, (∀ x ∈ l, f x = g x) → SL l f = SL l g
  | [], _ => rfl
  | x :: l, h => by
    show f x + SL l f = g x + SL l g
    rw [h x List.mem_cons_self, SL_congr fun y hy => h y (List.mem_cons_of_mem _ hy)]
theorem SL_add (f g : α → Rat) : ∀ l : List α, SL l (fun x => f x + g x) = SL l f + SL l g
  | [] => by show (0 : Rat) = 0 + 0; grind
  | x :: l => by
    show _ + SL l _ = (f x + SL l f) + (g x + SL l g)
    rw [SL_add f g l]
    grind
theorem SL_mul (c : Rat) (f : α → Rat) : ∀ l : List α, SL l (fun x => c * f x) = c * SL l f
  | [] => by show (0 : Rat) = c * 0; grind
  | x :: l => by
    show _ + SL l _ = c * (f x + SL l f)
    rw [SL_mul c f l]
    grind
theorem SL_zero {f : α → Rat} : ∀ {l : List α}, (∀ x ∈ l, f x = 0) → SL l f = 0
  | [], _ => rfl
  | x :: l, h => by
    show f x + SL l f = 0
    rw [h x List.mem_cons_self, SL_zero fun y hy => h y (List.mem_cons_of_mem _ hy)]
    grind
theorem S_SL (f : Nat → α → Rat) (l : List α) : ∀ n, S n (fun i => SL l (f i)) = SL l fun x => S n fun i => f i x
  | 0 => (SL_zero fun _ _ => rfl).symm
  | n + 1 => by
    show S n (fun i => SL l (f i)) + SL l (f n) = SL l fun x => S n (fun i => f i x) + f n x
    rw [SL_add, S_SL f l n]
theorem SL_nonneg {f : α → Rat} : ∀ {l : List α}, (∀ x ∈ l, 0 ≤ f x) → 0 ≤ SL l f
  | [], _ => Rat.le_refl
  | x :: l, h => Rat.add_nonneg (h x List.mem_cons_self) (SL_nonneg fun y hy => h y (List.mem_cons_of_mem _ hy))
theorem SL_pos {f : α → Rat} : ∀ {l : List α}, (∀ x ∈ l, 0 ≤ f x) → SL l f = 0 → ∀ x ∈ l, f x = 0
  | [], _, _, x, hx => by cases hx
  | y :: l, h, h0, x, hx => by
    have a : 0 ≤ f y := h y List.mem_cons_self
    have b : 0 ≤ SL l f := SL_nonneg fun z hz => h z (List.mem_cons_of_mem _ hz)
    have e : f y + SL l f = 0 := h0
    rcases List.mem_cons.mp hx with rfl | hx
    · grind
    · exact SL_pos (fun z hz => h z (List.mem_cons_of_mem _ hz)) (by grind) x hx
end
theorem sq_nonneg (a : Rat) : 0 ≤ a * a := by
  rcases Rat.le_total (a := 0) (b := a) with h | h
  · exact Rat.mul_nonneg h h
  · have : 0 ≤ (-a) * (-a) := Rat.mul_nonneg (by grind) (by grind)
    grind
theorem sq_zero {a : Rat} (h : a * a = 0) : a = 0 := by
  rcases Rat.mul_eq_zero.mp h with h | h <;> exact h
theorem Span.sum {α : Type} {G : Vec → Prop} {f : α → Vec} (z : α → Rat) : ∀ {l : List α}, (∀ x ∈ l, Span G (f x)) → Span G (fun j => SL l fun x => z x * f x j)
  | [], _ => Span.zero
  | x :: l, h => ((h x List.mem_cons_self).smul (z x)).add (Span.sum z fun y hy => h y (List.mem_cons_of_mem _ hy))

/-! ## sums of lists -/
theorem foldl_add (l : List Rat) : ∀ a, l.foldl (· + ·) a = a + SL l id := by
  induction l with
  | nil => intro a; show a = a + 0; grind
  | cons x l ih =>
    intro a
    rw [List.foldl_cons, ih]
    show a + x + _ = a + (x + _)
    grind
theorem sumQ_SL (l : List Rat) : sumQ l = SL l id := by
  unfold sumQ
  rw [foldl_add]
  grind
theorem SL_map {α β : Type} (g : α → β) (f : β → Rat) : ∀ l : List α, SL (l.map g) f = SL l fun x => f (g x)
  | [] => rfl
  | x :: l => by
    show f (g x) + SL (l.map g) f = _
    rw [SL_map g f l]
    rfl
theorem dotQ_map {α : Type} (f g : α → Rat) (l : List α) : dotQ (l.map f) (l.map g) = SL l fun x => f x * g x := by
  unfold dotQ
  rw [sumQ_SL]
  induction l with
  | nil => rfl
  | cons x l ih =>
    show id (f x * g x) + SL _ id = f x * g x + _
    rw [ih]
    rfl
/-- two rows of one length -/
theorem dotQ_S : ∀ {a b : List Rat} {n : Nat}, a.length = n → b.length = n → dotQ a b = S n fun j => vf a j * vf b j := by
  have go : ∀ (a b : List Rat), a.length = b.length → SL (List.zipWith (· * ·) a b) id = S a.length fun j => vf a j * vf b j := by
    intro a
    induction a with
    | nil => intro b _; rfl
    | cons x a ih =>
      intro b hb
      cases b with
      | nil => cases hb
      | cons y b =>
        have e : ∀ n (f : Nat → Rat), S (n + 1) f = f 0 + S n fun j => f (j + 1) := by
          intro n f
          induction n with
          | zero => show (0 : Rat) + f 0 = f 0 + 0; grind
          | succ n ih =>
            show S (n + 1) f + f (n + 1) = f 0 + (S n (fun j => f (j + 1)) + f (n + 1))
            rw [ih]
            grind
        show id (x * y) + SL _ id = S (a.length + 1) _
        rw [e, ih b (by simpa using hb)]
        rfl
  intro a b n ha hb
  unfold dotQ
  rw [sumQ_SL, go a b (ha.trans hb.symm), ha]

/-! ## the program's products -/
def product (one other : List Int) : Int := (List.zipWith (fun n m => n * m) one other).sum
def column (entries : List (List Int)) (p : Nat) : List Int := entries.map fun r => r.getD p 0
def columns (entries : List (List Int)) (many : Nat) : List (List Int) := (List.range many).map fun p => column entries p
def products (entries : List (List Int)) (many : Nat) : List (List Int) := (columns entries many).map fun one => (columns entries many).map fun other => product one other
def rightSides (entries : List (List Int)) (responses : List Int) (many : Nat) : List Int := (List.range many).map fun p => product (column entries p) responses
def augmented (entries : List (List Int)) (many : Nat) (right : List Int) : List (List Int) := List.zipWith (fun row n => row ++ [n]) (products entries many) right
def solvedFor (entries : List (List Int)) (many : Nat) (right : List Int) : Option (List Int × Int) := solved (augmented entries many right) many
def bestFit (entries : List (List Int)) (responses : List Int) (many : Nat) : Option (List Int × Int) := solvedFor entries many (rightSides entries responses many)
theorem cast_sum : ∀ l : List Int, ((l.sum : Int) : Rat) = SL l fun n => (n : Rat)
  | [] => rfl
  | x :: l => by
    rw [List.sum_cons]
    show ((x + l.sum : Int) : Rat) = (x : Rat) + SL l _
    rw [← cast_sum l]
    push_cast
    rfl
theorem cast_product (a b : List Int) : ((product a b : Int) : Rat) = dotQ (castRow a) (castRow b) := by
  unfold product dotQ castRow
  rw [cast_sum, sumQ_SL]
  induction a generalizing b with
  | nil => rfl
  | cons x a ih =>
    cases b with
    | nil => rfl
    | cons y b =>
      show ((x * y : Int) : Rat) + SL _ _ = id ((x : Rat) * (y : Rat)) + SL _ id
      rw [ih]
      push_cast
      rfl
theorem cast_column (entries : List (List Int)) (p : Nat) : castRow (column entries p) = colQ (entries.map castRow) p := by
  unfold castRow column colQ
  rw [List.map_map, List.map_map]
  refine List.map_congr_left fun r _ => ?_
  exact (vi_cast r p).symm
theorem zip_range {α β : Type} (f : Nat → α) (g : α → Int → β) (l : List Int) (n : Nat) (h : l.length = n) : List.zipWith g ((List.range n).map f) l = (List.range n).map fun i => g (f i) (l.getD i 0) := by
  refine List.ext_getElem? fun i => ?_
  rw [List.getElem?_zipWith, List.getElem?_map, List.getElem?_map]
  by_cases hi : i < n
  · have e : l.getD i 0 = l[i]'(by omega) := by rw [List.getD_eq_getElem?_getD, List.getElem?_eq_getElem (by omega)]; rfl
    rw [List.getElem?_range hi, List.getElem?_eq_getElem (by omega), ← e]
    rfl
  · rw [List.getElem?_eq_none (by simpa using Nat.le_of_not_lt hi)]
    rfl
theorem augmented_eq {entries : List (List Int)} {many : Nat} {right : List Int} (h : right.length = many) :
    augmented entries many right = (List.range many).map fun i => ((List.range many).map fun j => product (column entries i) (column entries j)) ++ [right.getD i 0] := by
  unfold augmented products columns
  rw [List.map_map]
  rw [zip_range _ _ right many h]
  refine List.map_congr_left fun i _ => ?_
  show ((List.range many).map fun p => column entries p).map _ ++ _ = _
  rw [List.map_map]
  rfl
theorem augmented_cast {entries : List (List Int)} {many : Nat} {right : List Int} (h : right.length = many) : (augmented entries many right).map castRow = normalQ many (entries.map castRow) (castRow right) := by
  rw [augmented_eq h]
  unfold normalQ
  rw [List.map_map]
  refine List.map_congr_left fun i _ => ?_
  show castRow (_ ++ [_]) = _
  have e : ∀ a b : List Int, castRow (a ++ b) = castRow a ++ castRow b := fun a b => by unfold castRow; rw [List.map_append]
  rw [e]
  congr 1
  · unfold castRow
    rw [List.map_map]
    refine List.map_congr_left fun j _ => ?_
    show ((product _ _ : Int) : Rat) = _
    rw [cast_product, cast_column, cast_column]
    rfl
  · show [_] = [_]
    congr 1
    exact (vi_cast right i).symm
theorem augmented_len {entries : List (List Int)} {many : Nat} {right : List Int} (h : right.length = many) : ∀ r ∈ augmented entries many right, r.length = many + 1 := fun r hr => by
  rw [augmented_eq h] at hr
  obtain ⟨i, _, rfl⟩ := List.mem_map.mp hr
  simp
/-- the entries of the equations -/
theorem vi_aug {entries : List (List Int)} {many : Nat} {right : List Int} {i : Nat} :
    (∀ j, j < many → vi (((List.range many).map fun j => product (column entries i) (column entries j)) ++ [right.getD i 0]) j = SL entries fun r => vi r i * vi r j) ∧
    vi (((List.range many).map fun j => product (column entries i) (column entries j)) ++ [right.getD i 0]) many = vi right i := by
  constructor
  · intro j hj
    unfold vi
    rw [List.getD_eq_getElem?_getD, List.getElem?_append_left (by simpa using hj), List.getElem?_map, List.getElem?_range hj]
    show ((product _ _ : Int) : Rat) = _
    rw [cast_product]
    unfold column castRow
    rw [List.map_map, List.map_map, dotQ_map]
    rfl
  · unfold vi
    rw [List.getD_eq_getElem?_getD, List.getElem?_append_right (by simp)]
    simp
section
variable {entries : List (List Int)} {many : Nat} {c : List Int} {tops : List Int} {bottom : Int}
/-- a solution solves -/
theorem solved_sol {rows : List (List Int)} (hr : ∀ r ∈ rows, r.length = many + 1) (h : solved rows many = some (tops, bottom)) {v : Vec} (hv : Span (Gi rows) v) :
    S many (fun j => v j * (vi tops j / (bottom : Rat))) = v many := by
  have E := elim_ok hr many
  have hv := (E.sys_span (solved_zero hr h) v).mpr hv
  refine Span.lin (fun v => S many (fun j => v j * (vi tops j / (bottom : Rat))) = v many) ?_ (fun a u v hu ih => ?_) hv
  · exact S_zero fun i _ => by grind
  · obtain ⟨e, he, rfl⟩ := hu
    obtain ⟨e, he', rfl⟩ := List.mem_map.mp he
    clear he
    have he := he'
    have hp : e.1 < many := E.below e he
    have one : S many (fun j => vi e.2 j * (vi tops j / (bottom : Rat))) = vi e.2 many := by
      rw [S_single hp fun j hj hne => ?_]
      · rw [(solved_at hr h hp).1 e he rfl]
        have := E.nz e he
        rw [Rat.div_def]
        grind
      · by_cases cj : j ∈ (leadsOf rows many).1.map (·.1)
        · obtain ⟨f, hf, ef⟩ := List.mem_map.mp cj
          have := E.off e he f hf (by rw [ef]; exact Ne.symm hne)
          rw [ef] at this
          rw [this]
          grind
        · rw [(solved_at hr h hj).2 cj, Rat.div_def]
          grind
    show S many (fun j => (a * vi e.2 j + v j) * (vi tops j / (bottom : Rat))) = a * vi e.2 many + v many
    rw [← one, ← ih, ← S_mul, ← S_add]
    exact S_congr fun i _ => by grind
/-- the equations of a sum of squares have a solution just where the right side is a combination of the rows -/
theorem solvedFor_span (hc : c.length = many) (he : ∀ r ∈ entries, r.length = many) : (solvedFor entries many c).isSome = true ↔ Span (Gi entries) (vi c) := by
  have hl := augmented_len (entries := entries) hc
  have A := fun i => vi_aug (entries := entries) (many := many) (right := c) (i := i)
  constructor
  · intro h
    obtain ⟨⟨tops, bottom⟩, h⟩ := Option.isSome_iff_exists.mp h
    have sol := fun (v : Vec) => solved_sol (v := v) hl h
    have key : ∀ i, i < many → vi c i = SL entries fun r => S many (fun j => vi r j * (vi tops j / (bottom : Rat))) * vi r i := fun i hi => by
      have s := sol _ (Span.gen ⟨_, (by rw [augmented_eq hc]; exact List.mem_map.mpr ⟨i, List.mem_range.mpr hi, rfl⟩), rfl⟩)
      rw [(A i).2] at s
      rw [← s]
      have e : S many (fun j => vi (((List.range many).map fun j => product (column entries i) (column entries j)) ++ [c.getD i 0]) j * (vi tops j / (bottom : Rat))) = S many fun j => SL entries fun r => vi r i * vi r j * (vi tops j / (bottom : Rat)) := S_congr fun j hj => by
        rw [(A i).1 j hj]
        rw [show (SL entries fun r => vi r i * vi r j * (vi tops j / (bottom : Rat))) = SL entries fun r => (vi tops j / (bottom : Rat)) * (vi r i * vi r j) from SL_congr fun r _ => by grind, SL_mul]
        grind
      rw [e, S_SL]
      refine SL_congr fun r _ => ?_
      rw [show (S many fun j => vi r i * vi r j * (vi tops j / (bottom : Rat))) = S many fun j => vi r i * (vi r j * (vi tops j / (bottom : Rat))) from S_congr fun j _ => by grind, S_mul]
      grind
    refine (Span.sum (f := vi) (fun r => S many (fun j => vi r j * (vi tops j / (bottom : Rat)))) (l := entries) fun r hr => Span.gen ⟨r, hr, rfl⟩).cast fun j => ?_
    by_cases hj : j < many
    · exact key j hj
    · rw [vi_len (by omega)]
      refine (SL_zero fun r hr => ?_).symm
      rw [vi_len (r := r) (by rw [he r hr]; omega)]
      grind
  · intro h
    cases q : solvedFor entries many c with
    | some _ => rfl
    | none =>
      exfalso
      obtain ⟨v, hv, v0, v1⟩ := solved_none hl q
      -- v is a sum of the equations, times y
      obtain ⟨y, hy⟩ : ∃ y : Nat → Rat, ∀ j, v j = S many fun i => y i * vi (((List.range many).map fun j => product (column entries i) (column entries j)) ++ [c.getD i 0]) j := by
        refine Span.lin (fun v => ∃ y : Nat → Rat, ∀ j, v j = S many fun i => y i * vi (((List.range many).map fun j => product (column entries i) (column entries j)) ++ [c.getD i 0]) j) ?_ (fun a u v hu ih => ?_) hv
        · exact ⟨fun _ => 0, fun j => (S_zero fun i _ => by grind).symm⟩
        · obtain ⟨r, hr, rfl⟩ := hu
          rw [augmented_eq hc] at hr
          obtain ⟨p, hp, rfl⟩ := List.mem_map.mp hr
          have hp := List.mem_range.mp hp
          obtain ⟨y, hy⟩ := ih
          refine ⟨fun i => (if i = p then a else 0) + y i, fun j => ?_⟩
          simp only [hy j]
          rw [show (S many fun i => ((if i = p then a else 0) + y i) * vi (((List.range many).map fun j => product (column entries i) (column entries j)) ++ [c.getD i 0]) j)
            = S many fun i => (if i = p then a else 0) * vi (((List.range many).map fun j => product (column entries i) (column entries j)) ++ [c.getD i 0]) j + y i * vi (((List.range many).map fun j => product (column entries i) (column entries j)) ++ [c.getD i 0]) j from S_congr fun i _ => by grind]
          have e3 : (S many fun i => (if i = p then a else 0) * vi (((List.range many).map fun j => product (column entries i) (column entries j)) ++ [c.getD i 0]) j) = a * vi (((List.range many).map fun j => product (column entries p) (column entries j)) ++ [c.getD p 0]) j := by
            rw [S_single hp fun i _ hne => by rw [if_neg hne]; grind]
            rw [if_pos rfl]
          rw [S_add, e3]
      -- the rows are orthogonal to y
      have hz : ∀ r ∈ entries, S many (fun i => y i * vi r i) = 0 := by
        have sq : SL entries (fun r => S many (fun i => y i * vi r i) * S many (fun i => y i * vi r i)) = 0 := by
          have e1 : S many (fun j => y j * v j) = 0 := S_zero fun j hj => by rw [v0 j hj]; grind
          rw [← e1]
          have e2 : S many (fun j => y j * v j) = S many fun j => SL entries fun r => y j * vi r j * S many (fun i => y i * vi r i) := S_congr fun j hj => by
            rw [hy j]
            rw [show (S many fun i => y i * vi (((List.range many).map fun j => product (column entries i) (column entries j)) ++ [c.getD i 0]) j) = S many fun i => SL entries fun r => y i * (vi r i * vi r j) from S_congr fun i _ => by rw [(A i).1 j hj, SL_mul]]
            rw [S_SL, ← SL_mul]
            refine SL_congr fun r _ => ?_
            rw [show (S many fun i => y i * (vi r i * vi r j)) = S many fun i => vi r j * (y i * vi r i) from S_congr fun i _ => by grind, S_mul]
            grind
          rw [e2, S_SL]
          refine SL_congr fun r _ => ?_
          rw [show (S many fun j => y j * vi r j * S many (fun i => y i * vi r i)) = S many fun j => S many (fun i => y i * vi r i) * (y j * vi r j) from S_congr fun i _ => by grind, S_mul]
        intro r hr
        exact sq_zero (SL_pos (fun r _ => sq_nonneg _) sq r hr)
      -- so is the right side
      have hcz : S many (fun i => y i * vi c i) = 0 := by
        refine Span.lin (fun u => S many (fun i => y i * u i) = 0) (S_zero fun i _ => by grind) (fun a u w hu ih => ?_) h
        obtain ⟨r, hr, rfl⟩ := hu
        rw [show (S many fun i => y i * (a * vi r i + w i)) = S many fun i => a * (y i * vi r i) + y i * w i from S_congr fun i _ => by grind, S_add, S_mul, hz r hr, ih]
        grind
      refine v1 ?_
      rw [hy many, ← hcz]
      exact S_congr fun i _ => by rw [(A i).2]
end
end LF

set_option linter.all false
/-! # What the program tells of a model, as plain functions, and that it is the specification's -/
namespace LF
open Kxd4 (Model Observation)

abbrev Pr := Int × Int
def square (n : Int) : Int := n * n
def plusP (a b : Pr) : Pr := ratio (a.1 * b.2 + b.1 * a.2) (a.2 * b.2)
def minusP (a b : Pr) : Pr := ratio (a.1 * b.2 - b.1 * a.2) (a.2 * b.2)
def timesP (a b : Pr) : Pr := ratio (a.1 * b.1) (a.2 * b.2)
def overP (a b : Pr) : Pr := ratio (a.1 * b.2) (a.2 * b.1)
def weighed (v : List Int) (f : List Int × Int) : Pr := ratio (product v f.1) f.2

theorem pairQ_inj {p q : Rat} (h : pairQ p = pairQ q) : p = q := by
  unfold pairQ at h
  injection h with h1 h2
  exact Rat.ext h1 (by omega)
theorem pairQ_eq {p q : Rat} : pairQ p = pairQ q ↔ p = q := ⟨pairQ_inj, fun h => by rw [h]⟩
theorem pairQ_val (q : Rat) : ((pairQ q).1 : Rat) / ((pairQ q).2 : Rat) = q := numden q
theorem pairQ_ne (q : Rat) : ((pairQ q).2 : Rat) ≠ 0 := den_ne q
theorem pairQ_ne' (q : Rat) : (pairQ q).2 ≠ 0 := fun z => pairQ_ne q (by rw [z]; rfl)
theorem pairQ_int (n : Int) : pairQ (n : Rat) = (n, 1) := by
  unfold pairQ
  rw [Rat.num_intCast, Rat.den_intCast]
  rfl
theorem fields_ofQ (q : Rat) : Kxd4.fields (ofQ q) = [(pairQ q).1, (pairQ q).2] := rfl
theorem plusP_eq (p q : Rat) : plusP (pairQ p) (pairQ q) = pairQ (p + q) := by
  unfold plusP
  rw [ratio_eq (Int.mul_ne_zero (pairQ_ne' p) (pairQ_ne' q)), pairQ_eq]
  have hp := pairQ_val p
  have hq := pairQ_val q
  have h1 := pairQ_ne p
  have h2 := pairQ_ne q
  push_cast
  generalize ((pairQ p).1 : Rat) = a at *
  generalize ((pairQ p).2 : Rat) = b at *
  generalize ((pairQ q).1 : Rat) = c at *
  generalize ((pairQ q).2 : Rat) = d at *
  subst hp hq
  grind
theorem minusP_eq (p q : Rat) : minusP (pairQ p) (pairQ q) = pairQ (p - q) := by
  unfold minusP
  rw [ratio_eq (Int.mul_ne_zero (pairQ_ne' p) (pairQ_ne' q)), pairQ_eq]
  have hp := pairQ_val p
  have hq := pairQ_val q
  have h1 := pairQ_ne p
  have h2 := pairQ_ne q
  push_cast
  generalize ((pairQ p).1 : Rat) = a at *
  generalize ((pairQ p).2 : Rat) = b at *
  generalize ((pairQ q).1 : Rat) = c at *
  generalize ((pairQ q).2 : Rat) = d at *
  subst hp hq
  grind
theorem timesP_eq (p q : Rat) : timesP (pairQ p) (pairQ q) = pairQ (p * q) := by
  unfold timesP
  rw [ratio_eq (Int.mul_ne_zero (pairQ_ne' p) (pairQ_ne' q)), pairQ_eq]
  have hp := pairQ_val p
  have hq := pairQ_val q
  have h1 := pairQ_ne p
  have h2 := pairQ_ne q
  push_cast
  generalize ((pairQ p).1 : Rat) = a at *
  generalize ((pairQ p).2 : Rat) = b at *
  generalize ((pairQ q).1 : Rat) = c at *
  generalize ((pairQ q).2 : Rat) = d at *
  subst hp hq
  grind
theorem pairQ_num_ne {q : Rat} (h : q ≠ 0) : (pairQ q).1 ≠ 0 := fun z => h (Rat.num_eq_zero.mp z)
theorem overP_eq (p : Rat) {q : Rat} (h : q ≠ 0) : overP (pairQ p) (pairQ q) = pairQ (p / q) := by
  unfold overP
  rw [ratio_eq (Int.mul_ne_zero (pairQ_ne' p) (pairQ_num_ne h)), pairQ_eq]
  have hp := pairQ_val p
  have hq := pairQ_val q
  have h1 := pairQ_ne p
  have h2 := pairQ_ne q
  have h3 := castne (pairQ_num_ne h)
  push_cast
  generalize ((pairQ p).1 : Rat) = a at *
  generalize ((pairQ p).2 : Rat) = b at *
  generalize ((pairQ q).1 : Rat) = c at *
  generalize ((pairQ q).2 : Rat) = d at *
  subst hp hq
  grind
/-- divided by a whole number -/
theorem ratio_by (q : Rat) {n : Int} (h : n ≠ 0) : ratio (pairQ q).1 ((pairQ q).2 * n) = pairQ (q / (n : Rat)) := by
  rw [ratio_eq (Int.mul_ne_zero (pairQ_ne' q) h), pairQ_eq]
  have hq := pairQ_val q
  have h2 := pairQ_ne q
  have h3 := castne h
  push_cast
  generalize ((pairQ q).1 : Rat) = c at *
  generalize ((pairQ q).2 : Rat) = d at *
  subst hq
  grind
theorem zeroP (q : Rat) : pairQ q = (0, 1) ↔ q = 0 := by
  rw [show ((0, 1) : Pr) = pairQ 0 from rfl, pairQ_eq]
theorem oneP (q : Rat) : pairQ q = (1, 1) ↔ q = 1 := by
  rw [show ((1, 1) : Pr) = pairQ 1 from rfl, pairQ_eq]

/-! ## solutions of the equations, weighed -/
section
variable {entries : List (List Int)} {many : Nat} {c v : List Int} {tops : List Int} {bottom : Int}
theorem castRow_len (r : List Int) : (castRow r).length = r.length := by unfold castRow; rw [List.length_map]
theorem solvedFor_at (hc : c.length = many) (h : solvedFor entries many c = some (tops, bottom)) : 0 < bottom ∧ tops.length = many ∧
    ∀ j, j < many → (solveQ many (normalQ many (entries.map castRow) (castRow c))).getD j 0 = vi tops j / (bottom : Rat) := by
  have hl := augmented_len (entries := entries) hc
  obtain ⟨h1, h2⟩ := solved_bottom hl h
  refine ⟨h1, h2, fun j hj => ?_⟩
  rw [← augmented_cast hc]
  exact solved_spec hl h hj
theorem product_S (hv : v.length = many) (ht : tops.length = many) : ((product v tops : Int) : Rat) = S many fun j => vi v j * vi tops j := by
  rw [cast_product, dotQ_S (n := many) (by rw [castRow_len]; exact hv) (by rw [castRow_len]; exact ht)]
  exact S_congr fun j _ => by rw [vi_cast, vi_cast]
theorem dot_over {x : List Rat} (hv : v.length = many) (ht : tops.length = many) (hx : x.length = many) (hb : bottom ≠ 0) (h : ∀ j, j < many → x.getD j 0 = vi tops j / (bottom : Rat)) :
    dotQ (castRow v) x = ((product v tops : Int) : Rat) / (bottom : Rat) := by
  rw [product_S hv ht, dotQ_S (n := many) (by rw [castRow_len]; exact hv) hx]
  have hb' := castne hb
  rw [show (S many fun j => vf (castRow v) j * vf x j) = S many fun j => (1 / (bottom : Rat)) * (vi v j * vi tops j) from S_congr fun j hj => by
    rw [vi_cast]
    show _ * x.getD j 0 = _
    rw [h j hj]
    simp only [Rat.div_def]
    grind, S_mul]
  simp only [Rat.div_def]
  grind
theorem weighed_eq (hc : c.length = many) (hv : v.length = many) (h : solvedFor entries many c = some (tops, bottom)) :
    weighed v (tops, bottom) = pairQ (dotQ (castRow v) (solveQ many (normalQ many (entries.map castRow) (castRow c)))) := by
  obtain ⟨h1, h2, h3⟩ := solvedFor_at hc h
  have hb : bottom ≠ 0 := by omega
  unfold weighed
  rw [ratio_eq hb, pairQ_eq]
  exact (dot_over hv h2 (solve_length ..) hb h3).symm
/-- the responses' equations always have a solution -/
theorem right_len (entries : List (List Int)) (responses : List Int) (many : Nat) : (rightSides entries responses many).length = many := by
  unfold rightSides
  rw [List.length_map, List.length_range]
theorem right_cast (entries : List (List Int)) (responses : List Int) (many : Nat) : castRow (rightSides entries responses many) = rightQ many (entries.map castRow) (castRow responses) := by
  unfold rightSides rightQ castRow
  rw [List.map_map]
  refine List.map_congr_left fun p _ => ?_
  show ((product _ _ : Int) : Rat) = _
  rw [cast_product, cast_column]
  rfl
theorem bestFit_some (he : ∀ r ∈ entries, r.length = many) {responses : List Int} (hl : responses.length = entries.length) : ∃ tops bottom, bestFit entries responses many = some (tops, bottom) := by
  have h : (solvedFor entries many (rightSides entries responses many)).isSome = true := by
    rw [solvedFor_span (right_len ..) he]
    refine (Span.sum (f := fun (x : List Int × Int) => vi x.1) (fun x => (x.2 : Rat)) (l := entries.zip responses) fun x hx => Span.gen ⟨x.1, (List.of_mem_zip hx).1, rfl⟩).cast fun j => ?_
    by_cases hj : j < many
    · show ((((List.range many).map fun p => product (column entries p) responses).getD j 0 : Int) : Rat) = _
      rw [List.getD_eq_getElem?_getD, List.getElem?_map, List.getElem?_range hj]
      show ((product (column entries j) responses : Int) : Rat) = _
      rw [cast_product]
      unfold dotQ castRow column
      rw [sumQ_SL, List.map_map]
      clear he
      induction entries generalizing responses with
      | nil => cases responses <;> rfl
      | cons r l ih =>
        cases responses with
        | nil => rfl
        | cons y ys =>
          show vi r j * (y : Rat) + SL _ id = (y : Rat) * vi r j + SL (l.zip ys) _
          rw [ih (by simpa using hl)]
          rw [Rat.mul_comm]
    · rw [vi_len (by rw [right_len]; omega)]
      refine (SL_zero fun x hx => ?_).symm
      have hx := (List.of_mem_zip hx).1
      rw [vi_len (r := x.1) (by rw [he _ hx]; omega)]
      grind
  obtain ⟨⟨tops, bottom⟩, e⟩ := Option.isSome_iff_exists.mp h
  exact ⟨tops, bottom, e⟩
end

/-! ## the residual sum -/
def residSum (entries : List (List Int)) (responses : List Int) (f : List Int × Int) : Int :=
  (entries.zip responses).foldl (fun t e => t + square (e.2 * f.2 - product e.1 f.1)) 0
def residualSumOf (entries : List (List Int)) (responses : List Int) (many : Nat) : Pr := match bestFit entries responses many with
  | none => (0, 1)
  | some f => ratio (residSum entries responses f) (square f.2)
theorem residSum_SL (entries : List (List Int)) (responses : List Int) (f : List Int × Int) :
    ((residSum entries responses f : Int) : Rat) = SL (entries.zip responses) fun e => ((e.2 * f.2 - product e.1 f.1 : Int) : Rat) * ((e.2 * f.2 - product e.1 f.1 : Int) : Rat) := by
  have go : ∀ (l : List (List Int × Int)) (t : Int), ((l.foldl (fun t e => t + square (e.2 * f.2 - product e.1 f.1)) t : Int) : Rat) = (t : Rat) + SL l fun e => ((e.2 * f.2 - product e.1 f.1 : Int) : Rat) * ((e.2 * f.2 - product e.1 f.1 : Int) : Rat) := by
    intro l
    induction l with
    | nil => intro t; show (t : Rat) = t + 0; grind
    | cons e l ih =>
      intro t
      rw [List.foldl_cons, ih]
      show ((t + (e.2 * f.2 - product e.1 f.1) * (e.2 * f.2 - product e.1 f.1) : Int) : Rat) + _ = (t : Rat) + (_ + _)
      generalize (SL l _) = s
      rw [Rat.intCast_add, Rat.intCast_mul, Rat.add_assoc]
  unfold residSum
  rw [go]
  show (0 : Rat) + _ = _
  grind
theorem residual_eq {entries : List (List Int)} {many : Nat} (he : ∀ r ∈ entries, r.length = many) {responses : List Int} (hl : responses.length = entries.length) :
    residualSumOf entries responses many = pairQ (residQ many (entries.map castRow) (castRow responses)) := by
  obtain ⟨tops, bottom, h⟩ := bestFit_some he hl
  unfold residualSumOf
  rw [h]
  simp only
  obtain ⟨h1, h2, h3⟩ := solvedFor_at (right_len ..) h
  have hb : bottom ≠ 0 := by omega
  have hb' := castne hb
  have hs : square bottom ≠ 0 := Int.mul_ne_zero hb hb
  rw [ratio_eq hs, pairQ_eq, residSum_SL]
  unfold residQ
  rw [sumQ_SL]
  have hsol : leastQ many (entries.map castRow) (castRow responses) = solveQ many (normalQ many (entries.map castRow) (castRow (rightSides entries responses many))) := by
    unfold leastQ
    rw [right_cast]
  rw [hsol]
  generalize hx : solveQ many (normalQ many (entries.map castRow) (castRow (rightSides entries responses many))) = x
  have hxl : x.length = many := by rw [← hx]; exact solve_length ..
  rw [hx] at h3
  have one : ∀ r ∈ entries, ∀ y : Int, (y : Rat) - dotQ (castRow r) x = ((y * bottom - product r tops : Int) : Rat) / (bottom : Rat) := fun r hr y => by
    rw [dot_over (he r hr) h2 hxl hb h3]
    push_cast
    grind
  have go : ∀ (es : List (List Int)) (ys : List Int), (∀ r ∈ es, r ∈ entries) → ys.length = es.length →
      SL (List.zipWith (fun r v => (v - dotQ r x) * (v - dotQ r x)) (es.map castRow) (castRow ys)) id = (SL (es.zip ys) fun e => ((e.2 * bottom - product e.1 tops : Int) : Rat) * ((e.2 * bottom - product e.1 tops : Int) : Rat)) / (square bottom : Int) := by
    intro es
    induction es with
    | nil =>
      intro ys _ _
      show (0 : Rat) = 0 / _
      rw [Rat.div_def]
      grind
    | cons r es ih =>
      intro ys hm hl
      cases ys with
      | nil => cases hl
      | cons y ys =>
        show id (((y : Rat) - dotQ (castRow r) x) * ((y : Rat) - dotQ (castRow r) x)) + SL (List.zipWith _ (es.map castRow) (castRow ys)) id = (_ + SL (es.zip ys) _) / _
        rw [ih ys (fun r hr => hm r (List.mem_cons_of_mem _ hr)) (by simpa using hl), one r (hm r List.mem_cons_self) y]
        show _ + SL (es.zip ys) _ / _ = (((y * bottom - product r tops : Int) : Rat) * ((y * bottom - product r tops : Int) : Rat) + SL (es.zip ys) _) / _
        have e : ((square bottom : Int) : Rat) = (bottom : Rat) * (bottom : Rat) := by unfold square; push_cast; rfl
        rw [e]
        generalize ((y * bottom - product r tops : Int) : Rat) = z
        generalize (SL (es.zip ys) _) = t
        clear ih
        simp only [id]
        clear hm hl
        grind
  exact (go entries responses (fun _ h => h) hl).symm
end LF

set_option linter.all false
/-! # Models: the program's tellings and the specification's -/
namespace LF
open Kxd4 (Model Observation)

structure Good (m : Model) : Prop where
  c1 : 1 ≤ m.columns
  c8 : m.columns ≤ 8
  tl : m.terms.length = m.columns
  t0 : m.terms.getD 0 1 = 0
  ts : ∀ i, i + 1 < m.columns → m.terms.getD (i + 1) 0 = m.terms.getD i 0 ∨ m.terms.getD (i + 1) 0 = m.terms.getD i 0 + 1
  n24 : m.data.length ≤ 24
  row : ∀ o ∈ m.data, o.row.length = m.columns
  ent : ∀ o ∈ m.data, ∀ z ∈ o.row, -1000 ≤ z ∧ z ≤ 1000
  resp : ∀ o ∈ m.data, -1000000 ≤ o.response ∧ o.response ≤ 1000000

def listP (p : Pr) : List Int := [p.1, p.2]
def ents (m : Model) : List (List Int) := m.data.map (·.row)
def resps (m : Model) : List Int := m.data.map (·.response)
def rankM (m : Model) : Nat := rankOf (ents m) m.columns
def freedomM (m : Model) : Int := (m.data.length : Int) - (rankM m : Int)
def solP (m : Model) : List Int × Int := (bestFit (ents m) (resps m) m.columns).getD ([], 1)
def estimateM (m : Model) (v : List Int) : Pr := weighed v (solP m)
def factorM (m : Model) (a b : List Int) : Option Pr := (solvedFor (ents m) m.columns b).map (weighed a)
def estimableM (m : Model) (v : List Int) : Bool := (solvedFor (ents m) m.columns v).isSome
def residM (m : Model) : Pr := residualSumOf (ents m) (resps m) m.columns
def varianceM (m : Model) : Pr := ratio (residM m).1 ((residM m).2 * freedomM m)
def entsAt (m : Model) (places : List Nat) : List (List Int) := m.data.map fun o => places.map fun p => o.row.getD p 0
def lookedM (m : Model) (places : List Nat) : Int × Pr := ((rankOf (entsAt m places) places.length : Int), residualSumOf (entsAt m places) (resps m) places.length)
def termCountN (m : Model) : Nat := m.terms.getLastD 0 + 1
def placesBelow (m : Model) (t : Nat) : List Nat := (List.range m.columns).filter fun p => decide (m.terms.getD p 0 < t)
def placesBeside (m : Model) (t : Nat) : List Nat := (List.range m.columns).filter fun p => decide (m.terms.getD p 0 ≠ t)
def toldBetween (f g : Int × Pr) : Int × Pr := (g.1 - f.1, minusP f.2 g.2)
def sequentialM (m : Model) : List (Int × Pr) := (List.range (termCountN m)).map fun t => toldBetween (lookedM m (placesBelow m t)) (lookedM m (placesBelow m (t + 1)))
def marginalAt (m : Model) (t : Nat) : Int × Pr := toldBetween (lookedM m (placesBeside m t)) ((rankM m : Int), residM m)
def marginalM (m : Model) : List (Int × Pr) := (List.range (termCountN m)).map (marginalAt m)
def spread (ys : List Int) : Pr := ratio (ys.map fun y => square ((ys.length : Int) * y - ys.sum)).sum (square (ys.length : Int))
abbrev Groups := List (List Int × List Int)
def groupGet (g : Groups) (k : List Int) : List Int := match g.find? (fun e => decide (e.1 = k)) with
  | none => []
  | some e => e.2
def groupPut (g : Groups) (k : List Int) (v : List Int) : Groups := if g.any (fun e => decide (e.1 = k)) then g.map (fun e => if e.1 = k then (e.1, v) else e) else g ++ [(k, v)]
def groupsOf (data : List Observation) : Groups := data.foldl (fun g o => groupPut g o.row (groupGet g o.row ++ [o.response])) []
def pureM (m : Model) : Int × Pr := ((m.data.length : Int) - ((groupsOf m.data).length : Int), ((groupsOf m.data).map (·.2)).foldl (fun f g => plusP f (spread g)) (0, 1))

/-! ## what is told -/
def tellRank (m : Model) : List Int := [(rankM m : Int), freedomM m]
def tellCoef (m : Model) : List Int := if rankM m < m.columns then [-33] else (m.columns : Int) :: (solP m).1.flatMap fun t => listP (ratio t (solP m).2)
def tellEstimate (m : Model) (v : List Int) : List Int := if Kxd4.isRow m v = false then [-22] else match factorM m v v with
  | none => [-33]
  | some f => 0 :: (listP (estimateM m v) ++ listP f)
def tellCov (m : Model) (a b : List Int) : List Int := if Kxd4.isRow m a = false ∨ Kxd4.isRow m b = false then [-22] else if estimableM m a = false ∨ estimableM m b = false then [-33] else
  match factorM m a b with
  | none => []
  | some f => 0 :: listP f
def tellSq (m : Model) (v : List Int) : List Int := if Kxd4.isRow m v = false then [-22] else match factorM m v v with
  | none => [-33]
  | some f => if f = (0, 1) ∨ freedomM m = 0 ∨ residM m = (0, 1) then [-33] else 0 :: listP (overP (overP (timesP (estimateM m v) (estimateM m v)) (varianceM m)) f)
def tellFitted (m : Model) (i : Nat) : List Int := match m.data[i]? with
  | none => [-2]
  | some o => 0 :: (listP (estimateM m o.row) ++ listP (minusP (o.response, 1) (estimateM m o.row)))
def tellLeverage (m : Model) (i : Nat) : List Int := match m.data[i]? with
  | none => [-2]
  | some o => match factorM m o.row o.row with
    | none => []
    | some f => 0 :: listP f
def tellDeleted (m : Model) (i : Nat) : List Int := match m.data[i]? with
  | none => [-2]
  | some o => match factorM m o.row o.row with
    | none => []
    | some f => if f = (1, 1) then [-33] else 0 :: listP (overP (minusP (o.response, 1) (estimateM m o.row)) (minusP (1, 1) f))
def tellResid (m : Model) : List Int := freedomM m :: listP (residM m)
def tellVar (m : Model) : List Int := if freedomM m = 0 then [-33] else 0 :: listP (varianceM m)
def termsTold (rows : List (Int × Pr)) : List Int := (rows.length : Int) :: rows.flatMap fun r => r.1 :: listP r.2
def tellSeq (m : Model) : List Int := termsTold (sequentialM m)
def tellMarg (m : Model) : List Int := termsTold (marginalM m)
def tellF (m : Model) (t : Nat) : List Int := if termCountN m ≤ t then [-2] else
  if (marginalAt m t).1 = 0 ∨ freedomM m = 0 ∨ residM m = (0, 1) then [-33] else 0 :: listP (overP (ratio (marginalAt m t).2.1 ((marginalAt m t).2.2 * (marginalAt m t).1)) (varianceM m))
def tellLack (m : Model) : List Int := (freedomM m - (pureM m).1) :: (listP (minusP (residM m) (pureM m).2) ++ ((pureM m).1 :: listP (pureM m).2))
def tellPredict (m : Model) (v : List Int) : List Int := if Kxd4.isRow m v = false then [-22] else match factorM m v v with
  | none => [-33]
  | some f => 0 :: (listP (estimateM m v) ++ listP (plusP (1, 1) f))
def tellLost (m : Model) (i : Nat) : List Int := match m.data[i]? with
  | none => [-2]
  | some o => if estimableM (Kxd4.without m i) o.row = false then [-33] else 0 :: listP (estimateM (Kxd4.without m i) o.row)
def tellNormal (m : Model) : List Int := (m.columns : Int) :: (augmented (ents m) m.columns (rightSides (ents m) (resps m) m.columns)).flatten

/-! ## the specification over the rationals -/
def entsQ (m : Model) : List (List Rat) := (ents m).map castRow
def respsQ (m : Model) : List Rat := castRow (resps m)
def solQ (m : Model) : List Rat := leastQ m.columns (entsQ m) (respsQ m)
def estQ (m : Model) (v : List Int) : Rat := dotQ (castRow v) (solQ m)
def covQ (m : Model) (a b : List Int) : Rat := dotQ (castRow a) (solveQ m.columns (normalQ m.columns (entsQ m) (castRow b)))
def resQ (m : Model) : Rat := residQ m.columns (entsQ m) (respsQ m)
theorem fractions_eq (v : List Int) : Kxd4.fractions v = (castRow v).map ofQ := by
  unfold Kxd4.fractions castRow
  rw [List.map_map]
  exact List.map_congr_left fun n _ => ofInt_eq n
theorem design_eq (m : Model) : Kxd4.design m = (entsQ m).map (·.map ofQ) := by
  unfold Kxd4.design entsQ ents
  rw [List.map_map, List.map_map]
  exact List.map_congr_left fun o _ => fractions_eq o.row
theorem responses_eq (m : Model) : Kxd4.responses m = (respsQ m).map ofQ := by
  unfold Kxd4.responses respsQ resps castRow
  rw [List.map_map, List.map_map]
  exact List.map_congr_left fun o _ => ofInt_eq o.response
theorem solution_eq (m : Model) : Kxd4.solution m = (solQ m).map ofQ := by
  unfold Kxd4.solution solQ
  rw [design_eq, responses_eq, least_eq]
theorem est_eq (m : Model) (v : List Int) : Kxd4.dot (Kxd4.fractions v) (Kxd4.solution m) = ofQ (estQ m v) := by
  rw [fractions_eq, solution_eq, dot_eq]
  rfl
theorem cov_eq (m : Model) (a b : List Int) : Kxd4.covariance m (Kxd4.fractions a) (Kxd4.fractions b) = ofQ (covQ m a b) := by
  unfold Kxd4.covariance covQ
  rw [fractions_eq, fractions_eq, design_eq, normal_eq, solve_eq, dot_eq]
theorem resOf_eq (m : Model) : Kxd4.residualOf m = ofQ (resQ m) := by
  unfold Kxd4.residualOf resQ
  rw [design_eq, responses_eq, resid_eq]
theorem rankS_eq (m : Model) : Kxd4.rank m = rankQ (entsQ m) := by
  unfold Kxd4.rank
  rw [design_eq, LF.rank_eq]
/-! ## models -/
section
variable {m : Model} (G : Good m)
include G
theorem Good.elen : ∀ r ∈ ents m, r.length = m.columns := fun r hr => by
  obtain ⟨o, ho, rfl⟩ := List.mem_map.mp hr
  exact G.row o ho
theorem Good.qlen : ∀ r ∈ entsQ m, r.length = m.columns := castlen G.elen
omit G in
theorem resps_len : (resps m).length = (ents m).length := by unfold resps ents; rw [List.length_map, List.length_map]
theorem Good.rank : Kxd4.rank m = rankM m := by
  rw [rankS_eq]
  exact (rank_mirror G.elen).symm
theorem Good.resid : residM m = pairQ (resQ m) := residual_eq G.elen resps_len
theorem Good.sol : ∃ tops bottom, bestFit (ents m) (resps m) m.columns = some (tops, bottom) ∧ solP m = (tops, bottom) := by
  obtain ⟨t, b, h⟩ := bestFit_some G.elen (resps_len (m := m))
  exact ⟨t, b, h, by unfold solP; rw [h]; rfl⟩
theorem Good.solQ_eq : solQ m = solveQ m.columns (normalQ m.columns ((ents m).map castRow) (castRow (rightSides (ents m) (resps m) m.columns))) := by
  unfold solQ leastQ
  rw [right_cast]
  rfl
theorem Good.est {v : List Int} (hv : v.length = m.columns) : estimateM m v = pairQ (estQ m v) := by
  obtain ⟨t, b, h, e⟩ := G.sol
  unfold estimateM estQ
  rw [e, G.solQ_eq]
  exact weighed_eq (right_len ..) hv h
theorem Good.factor {a b : List Int} (ha : a.length = m.columns) (hb : b.length = m.columns) : factorM m a b = if estimableM m b = true then some (pairQ (covQ m a b)) else none := by
  unfold factorM estimableM
  cases q : solvedFor (ents m) m.columns b with
  | none => rfl
  | some f =>
    obtain ⟨t, bt⟩ := f
    show some (weighed a (t, bt)) = some _
    rw [weighed_eq hb ha q]
    rfl
omit G in
theorem rank_le_go (w : Nat) : ∀ (rows : List (List Rat)), (∀ r ∈ rows, r.length = w) → rankQ rows ≤ rows.length := by
  intro rows
  have go : ∀ (rows found : List (List Rat)), (rows.foldl echStep found).length ≤ found.length + rows.length := by
    intro rows
    induction rows with
    | nil => intro found; exact Nat.le_refl _
    | cons x r ih =>
      intro found
      rw [List.foldl_cons]
      refine Nat.le_trans (ih _) ?_
      have : (echStep found x).length ≤ found.length + 1 := by
        unfold echStep
        split
        · omega
        · rw [List.length_append]; exact Nat.le_refl _
      rw [List.length_cons]
      omega
  intro _
  have := go rows []
  unfold rankQ echelonQ
  simpa using this
theorem Good.rank_le : rankM m ≤ m.data.length := by
  have h := rank_le_go m.columns (entsQ m) G.qlen
  rw [← rankS_eq, G.rank] at h
  unfold entsQ ents at h
  simpa using h
theorem Good.freedom : ((Kxd4.freedom m : Nat) : Int) = freedomM m := by
  unfold Kxd4.freedom freedomM
  rw [G.rank]
  have := G.rank_le
  omega
theorem Good.freedom0 : Kxd4.freedom m = 0 ↔ freedomM m = 0 := by
  rw [← G.freedom]
  omega
/-- estimable: the row's rank test and the equations' solution are one -/
theorem Good.estimable {v : List Int} (hv : v.length = m.columns) : Kxd4.isEstimable m (Kxd4.fractions v) = estimableM m v := by
  have hs := solvedFor_span (entries := ents m) hv G.elen
  have hr := rank_snoc (rows := entsQ m) (w := m.columns) G.qlen (c := castRow v) (by rw [castRow_len]; exact hv)
  have e : Span (Gr (entsQ m)) (vf (castRow v)) ↔ Span (Gi (ents m)) (vi v) := by
    refine Iff.trans (Gi_cast (ents m) _) ?_
    rw [show vf (castRow v) = vi v from funext (vi_cast v)]
  unfold Kxd4.isEstimable estimableM
  rw [design_eq, fractions_eq, rankS_eq]
  rw [show (entsQ m).map (·.map ofQ) ++ [(castRow v).map ofQ] = (entsQ m ++ [castRow v]).map (·.map ofQ) by rw [List.map_append]; rfl, LF.rank_eq]
  by_cases c : Span (Gi (ents m)) (vi v)
  · rw [hr.1 (e.mpr c), hs.mpr c]
    exact beq_self_eq_true _
  · rw [hr.2 fun z => c (e.mp z)]
    have : (solvedFor (ents m) m.columns v).isSome = false := by
      cases q : (solvedFor (ents m) m.columns v).isSome with
      | false => rfl
      | true => exact absurd (hs.mp q) c
    rw [this]
    exact beq_eq_false_iff_ne.mpr (by omega)
theorem Good.row_est {o : Observation} (ho : o ∈ m.data) : estimableM m o.row = true := by
  unfold estimableM
  rw [solvedFor_span (G.row o ho) G.elen]
  exact Span.gen ⟨o.row, List.mem_map_of_mem ho, rfl⟩
theorem Good.row_factor {o : Observation} (ho : o ∈ m.data) : factorM m o.row o.row = some (pairQ (covQ m o.row o.row)) := by
  rw [G.factor (G.row o ho) (G.row o ho), if_pos (G.row_est ho)]
theorem Good.variance (h : freedomM m ≠ 0) : varianceM m = pairQ (resQ m / (freedomM m : Rat)) := by
  unfold varianceM
  rw [G.resid, ratio_by _ h]
theorem Good.varS (h : freedomM m ≠ 0) : Kxd4.over (Kxd4.residualOf m) (Kxd4.ofNat (Kxd4.freedom m)) = ofQ (resQ m / (freedomM m : Rat)) := by
  rw [resOf_eq, ofNat_eq, over_eq, G.freedom]
omit G in
theorem isRow_len {v : List Int} (h : ¬ Kxd4.isRow m v = false) : v.length = m.columns := by
  have h : Kxd4.isRow m v = true := by simpa using h
  unfold Kxd4.isRow at h
  rw [Bool.and_eq_true] at h
  simpa using h.1
omit G in
theorem ofQ_one {q : Rat} : ofQ q = ⟨1, 1⟩ ↔ pairQ q = (1, 1) := by
  rw [one_eq, ofQ_eq, oneP]
omit G in
theorem num_zero {q : Rat} : (ofQ q).numerator = 0 ↔ pairQ q = (0, 1) := by
  rw [num_ne, zeroP]

/-! ### one by one -/
open Kxd4Neutral (fields)
theorem t_rank : fields (Kxd4.query m .rank) = tellRank m := by
  show [(Kxd4.rank m : Int), (Kxd4.freedom m : Int)] = _
  rw [G.freedom, G.rank]
  rfl
theorem t_coef : fields (Kxd4.query m .coefficients) = tellCoef m := by
  show fields (if Kxd4.rank m < m.columns then _ else _) = _
  unfold tellCoef
  rw [G.rank]
  split
  · rfl
  · obtain ⟨t, b, h, e⟩ := G.sol
    obtain ⟨h1, h2, h3⟩ := solvedFor_at (right_len ..) h
    rw [e]
    show (m.columns : Int) :: (Kxd4.solution m).flatMap Kxd4.fields = _
    congr 1
    rw [solution_eq]
    rw [G.solQ_eq]
    generalize hx : solveQ m.columns (normalQ m.columns ((ents m).map castRow) (castRow (rightSides (ents m) (resps m) m.columns))) = x at h3 ⊢
    have hxl : x.length = m.columns := by rw [← hx]; exact solve_length ..
    have hb : b ≠ 0 := by omega
    have key : x.map pairQ = t.map fun t => ratio t b := by
      refine List.ext_getElem? fun j => ?_
      rw [List.getElem?_map, List.getElem?_map]
      by_cases hj : j < m.columns
      · have q := h3 j hj
        unfold vi at q
        rw [List.getD_eq_getElem?_getD, List.getElem?_eq_getElem (by omega), List.getD_eq_getElem?_getD, List.getElem?_eq_getElem (by omega)] at q
        rw [List.getElem?_eq_getElem (by omega), List.getElem?_eq_getElem (by omega)]
        show some (pairQ _) = some (ratio _ _)
        rw [ratio_eq hb]
        have q : x[j] = ((t[j] : Int) : Rat) / (b : Rat) := q
        rw [q]
      · rw [List.getElem?_eq_none (by omega), List.getElem?_eq_none (by omega)]
        rfl
    have e1 : (x.map ofQ).flatMap Kxd4.fields = (x.map pairQ).flatMap listP := by
      rw [List.flatMap_map, List.flatMap_map]
      rfl
    rw [e1, key, List.flatMap_map]
theorem t_estimate (v : List Int) : fields (Kxd4.query m (.estimate v)) = tellEstimate m v := by
  simp only [Kxd4.query, Kxd4.withEstimable]
  unfold tellEstimate
  split
  · rfl
  · rename_i hv
    have hl := isRow_len hv
    rw [G.estimable hl, G.factor hl hl]
    cases q : estimableM m v with
    | false => rfl
    | true =>
      simp only [if_true]
      rw [if_neg (by decide), est_eq, cov_eq, G.est hl]
      rfl
theorem t_predict (v : List Int) : fields (Kxd4.query m (.predict v)) = tellPredict m v := by
  simp only [Kxd4.query, Kxd4.withEstimable]
  unfold tellPredict
  split
  · rfl
  · rename_i hv
    have hl := isRow_len hv
    rw [G.estimable hl, G.factor hl hl]
    cases q : estimableM m v with
    | false => rfl
    | true =>
      simp only [if_true]
      rw [if_neg (by decide), est_eq, cov_eq, G.est hl]
      rw [ofInt_eq, plus_eq, show ((1, 1) : Pr) = pairQ ((1 : Int) : Rat) from rfl, plusP_eq]
      rfl
theorem t_cov (a b : List Int) : fields (Kxd4.query m (.covariance a b)) = tellCov m a b := by
  show fields (if _ then _ else _) = _
  unfold tellCov
  split
  · rfl
  · rename_i hv
    rw [not_or] at hv
    have ha := isRow_len hv.1
    have hb := isRow_len hv.2
    rw [G.estimable ha, G.estimable hb]
    split
    · rfl
    · rename_i hs
      rw [not_or] at hs
      rw [G.factor ha hb, if_pos (by simpa using hs.2), cov_eq]
      rfl
theorem t_sq (v : List Int) : fields (Kxd4.query m (.squaredRatio v)) = tellSq m v := by
  simp only [Kxd4.query, Kxd4.withEstimable]
  unfold tellSq
  split
  · rfl
  · rename_i hv
    have hl := isRow_len hv
    rw [G.estimable hl, G.factor hl hl]
    cases q : estimableM m v with
    | false => rfl
    | true =>
      simp only [if_true]
      rw [if_neg (by decide)]
      rw [cov_eq]
      by_cases h : pairQ (covQ m v v) = (0, 1) ∨ freedomM m = 0 ∨ residM m = (0, 1)
      · rw [if_pos h, if_pos]
        · rfl
        · rw [resOf_eq, num_zero, num_zero, ← G.resid, G.freedom0]
          rcases h with h | h | h
          · exact .inr (.inr h)
          · exact .inl h
          · exact .inr (.inl h)
      · rw [if_neg h]
        rw [not_or, not_or] at h
        obtain ⟨h3, h1, h2⟩ := h
        rw [G.resid] at h2
        rw [if_neg]
        · have n1 : resQ m ≠ 0 := fun z => h2 ((zeroP _).mpr z)
          have n2 : covQ m v v ≠ 0 := fun z => h3 ((zeroP _).mpr z)
          have n3 := castne h1
          rw [est_eq, G.varS h1, G.variance h1, G.est hl, times_eq, times_eq, over_eq, timesP_eq]
          rw [overP_eq _ (by rw [Rat.div_def]; grind), overP_eq _ n2]
          show 0 :: Kxd4.fields _ = _
          rw [show estQ m v * estQ m v / (resQ m / (freedomM m : Rat) * covQ m v v) = estQ m v * estQ m v / (resQ m / (freedomM m : Rat)) / covQ m v v by grind]
          rfl
        · rw [resOf_eq, num_zero, num_zero, G.freedom0]
          rintro (h | h | h)
          · exact h1 h
          · exact h2 h
          · exact h3 h
theorem t_fitted (i : Nat) : fields (Kxd4.query m (.fitted i)) = tellFitted m i := by
  show fields (Kxd4.withObservation m i _) = _
  unfold Kxd4.withObservation tellFitted
  cases q : m.data[i]? with
  | none => rfl
  | some o =>
    have ho := List.mem_of_getElem? q
    simp only
    unfold Kxd4.residual
    rw [est_eq, ofInt_eq, minus_eq, G.est (G.row o ho), ← pairQ_int, minusP_eq]
    rfl
theorem t_leverage (i : Nat) : fields (Kxd4.query m (.leverage i)) = tellLeverage m i := by
  show fields (Kxd4.withObservation m i _) = _
  unfold Kxd4.withObservation tellLeverage
  cases q : m.data[i]? with
  | none => rfl
  | some o =>
    have ho := List.mem_of_getElem? q
    simp only
    rw [G.row_factor ho]
    unfold Kxd4.leverage
    rw [cov_eq]
    rfl
theorem t_deleted (i : Nat) : fields (Kxd4.query m (.deleted i)) = tellDeleted m i := by
  show fields (Kxd4.withObservation m i _) = _
  unfold Kxd4.withObservation tellDeleted
  cases q : m.data[i]? with
  | none => rfl
  | some o =>
    have ho := List.mem_of_getElem? q
    simp only
    rw [G.row_factor ho]
    unfold Kxd4.leverage
    rw [cov_eq]
    simp only [ofQ_one]
    by_cases c : pairQ (covQ m o.row o.row) = (1, 1)
    · rw [if_pos c, if_pos c]; rfl
    · rw [if_neg c, if_neg c]
      have n1 : (1 : Rat) - covQ m o.row o.row ≠ 0 := fun z => c ((oneP _).mpr (by grind))
      unfold Kxd4.residual
      rw [est_eq, ofInt_eq, ofInt_eq, minus_eq, minus_eq, over_eq, G.est (G.row o ho), ← pairQ_int, minusP_eq, show ((1, 1) : Pr) = pairQ 1 from rfl, minusP_eq, overP_eq _ n1]
      rfl
theorem t_resid : fields (Kxd4.query m .residualSum) = tellResid m := by
  show (Kxd4.freedom m : Int) :: Kxd4.fields (Kxd4.residualOf m) = _
  rw [G.freedom, resOf_eq]
  unfold tellResid
  rw [G.resid]
  rfl
theorem t_var : fields (Kxd4.query m .varianceEstimate) = tellVar m := by
  show fields (if Kxd4.freedom m = 0 then _ else _) = _
  unfold tellVar
  by_cases h : freedomM m = 0
  · rw [if_pos h, if_pos (G.freedom0.mpr h)]; rfl
  · rw [if_neg h, if_neg fun z => h (G.freedom0.mp z), G.varS h, G.variance h]
    rfl
/-! ### one row less -/
theorem Good.without (i : Nat) : Good (Kxd4.without m i) where
  c1 := G.c1
  c8 := G.c8
  tl := G.tl
  t0 := G.t0
  ts := G.ts
  n24 := Nat.le_trans (List.length_eraseIdx_le ..) G.n24
  row := fun o ho => G.row o (List.mem_of_mem_eraseIdx ho)
  ent := fun o ho => G.ent o (List.mem_of_mem_eraseIdx ho)
  resp := fun o ho => G.resp o (List.mem_of_mem_eraseIdx ho)
theorem t_lost (i : Nat) : fields (Kxd4.query m (.lostValue i)) = tellLost m i := by
  show fields (Kxd4.withObservation m i _) = _
  unfold Kxd4.withObservation tellLost
  cases q : m.data[i]? with
  | none => rfl
  | some o =>
    have ho := List.mem_of_getElem? q
    have W := G.without i
    have hl : o.row.length = (Kxd4.without m i).columns := G.row o ho
    simp only
    rw [W.estimable hl]
    split
    · rfl
    · rw [est_eq, W.est hl]
      rfl
theorem t_normal : fields (Kxd4.query m .normalEquations) = tellNormal m := by
  show (m.columns : Int) :: (Kxd4.normal m.columns (Kxd4.design m) _).flatten.map (·.numerator) = _
  unfold tellNormal
  congr 1
  rw [design_eq, responses_eq, right_eq, normal_eq]
  rw [show rightQ m.columns (entsQ m) (respsQ m) = castRow (rightSides (ents m) (resps m) m.columns) from (right_cast ..).symm]
  rw [show normalQ m.columns (entsQ m) (castRow (rightSides (ents m) (resps m) m.columns)) = (augmented (ents m) m.columns (rightSides (ents m) (resps m) m.columns)).map castRow from (augmented_cast (right_len ..)).symm]
  rw [List.map_map, List.map_flatten, List.map_map]
  congr 1
  rw [List.map_congr_left (g := id)]
  · rw [List.map_id]
  · intro r _
    show ((castRow r).map ofQ).map (·.numerator) = r
    unfold castRow
    rw [List.map_map, List.map_map]
    rw [List.map_congr_left (g := id)]
    · rw [List.map_id]
    · intro n _
      show (n : Rat).num = n
      exact Rat.num_intCast n
end
end LF

set_option linter.all false
/-! # Terms; groups of rows -/
namespace LF
open Kxd4 (Model Observation)
open Kxd4Neutral (fields)

/-! ## ranks compared -/
theorem list_snoc {α : Type} (P : List α → Prop) (h0 : P []) (hs : ∀ l x, P l → P (l ++ [x])) (l : List α) : P l := by
  have : ∀ n (l : List α), l.length = n → P l := by
    intro n
    induction n with
    | zero =>
      intro l hl
      rw [List.length_eq_zero_iff.mp hl]
      exact h0
    | succ n ih =>
      intro l hl
      have hne : l ≠ [] := fun z => by rw [z] at hl; cases hl
      rw [← List.dropLast_concat_getLast hne]
      exact hs _ _ (ih _ (by rw [List.length_dropLast]; omega))
  exact this _ l rfl
/-- a linear image has no greater rank -/
theorem rank_image {α : Type} {wa wb : Nat} (f g : α → List Rat) (hf : ∀ x, (f x).length = wa) (hg : ∀ x, (g x).length = wb)
    (h : ∀ (l : List α) (x : α), Span (Gr (l.map g)) (vf (g x)) → Span (Gr (l.map f)) (vf (f x))) (l : List α) : rankQ (l.map f) ≤ rankQ (l.map g) := by
  refine list_snoc (fun l => rankQ (l.map f) ≤ rankQ (l.map g)) (Nat.le_refl _) (fun l x ih => ?_) l
  have lf : ∀ r ∈ l.map f, r.length = wa := fun r hr => by obtain ⟨y, _, rfl⟩ := List.mem_map.mp hr; exact hf y
  have lg : ∀ r ∈ l.map g, r.length = wb := fun r hr => by obtain ⟨y, _, rfl⟩ := List.mem_map.mp hr; exact hg y
  rw [List.map_append, List.map_append]
  show rankQ (l.map f ++ [f x]) ≤ rankQ (l.map g ++ [g x])
  have rf := rank_snoc lf (hf x)
  have rg := rank_snoc lg (hg x)
  by_cases c : Span (Gr (l.map g)) (vf (g x))
  · rw [rf.1 (h l x c), rg.1 c]
    exact ih
  · rw [rg.2 c]
    by_cases d : Span (Gr (l.map f)) (vf (f x))
    · rw [rf.1 d]
      omega
    · rw [rf.2 d]
      omega
def pickI (columns : List Nat) (r : List Int) : List Int := columns.map fun p => r.getD p 0
theorem vf_pick (columns : List Nat) (r : List Int) (i : Nat) : vf (castRow (pickI columns r)) i = match columns[i]? with
  | none => 0
  | some p => vi r p := by
  rw [vi_cast]
  unfold vi pickI
  rw [List.getD_eq_getElem?_getD, List.getElem?_map]
  cases columns[i]? with
  | none => rfl
  | some p => rfl
theorem rank_picks {A B : List Nat} (hAB : ∀ a ∈ A, a ∈ B) (rows : List (List Int)) : rankQ (rows.map fun r => castRow (pickI A r)) ≤ rankQ (rows.map fun r => castRow (pickI B r)) := by
  refine rank_image (wa := A.length) (wb := B.length) _ _ (fun x => by unfold pickI castRow; simp) (fun x => by unfold pickI castRow; simp) (fun l x h => ?_) rows
  -- what the A-th places are, by the B-th
  let φ : Vec → Vec := fun v i => match A[i]? with
    | none => 0
    | some a => v (B.idxOf a)
  have hφ : ∀ r : List Int, ∀ i, φ (vf (castRow (pickI B r))) i = vf (castRow (pickI A r)) i := fun r i => by
    rw [vf_pick]
    show (match A[i]? with
      | none => 0
      | some a => vf (castRow (pickI B r)) (B.idxOf a)) = _
    cases q : A[i]? with
    | none => rfl
    | some a =>
      have hb := hAB a (List.mem_of_getElem? q)
      show vf (castRow (pickI B r)) (B.idxOf a) = vi r a
      rw [vf_pick, List.getElem?_eq_getElem (List.idxOf_lt_length_of_mem hb), List.getElem_idxOf]
  have key : Span (Gr (l.map fun r => castRow (pickI A r))) (φ (vf (castRow (pickI B x)))) := by
    refine Span.lin (fun v => Span (Gr (l.map fun r => castRow (pickI A r))) (φ v)) ?_ (fun c u v hu ih => ?_) h
    · exact Span.zero.cast fun i => by
        show (match A[i]? with
          | none => (0 : Rat)
          | some a => 0) = 0
        cases A[i]? <;> rfl
    · obtain ⟨r, hr, rfl⟩ := hu
      obtain ⟨y, hy, rfl⟩ := List.mem_map.mp hr
      refine (Span.step c (u := vf (castRow (pickI A y))) ⟨_, List.mem_map.mpr ⟨y, hy, rfl⟩, rfl⟩ ih).cast fun i => ?_
      rw [← hφ]
      show (match A[i]? with
        | none => (0 : Rat)
        | some a => c * vf (castRow (pickI B y)) (B.idxOf a) + v (B.idxOf a)) = c * (match A[i]? with
        | none => (0 : Rat)
        | some a => vf (castRow (pickI B y)) (B.idxOf a)) + (match A[i]? with
        | none => (0 : Rat)
        | some a => v (B.idxOf a))
      cases A[i]? with
      | none => show (0 : Rat) = c * 0 + 0; grind
      | some a => rfl
  exact key.cast fun i => (hφ x i).symm

/-! ## some columns only -/
theorem pick_cast (columns : List Nat) (r : List Int) : pickQ columns (castRow r) = castRow (pickI columns r) := by
  unfold pickQ pickI castRow
  rw [List.map_map]
  exact List.map_congr_left fun p _ => vi_cast r p
theorem entsAt_eq (m : Model) (cs : List Nat) : entsAt m cs = (ents m).map (pickI cs) := by
  unfold entsAt ents pickI
  rw [List.map_map]
  rfl
theorem withColumns_eq (m : Model) (cs : List Nat) : Kxd4.withColumns m cs = (rankQ ((entsAt m cs).map castRow), ofQ (residQ cs.length ((entsAt m cs).map castRow) (respsQ m))) := by
  unfold Kxd4.withColumns
  have e : (Kxd4.design m).map (Kxd4.pick cs) = ((entsAt m cs).map castRow).map (·.map ofQ) := by
    rw [design_eq, entsAt_eq]
    unfold entsQ
    rw [List.map_map, List.map_map, List.map_map, List.map_map]
    refine List.map_congr_left fun r _ => ?_
    show Kxd4.pick cs ((castRow r).map ofQ) = (castRow (pickI cs r)).map ofQ
    rw [pick_eq, pick_cast]
  simp only
  rw [e, LF.rank_eq, responses_eq, resid_eq]
theorem entsAt_len (m : Model) (cs : List Nat) : ∀ r ∈ entsAt m cs, r.length = cs.length := fun r hr => by
  rw [entsAt_eq] at hr
  obtain ⟨y, _, rfl⟩ := List.mem_map.mp hr
  unfold pickI
  rw [List.length_map]
theorem looked_eq (m : Model) (cs : List Nat) : lookedM m cs = (((Kxd4.withColumns m cs).1 : Int), pairQ (residQ cs.length ((entsAt m cs).map castRow) (respsQ m))) := by
  unfold lookedM
  rw [withColumns_eq, rank_mirror (entsAt_len m cs), residual_eq (entsAt_len m cs) (by unfold resps entsAt; rw [List.length_map, List.length_map])]
  rfl
theorem withColumns_mono (m : Model) {A B : List Nat} (h : ∀ a ∈ A, a ∈ B) : (Kxd4.withColumns m A).1 ≤ (Kxd4.withColumns m B).1 := by
  rw [withColumns_eq, withColumns_eq, entsAt_eq, entsAt_eq, List.map_map, List.map_map]
  exact rank_picks h (ents m)
/-- a term's row of the table, told from two looks -/
theorem between_eq (m : Model) {A B : List Nat} (h : ∀ a ∈ A, a ∈ B) :
    ((((Kxd4.withColumns m B).1 - (Kxd4.withColumns m A).1 : Nat) : Int) :: Kxd4.fields (Kxd4.minus (Kxd4.withColumns m A).2 (Kxd4.withColumns m B).2)) =
      (toldBetween (lookedM m A) (lookedM m B)).1 :: listP (toldBetween (lookedM m A) (lookedM m B)).2 := by
  have hm := withColumns_mono m h
  have e1 : (((Kxd4.withColumns m B).1 - (Kxd4.withColumns m A).1 : Nat) : Int) = ((Kxd4.withColumns m B).1 : Int) - ((Kxd4.withColumns m A).1 : Int) := by omega
  unfold toldBetween
  rw [looked_eq, looked_eq, e1, minusP_eq]
  rw [withColumns_eq m A, withColumns_eq m B]
  simp only
  rw [minus_eq]
  rfl
section
variable {m : Model} (G : Good m)
include G
theorem Good.termCount : Kxd4.termCount m = termCountN m := rfl
theorem placesBelow_eq (m : Model) (t : Nat) : Kxd4.columnsOf m (fun s => decide (s < t)) = placesBelow m t := rfl
theorem placesUpTo_eq (m : Model) (t : Nat) : Kxd4.columnsOf m (fun s => decide (s ≤ t)) = placesBelow m (t + 1) := by
  unfold Kxd4.columnsOf placesBelow
  refine List.filter_congr fun p _ => ?_
  rw [decide_eq_decide]
  omega
theorem placesBeside_eq (m : Model) (t : Nat) : Kxd4.columnsOf m (fun s => s != t) = placesBeside m t := by
  unfold Kxd4.columnsOf placesBeside
  refine List.filter_congr fun p _ => ?_
  generalize m.terms.getD p 0 = x
  by_cases h : x = t
  · subst h; simp
  · rw [decide_eq_true h]; simpa using h
omit G in
theorem placesAll_eq (m : Model) : Kxd4.columnsOf m (fun _ => true) = List.range m.columns := by
  unfold Kxd4.columnsOf
  exact List.filter_eq_self.mpr fun _ _ => rfl
omit G in
theorem below_sub (m : Model) (t : Nat) : ∀ a ∈ placesBelow m t, a ∈ placesBelow m (t + 1) := fun a ha => by
  unfold placesBelow at *
  rw [List.mem_filter] at *
  refine ⟨ha.1, ?_⟩
  have := ha.2
  simp only [decide_eq_true_eq] at *
  omega
theorem t_seq : fields (Kxd4.query m .sequential) = tellSeq m := by
  show ((Kxd4.termCount m : Nat) : Int) :: (List.range (Kxd4.termCount m)).flatMap (fun t => ((Kxd4.sequential m t).1 : Int) :: Kxd4.fields (Kxd4.sequential m t).2) = _
  unfold tellSeq termsTold sequentialM
  rw [List.length_map, List.length_range, List.flatMap_map]
  congr 1
  show (List.range (termCountN m)).flatMap _ = _
  congr 1
  funext t
  unfold Kxd4.sequential
  simp only
  rw [placesUpTo_eq G]
  exact between_eq m (below_sub m t)
/-- all columns -/
theorem Good.looked_all : lookedM m (List.range m.columns) = ((rankM m : Int), residM m) := by
  have e : entsAt m (List.range m.columns) = ents m := by
    rw [entsAt_eq]
    rw [List.map_congr_left (g := id)]
    · rw [List.map_id]
    · intro r hr
      have hl := G.elen r hr
      unfold pickI
      refine List.ext_getElem? fun i => ?_
      rw [List.getElem?_map]
      by_cases hi : i < m.columns
      · rw [List.getElem?_range hi]
        show some (r.getD i 0) = r[i]?
        rw [List.getD_eq_getElem?_getD, List.getElem?_eq_getElem (by omega)]
        rfl
      · rw [List.getElem?_eq_none (by simpa using Nat.le_of_not_lt hi)]
        show none = r[i]?
        rw [List.getElem?_eq_none (by omega)]
  unfold lookedM
  rw [e, List.length_range]
  rfl
omit G in
theorem beside_sub (m : Model) (t : Nat) : ∀ a ∈ placesBeside m t, a ∈ List.range m.columns := fun a ha => by
  unfold placesBeside at ha
  exact (List.mem_filter.mp ha).1
theorem Good.marg (t : Nat) : ((Kxd4.marginal m t).1 : Int) :: Kxd4.fields (Kxd4.marginal m t).2 = (marginalAt m t).1 :: listP (marginalAt m t).2 := by
  unfold Kxd4.marginal marginalAt
  simp only
  rw [placesBeside_eq G, placesAll_eq, ← G.looked_all]
  exact between_eq m (beside_sub m t)
theorem t_marg : fields (Kxd4.query m .marginal) = tellMarg m := by
  show ((Kxd4.termCount m : Nat) : Int) :: (List.range (Kxd4.termCount m)).flatMap (fun t => ((Kxd4.marginal m t).1 : Int) :: Kxd4.fields (Kxd4.marginal m t).2) = _
  unfold tellMarg termsTold marginalM
  rw [List.length_map, List.length_range, List.flatMap_map]
  congr 1
  show (List.range (termCountN m)).flatMap _ = _
  congr 1
  funext t
  exact G.marg t
theorem Good.marg_val (t : Nat) : ∃ q : Rat, (Kxd4.marginal m t).2 = ofQ q ∧ (marginalAt m t).2 = pairQ q ∧ ((Kxd4.marginal m t).1 : Int) = (marginalAt m t).1 := by
  have h := G.marg t
  have h1 := (List.cons.inj h).1
  unfold Kxd4.marginal marginalAt toldBetween
  simp only
  rw [placesBeside_eq G, placesAll_eq]
  refine ⟨residQ (placesBeside m t).length ((entsAt m (placesBeside m t)).map castRow) (respsQ m) - resQ m, ?_, ?_, ?_⟩
  · have := G.looked_all
    rw [looked_eq] at this
    have h2 : residQ (List.range m.columns).length ((entsAt m (List.range m.columns)).map castRow) (respsQ m) = resQ m := pairQ_inj (by
      have := congrArg Prod.snd this
      rw [G.resid] at this
      exact this)
    rw [withColumns_eq, withColumns_eq]
    simp only
    rw [h2, minus_eq]
  · rw [looked_eq, G.resid]
    simp only
    rw [minusP_eq]
  · have : ((Kxd4.marginal m t).1 : Int) = (marginalAt m t).1 := h1
    unfold Kxd4.marginal marginalAt toldBetween at this
    simp only at this
    rw [placesBeside_eq G, placesAll_eq] at this
    exact this
theorem t_f (t : Nat) : fields (Kxd4.query m (.fRatio t)) = tellF m t := by
  simp only [Kxd4.query]
  unfold tellF
  show fields (if termCountN m ≤ t then _ else _) = _
  by_cases ht : termCountN m ≤ t
  · rw [if_pos ht, if_pos ht]; rfl
  · rw [if_neg ht, if_neg ht]
    obtain ⟨q, h1, h2, h3⟩ := G.marg_val t
    rw [h1, h2]
    by_cases h : (marginalAt m t).1 = 0 ∨ freedomM m = 0 ∨ residM m = (0, 1)
    · rw [if_pos h, if_pos]
      · rfl
      · rw [resOf_eq, num_zero, ← G.resid, G.freedom0]
        rcases h with h | h | h
        · exact .inl (by omega)
        · exact .inr (.inl h)
        · exact .inr (.inr h)
    · rw [if_neg h]
      rw [not_or, not_or] at h
      obtain ⟨a1, a2, a3⟩ := h
      rw [if_neg]
      · rw [G.resid] at a3
        have n1 : resQ m ≠ 0 := fun z => a3 ((zeroP _).mpr z)
        have n2 := castne a2
        rw [ratio_by q a1, G.varS a2, G.variance a2, ofNat_eq, over_eq, over_eq, h3, overP_eq _ (by rw [Rat.div_def]; grind)]
        rfl
      · rw [resOf_eq, num_zero, ← G.resid, G.freedom0]
        rintro (h | h | h)
        · exact a1 (by omega)
        · exact a2 h
        · exact a3 h
end

/-! ## groups of equal rows -/
def keysOf (data : List Observation) : List (List Int) := (data.map (·.row)).eraseDups
def rowsOf (data : List Observation) (g : List Int) : List Int := (data.filter fun o => o.row == g).map (·.response)
theorem keys_snoc (data : List Observation) (o : Observation) : keysOf (data ++ [o]) = if o.row ∈ data.map (·.row) then keysOf data else keysOf data ++ [o.row] := by
  unfold keysOf
  rw [List.map_append, List.eraseDups_append]
  show _ ++ ([o.row].removeAll (data.map (·.row))).eraseDups = _
  unfold List.removeAll
  by_cases h : o.row ∈ data.map (·.row)
  · rw [if_pos h]
    rw [List.filter_cons, if_neg (by simpa using h)]
    simp
  · rw [if_neg h]
    rw [List.filter_cons, if_pos (by simpa using h)]
    rfl
theorem mem_keys {data : List Observation} {g : List Int} : g ∈ keysOf data ↔ g ∈ data.map (·.row) := by
  unfold keysOf
  exact List.mem_eraseDups
theorem rows_snoc (data : List Observation) (o : Observation) (g : List Int) : rowsOf (data ++ [o]) g = if o.row = g then rowsOf data g ++ [o.response] else rowsOf data g := by
  unfold rowsOf
  rw [List.filter_append, List.map_append]
  by_cases h : o.row = g
  · rw [if_pos h, List.filter_cons, if_pos (by simpa using h)]
    rfl
  · rw [if_neg h, List.filter_cons, if_neg (by simpa using h)]
    simp
theorem groups_eq (data : List Observation) : groupsOf data = (keysOf data).map fun g => (g, rowsOf data g) := by
  refine list_snoc (fun data => groupsOf data = (keysOf data).map fun g => (g, rowsOf data g)) rfl (fun l o ih => ?_) data
  unfold groupsOf at *
  rw [List.foldl_append, ih]
  show groupPut _ _ _ = _
  have hf : ∀ ks : List (List Int), ((ks.map fun g => (g, rowsOf l g)).find? fun e => decide (e.1 = o.row)) = if o.row ∈ ks then some (o.row, rowsOf l o.row) else none := by
    intro ks
    induction ks with
    | nil => rfl
    | cons k ks ihk =>
      rw [List.map_cons, List.find?_cons]
      by_cases c : k = o.row
      · subst c
        simp
      · have c' : ¬ o.row = k := fun z => c z.symm
        simp only [decide_eq_false c]
        rw [ihk]
        by_cases d : o.row ∈ ks
        · rw [if_pos d, if_pos (List.mem_cons_of_mem _ d)]
        · rw [if_neg d, if_neg (by simp [c', d])]
  have ha : ((keysOf l).map fun g => (g, rowsOf l g)).any (fun e => decide (e.1 = o.row)) = decide (o.row ∈ keysOf l) := by
    rw [List.any_map]
    by_cases d : o.row ∈ keysOf l
    · rw [decide_eq_true d, List.any_eq_true]
      exact ⟨o.row, d, by simp⟩
    · rw [decide_eq_false d, List.any_eq_false]
      intro x hx
      have : x ≠ o.row := fun z => d (z ▸ hx)
      simpa using this
  unfold groupPut groupGet
  rw [ha, hf, keys_snoc]
  by_cases d : o.row ∈ keysOf l
  · have d' := mem_keys.mp d
    rw [if_pos (decide_eq_true d), if_pos d, if_pos d', List.map_map]
    refine List.map_congr_left fun g _ => ?_
    show (if g = o.row then (g, rowsOf l o.row ++ [o.response]) else (g, rowsOf l g)) = _
    rw [rows_snoc]
    by_cases c : g = o.row
    · rw [if_pos c, if_pos c.symm, c]
    · rw [if_neg c, if_neg fun z => c z.symm]
  · have d' := fun z => d (mem_keys.mpr z)
    rw [if_neg (by simpa using d), if_neg d, if_neg d', List.map_append]
    show _ ++ [(o.row, [] ++ [o.response])] = _ ++ [(o.row, rowsOf (l ++ [o]) o.row)]
    congr 1
    · refine List.map_congr_left fun g hg => ?_
      rw [rows_snoc, if_neg fun z => d (by rw [z]; exact hg)]
    · rw [rows_snoc, if_pos rfl]
      have : rowsOf l o.row = [] := by
        unfold rowsOf
        rw [List.map_eq_nil_iff, List.filter_eq_nil_iff]
        intro x hx
        have : x.row ≠ o.row := fun z => d' (by rw [← z]; exact List.mem_map_of_mem hx)
        simpa using this
      rw [this]
def spreadQ (ys : List Int) : Rat := sumQ ((castRow ys).map fun v => (v - sumQ (castRow ys) / ((ys.length : Int) : Rat)) * (v - sumQ (castRow ys) / ((ys.length : Int) : Rat)))
theorem sumQ_cast (ys : List Int) : sumQ (castRow ys) = ((ys.sum : Int) : Rat) := by
  rw [sumQ_SL, cast_sum]
  unfold castRow
  rw [SL_map]
  rfl
theorem spread_eq {ys : List Int} (h : ys ≠ []) : spread ys = pairQ (spreadQ ys) := by
  have hn : (ys.length : Int) ≠ 0 := by
    have : ys.length ≠ 0 := fun z => h (List.length_eq_zero_iff.mp z)
    omega
  have hn' := castne hn
  unfold spread
  rw [ratio_eq (show square (ys.length : Int) ≠ 0 from Int.mul_ne_zero hn hn), pairQ_eq]
  unfold spreadQ
  rw [sumQ_cast, sumQ_SL, SL_map]
  unfold castRow
  rw [SL_map, cast_sum, SL_map]
  generalize hs : ((ys.sum : Int)) = s
  generalize hl : ((ys.length : Int)) = n at hn hn' ⊢
  have e : ((square n : Int) : Rat) = (n : Rat) * (n : Rat) := by unfold square; push_cast; rfl
  rw [e]
  rw [Rat.div_def, Rat.mul_comm, ← SL_mul]
  refine SL_congr fun y _ => ?_
  show _ * ((square (n * y - s) : Int) : Rat) = id _
  unfold square
  push_cast
  simp only [id]
  grind
theorem spread_spec (ys : List Int) : (let y := ys.map Kxd4.ofInt; Kxd4.total (y.map fun v => Kxd4.times (Kxd4.minus v (Kxd4.over (Kxd4.total y) (Kxd4.ofNat y.length))) (Kxd4.minus v (Kxd4.over (Kxd4.total y) (Kxd4.ofNat y.length))))) = ofQ (spreadQ ys) := by
  simp only
  have e : ys.map Kxd4.ofInt = (castRow ys).map ofQ := by
    unfold castRow
    rw [List.map_map]
    exact List.map_congr_left fun n _ => ofInt_eq n
  rw [e, total_eq, ofNat_eq, over_eq, List.map_map]
  unfold spreadQ
  rw [List.length_map, castRow_len, ← total_eq]
  congr 1
  rw [List.map_map]
  refine List.map_congr_left fun v _ => ?_
  show Kxd4.times (Kxd4.minus (ofQ v) _) _ = _
  rw [minus_eq, times_eq]
  rfl
theorem pure_foldl : ∀ (l : List (List Int)) (q : Rat), (∀ ys ∈ l, ys ≠ []) → l.foldl (fun f g => plusP f (spread g)) (pairQ q) = pairQ ((l.map spreadQ).foldl (· + ·) q)
  | [], _, _ => rfl
  | ys :: l, q, h => by
    rw [List.foldl_cons, spread_eq (h ys List.mem_cons_self), plusP_eq, pure_foldl l _ fun z hz => h z (List.mem_cons_of_mem _ hz)]
    rfl
def pureQ (m : Model) : Rat := sumQ ((keysOf m.data).map fun g => spreadQ (rowsOf m.data g))
theorem rows_ne {data : List Observation} {g : List Int} (h : g ∈ keysOf data) : rowsOf data g ≠ [] := fun z => by
  obtain ⟨o, ho, e⟩ := List.mem_map.mp (mem_keys.mp h)
  unfold rowsOf at z
  rw [List.map_eq_nil_iff, List.filter_eq_nil_iff] at z
  exact z o ho (by simpa using e)
theorem pureM_eq (m : Model) : pureM m = ((m.data.length : Int) - ((keysOf m.data).length : Int), pairQ (pureQ m)) := by
  unfold pureM pureQ
  rw [groups_eq, List.length_map, List.map_map]
  congr 1
  rw [show ((0, 1) : Pr) = pairQ 0 from rfl]
  rw [pure_foldl _ 0 fun ys hys => by
    obtain ⟨g, hg, rfl⟩ := List.mem_map.mp hys
    exact rows_ne hg]
  rw [List.map_map]
  rfl
theorem pureS_eq (m : Model) : Kxd4.pureError m = (m.data.length - (keysOf m.data).length, ofQ (pureQ m)) := by
  unfold Kxd4.pureError pureQ
  simp only
  show (m.data.length - (keysOf m.data).length, Kxd4.total ((keysOf m.data).map _)) = _
  congr 1
  rw [← total_eq, List.map_map]
  congr 1
  refine List.map_congr_left fun g _ => ?_
  rw [show (ofQ ∘ fun g => spreadQ (rowsOf m.data g)) g = ofQ (spreadQ (rowsOf m.data g)) from rfl, ← spread_spec]
  unfold rowsOf
  simp only [List.map_map]
  rfl
/-- no more linearly independent rows than different ones -/
theorem rank_keys {w : Nat} (data : List Observation) (h : ∀ o ∈ data, o.row.length = w) : rankQ ((data.map (·.row)).map castRow) ≤ (keysOf data).length := by
  refine list_snoc (fun data => (∀ o ∈ data, o.row.length = w) → rankQ ((data.map (·.row)).map castRow) ≤ (keysOf data).length) (fun _ => Nat.le_refl _) (fun l o ih h => ?_) data h
  have hl : ∀ o ∈ l, o.row.length = w := fun x hx => h x (List.mem_append_left _ hx)
  have ho := h o (List.mem_append_right _ (List.mem_singleton.mpr rfl))
  have ih := ih hl
  rw [List.map_append, List.map_append, keys_snoc]
  have hr : ∀ r ∈ (l.map (·.row)).map castRow, r.length = w := fun r hr => by
    obtain ⟨r', hr', rfl⟩ := List.mem_map.mp hr
    obtain ⟨x, hx, rfl⟩ := List.mem_map.mp hr'
    rw [castRow_len]
    exact hl x hx
  have rs := rank_snoc hr (c := castRow o.row) (by rw [castRow_len]; exact ho)
  show rankQ ((l.map (·.row)).map castRow ++ [castRow o.row]) ≤ _
  by_cases c : o.row ∈ l.map (·.row)
  · rw [if_pos c, rs.1 (Span.gen ⟨castRow o.row, List.mem_map_of_mem c, rfl⟩)]
    exact ih
  · rw [if_neg c, List.length_append]
    by_cases d : Span (Gr ((l.map (·.row)).map castRow)) (vf (castRow o.row))
    · rw [rs.1 d]
      exact Nat.le_trans ih (Nat.le_add_right _ _)
    · rw [rs.2 d]
      exact Nat.add_le_add_right ih 1
theorem keys_le (data : List Observation) : (keysOf data).length ≤ data.length := by
  refine list_snoc (fun data => (keysOf data).length ≤ data.length) (Nat.le_refl _) (fun l o ih => ?_) data
  rw [keys_snoc, List.length_append]
  split
  · exact Nat.le_trans ih (Nat.le_add_right _ _)
  · rw [List.length_append]
    exact Nat.add_le_add_right ih 1
theorem t_lack {m : Model} (G : Good m) : fields (Kxd4.query m .lackOfFit) = tellLack m := by
  show ((Kxd4.freedom m - (Kxd4.pureError m).1 : Nat) : Int) :: (Kxd4.fields (Kxd4.minus (Kxd4.residualOf m) (Kxd4.pureError m).2) ++ (((Kxd4.pureError m).1 : Int) :: Kxd4.fields (Kxd4.pureError m).2)) = _
  unfold tellLack
  rw [pureS_eq, pureM_eq, resOf_eq, G.resid]
  simp only
  rw [minus_eq, minusP_eq]
  have h1 := rank_keys m.data G.row
  have h2 := keys_le m.data
  have h3 : rankQ ((m.data.map (·.row)).map castRow) = rankM m := by
    have := G.rank
    rw [rankS_eq] at this
    exact this
  have h4 := G.freedom
  have h5 := G.rank_le
  rw [h3] at h1
  unfold freedomM at h4 ⊢
  rw [show ((Kxd4.freedom m - (m.data.length - (keysOf m.data).length) : Nat) : Int) = (m.data.length : Int) - (rankM m : Int) - ((m.data.length : Int) - ((keysOf m.data).length : Int)) by omega]
  rw [show ((m.data.length - (keysOf m.data).length : Nat) : Int) = (m.data.length : Int) - ((keysOf m.data).length : Int) by omega]
  rfl
end LF

set_option linter.all false
/-! # Quadratic surfaces -/
namespace LF
open Kxd4Neutral (fields)

/-! ## the program's -/
def pairsOf (k : Nat) : List (Nat × Nat) := (List.range k).flatMap fun i => (List.range' i (k - i)).map fun j => (i, j)
def bump (t : List (List Int)) (i j : Nat) (n : Int) : List (List Int) := t.set i ((t.getD i []).set j ((t.getD i []).getD j 0 + n))
def hessianM (k : Nat) (q : List Int) : List (List Int) := ((pairsOf k).zip q).foldl (fun t e => bump (bump t e.1.1 e.1.2 e.2) e.1.2 e.1.1 e.2) (List.replicate k (List.replicate k 0))
def detM : Nat → List (List Int) → Int
  | 0, _ => 1
  | _ + 1, [] => 1
  | n + 1, r :: rest => (r.zipIdx.foldl (fun (s : Int × Int) x => (s.1 + s.2 * x.1 * detM n (rest.map fun row => row.take x.2 ++ row.drop (x.2 + 1)), 0 - s.2)) (0, 1)).1
def minorsM (t : List (List Int)) : List Int := (List.range t.length).map fun n => detM (n + 1) ((t.take (n + 1)).map fun r => r.take (n + 1))
def turned (z : Int × Nat) : Bool := if z.2 % 2 = 0 then decide (z.1 < 0) else decide (0 < z.1)
def kindM (t : List (List Int)) : Int := if (minorsM t).all (fun x => decide (0 < x)) then 0 else if (minorsM t).zipIdx.all turned then 1 else 2
def pointRows (t : List (List Int)) (l : List Int) : List (List Int) := List.zipWith (fun r n => r ++ [0 - n]) t l
def pointM (t : List (List Int)) (l : List Int) : Option (List Int × Int) := solved (pointRows t l) l.length
def valueM (c : Int) (l q : List Int) (f : List Int × Int) : Pr :=
  ratio (((pairsOf l.length).zip q).foldl (fun t e => t + e.2 * f.1.getD e.1.1 0 * f.1.getD e.1.2 0) (c * square f.2 + product l f.1 * f.2)) (square f.2)
def offSurface (k : Nat) (c : Int) (l q : List Int) : Prop := k = 0 ∨ 3 < k ∨ l.length ≠ k ∨ q.length ≠ k * (k + 1) / 2 ∨ (c :: l ++ q).any (fun z => !Kxd4.isResponse z) = true
instance (k : Nat) (c : Int) (l q : List Int) : Decidable (offSurface k c l q) := by unfold offSurface; infer_instance
def tellStat (k : Nat) (c : Int) (l q : List Int) : List Int := if offSurface k c l q then [-22] else
  if detM k (hessianM k q) = 0 then [-33] else match pointM (hessianM k q) l with
    | none => []
    | some f => kindM (hessianM k q) :: ((f.1.flatMap fun t => listP (ratio t f.2)) ++ listP (valueM c l q f))

/-! ## determinants -/
def prodQ (l : List Rat) : Rat := l.foldl (· * ·) 1
def detOf (e : List (List Rat)) (n : Nat) : Rat :=
  if e.length < n then 0
  else (if Kxd4.inversions (e.map fun r => (leadQ r).getD 0) % 2 = 0 then 1 else -1) * prodQ (e.map fun r => r.getD ((leadQ r).getD 0) 0)
def detQ (m : List (List Rat)) : Rat := detOf (echelonQ m) m.length
theorem detOf_few {e : List (List Rat)} {n : Nat} (h : e.length < n) : detOf e n = 0 := if_pos h
theorem detOf_all {e : List (List Rat)} {n : Nat} (h : ¬ e.length < n) : detOf e n = (if Kxd4.inversions (e.map fun r => (leadQ r).getD 0) % 2 = 0 then 1 else -1) * prodQ (e.map fun r => r.getD ((leadQ r).getD 0) 0) := if_neg h
theorem prod_go : ∀ (l : List Rat) (a : Rat), (l.map ofQ).foldl Kxd4.times (ofQ a) = ofQ (l.foldl (· * ·) a)
  | [], _ => rfl
  | x :: r, a => by
    rw [List.map_cons, List.foldl_cons, times_eq, prod_go r, List.foldl_cons]
theorem det_eq (m : List (List Rat)) : Kxd4.determinant (m.map (·.map ofQ)) = ofQ (detQ m) := by
  unfold Kxd4.determinant detQ detOf
  simp only
  rw [echelon_eq, List.length_map, List.length_map]
  split
  · rfl
  · have e1 : ((echelonQ m).map (·.map ofQ)).map (fun r => (Kxd4.leadOf r).getD 0) = (echelonQ m).map fun r => (leadQ r).getD 0 := by
      rw [List.map_map]
      refine List.map_congr_left fun r _ => ?_
      show (Kxd4.leadOf (r.map ofQ)).getD 0 = _
      rw [lead_eq]
    have e2 : ((echelonQ m).map (·.map ofQ)).map (fun r => r.getD ((Kxd4.leadOf r).getD 0) ⟨0, 1⟩) = ((echelonQ m).map fun r => r.getD ((leadQ r).getD 0) 0).map ofQ := by
      rw [List.map_map, List.map_map]
      refine List.map_congr_left fun r _ => ?_
      show (r.map ofQ).getD ((Kxd4.leadOf (r.map ofQ)).getD 0) ⟨0, 1⟩ = _
      rw [lead_eq, zero_eq, getD_ofQ]
      rfl
    rw [e1, e2, show (⟨1, 1⟩ : Kxd4.Fraction) = ofQ 1 from rfl, prod_go, ofInt_eq, times_eq]
    congr 1
    unfold prodQ
    congr 1
    split <;> rfl
def D2 (u v : Vec) : Rat := u 0 * v 1 - u 1 * v 0
def D3 (u v w : Vec) : Rat := u 0 * (v 1 * w 2 - v 2 * w 1) - u 1 * (v 0 * w 2 - v 2 * w 0) + u 2 * (v 0 * w 1 - v 1 * w 0)
theorem ech_cons (x : List Rat) (l f : List (List Rat)) : (x :: l).foldl echStep f = l.foldl echStep (echStep f x) := rfl
theorem step_none {f : List (List Rat)} {x : List Rat} (h : leadQ (reducesQ x f) = none) : echStep f x = f := by
  unfold echStep
  rw [h]
  rfl
theorem step_some {f : List (List Rat)} {x : List Rat} {k : Nat} (h : leadQ (reducesQ x f) = some k) : echStep f x = f ++ [reducesQ x f] := by
  unfold echStep
  rw [h]
  rfl
theorem step_le (f : List (List Rat)) (x : List Rat) : (echStep f x).length ≤ f.length + 1 := by
  unfold echStep
  split
  · omega
  · rw [List.length_append]; exact Nat.le_refl _
/-- a reduced row is the row less multiples -/
theorem reduce_vec {row g : List Rat} (hl : row.length = g.length) : ∃ c : Rat, ∀ j, vf (reduceQ row g) j = vf row j - c * vf g j := by
  cases q : leadQ g with
  | none => exact ⟨0, fun j => by unfold reduceQ; rw [q]; grind⟩
  | some k => exact ⟨_, fun j => vf_reduce hl q j⟩
theorem det1 {r : List Rat} (h : r.length = 1) : detQ [r] = vf r 0 := by
  show detOf (echStep [] r) 1 = _
  cases q : leadQ (reducesQ r []) with
  | none =>
    rw [step_none q, detOf_few (by simp)]
    exact (lead_none q 0).symm
  | some k =>
    rw [step_some q]
    have q : leadQ r = some k := q
    have hk := (lead_some q).2.2
    have hk0 : k = 0 := by omega
    subst hk0
    show detOf [r] 1 = _
    rw [detOf_all (by simp)]
    show (if Kxd4.inversions [(leadQ r).getD 0] % 2 = 0 then 1 else -1) * prodQ [r.getD ((leadQ r).getD 0) 0] = _
    rw [q]
    show (1 : Rat) * (1 * r.getD 0 0) = _
    unfold vf
    grind
theorem det2 {r s : List Rat} (hr : r.length = 2) (hs : s.length = 2) : detQ [r, s] = D2 (vf r) (vf s) := by
  show detOf (echStep (echStep [] r) s) 2 = _
  cases q1 : leadQ (reducesQ r []) with
  | none =>
    rw [step_none q1]
    have z : ∀ j, vf r j = 0 := lead_none q1
    rw [detOf_few (by have := step_le [] s; simp at this ⊢; omega)]
    unfold D2
    rw [z 0, z 1]
    grind
  | some k1 =>
    rw [step_some q1]
    have q1 : leadQ r = some k1 := q1
    show detOf (echStep [r] s) 2 = _
    have e2 : reducesQ s [r] = reduceQ s r := rfl
    obtain ⟨c, hc⟩ := reduce_vec (row := s) (g := r) (hs.trans hr.symm)
    cases q2 : leadQ (reducesQ s [r]) with
    | none =>
      rw [step_none q2, detOf_few (by simp)]
      rw [e2] at q2
      have z := lead_none q2
      have z0 := z 0
      have z1 := z 1
      rw [hc] at z0 z1
      unfold D2
      grind
    | some k2 =>
      rw [step_some q2, e2]
      rw [e2] at q2
      obtain ⟨a1, a2, a3⟩ := lead_some q1
      obtain ⟨b1, b2, b3⟩ := lead_some q2
      have b3 : k2 < 2 := by rw [reduce_len hs hr] at b3; exact b3
      have a3 : k1 < 2 := by omega
      have z := vf_reduce_at (row := s) (hs.trans hr.symm) q1
      have hne : k2 ≠ k1 := fun h => b1 (h ▸ z)
      have hd : D2 (vf r) (vf s) = D2 (vf r) (vf (reduceQ s r)) := by
        unfold D2
        rw [hc, hc]
        grind
      rw [hd]
      generalize reduceQ s r = t at *
      show detOf [r, t] 2 = _
      rw [detOf_all (by simp)]
      show (if Kxd4.inversions [(leadQ r).getD 0, (leadQ t).getD 0] % 2 = 0 then 1 else -1) * prodQ [r.getD ((leadQ r).getD 0) 0, t.getD ((leadQ t).getD 0) 0] = _
      rw [q1, q2]
      show (if Kxd4.inversions [k1, k2] % 2 = 0 then 1 else -1) * (1 * vf r k1 * vf t k2) = _
      unfold D2
      have c1 : k1 = 0 ∨ k1 = 1 := by omega
      have c2 : k2 = 0 ∨ k2 = 1 := by omega
      rcases c1 with rfl | rfl <;> rcases c2 with rfl | rfl
      · exact absurd rfl hne
      · rw [if_pos (by decide), z]
        grind
      · rw [if_neg (by decide), z, a2 0 (by decide)]
        grind
      · exact absurd rfl hne
theorem det3 {r s t : List Rat} (hr : r.length = 3) (hs : s.length = 3) (ht : t.length = 3) : detQ [r, s, t] = D3 (vf r) (vf s) (vf t) := by
  show detOf (echStep (echStep (echStep [] r) s) t) 3 = _
  cases q1 : leadQ (reducesQ r []) with
  | none =>
    rw [step_none q1]
    have z : ∀ j, vf r j = 0 := lead_none q1
    rw [detOf_few (by have h1 := step_le [] s; have h2 := step_le (echStep [] s) t; simp at h1 h2 ⊢; omega)]
    unfold D3
    rw [z 0, z 1, z 2]
    grind
  | some k1 =>
    rw [step_some q1]
    have q1 : leadQ r = some k1 := q1
    show detOf (echStep (echStep [r] s) t) 3 = _
    have e2 : reducesQ s [r] = reduceQ s r := rfl
    obtain ⟨c, hc⟩ := reduce_vec (row := s) (g := r) (hs.trans hr.symm)
    cases q2 : leadQ (reducesQ s [r]) with
    | none =>
      rw [step_none q2, detOf_few (by have h2 := step_le [r] t; simp at h2 ⊢; omega)]
      rw [e2] at q2
      have z := lead_none q2
      have z0 := z 0
      have z1 := z 1
      have z2 := z 2
      rw [hc] at z0 z1 z2
      have y0 : vf s 0 = c * vf r 0 := by grind
      have y1 : vf s 1 = c * vf r 1 := by grind
      have y2 : vf s 2 = c * vf r 2 := by grind
      unfold D3
      rw [y0, y1, y2]
      grind
    | some k2 =>
      rw [step_some q2, e2]
      rw [e2] at q2
      have hl2 : (reduceQ s r).length = 3 := reduce_len hs hr
      have z := vf_reduce_at (row := s) (hs.trans hr.symm) q1
      have hd : ∀ w, D3 (vf r) (vf s) w = D3 (vf r) (vf (reduceQ s r)) w := fun w => by
        unfold D3
        rw [hc, hc, hc]
        grind
      rw [hd]
      generalize reduceQ s r = s' at *
      show detOf (echStep [r, s'] t) 3 = _
      have e3 : reducesQ t [r, s'] = reduceQ (reduceQ t r) s' := rfl
      obtain ⟨c1, hc1⟩ := reduce_vec (row := t) (g := r) (ht.trans hr.symm)
      obtain ⟨c2, hc2⟩ := reduce_vec (row := reduceQ t r) (g := s') ((reduce_len ht hr).trans hl2.symm)
      have hv : ∀ j, vf (reduceQ (reduceQ t r) s') j = vf t j - c1 * vf r j - c2 * vf s' j := fun j => by rw [hc2, hc1]
      cases q3 : leadQ (reducesQ t [r, s']) with
      | none =>
        rw [step_none q3, detOf_few (by simp)]
        rw [e3] at q3
        have z3 := lead_none q3
        have z0 := z3 0
        have z1 := z3 1
        have z2 := z3 2
        rw [hv] at z0 z1 z2
        have y0 : vf t 0 = c1 * vf r 0 + c2 * vf s' 0 := by grind
        have y1 : vf t 1 = c1 * vf r 1 + c2 * vf s' 1 := by grind
        have y2 : vf t 2 = c1 * vf r 2 + c2 * vf s' 2 := by grind
        unfold D3
        rw [y0, y1, y2]
        grind
      | some k3 =>
        rw [step_some q3, e3]
        rw [e3] at q3
        have w1 : vf (reduceQ (reduceQ t r) s') k1 = 0 := reduce_keep ((reduce_len ht hr).trans hl2.symm) (vf_reduce_at (ht.trans hr.symm) q1) z
        have w2 : vf (reduceQ (reduceQ t r) s') k2 = 0 := vf_reduce_at ((reduce_len ht hr).trans hl2.symm) q2
        have hl3 : (reduceQ (reduceQ t r) s').length = 3 := reduce_len (reduce_len ht hr) hl2
        have hd2 : D3 (vf r) (vf s') (vf t) = D3 (vf r) (vf s') (vf (reduceQ (reduceQ t r) s')) := by
          unfold D3
          rw [hv, hv, hv]
          grind
        rw [hd2]
        generalize reduceQ (reduceQ t r) s' = t' at *
        obtain ⟨x1, x2, x3⟩ := lead_some q1
        obtain ⟨y1, y2, y3⟩ := lead_some q2
        obtain ⟨u1, u2, u3⟩ := lead_some q3
        have n21 : k2 ≠ k1 := fun h => y1 (h ▸ z)
        have n31 : k3 ≠ k1 := fun h => u1 (h ▸ w1)
        have n32 : k3 ≠ k2 := fun h => u1 (h ▸ w2)
        show detOf [r, s', t'] 3 = _
        rw [detOf_all (by simp)]
        show (if Kxd4.inversions [(leadQ r).getD 0, (leadQ s').getD 0, (leadQ t').getD 0] % 2 = 0 then 1 else -1) * prodQ [r.getD ((leadQ r).getD 0) 0, s'.getD ((leadQ s').getD 0) 0, t'.getD ((leadQ t').getD 0) 0] = _
        rw [q1, q2, q3]
        show (if Kxd4.inversions [k1, k2, k3] % 2 = 0 then 1 else -1) * (1 * vf r k1 * vf s' k2 * vf t' k3) = _
        unfold D3
        have d1 : k1 = 0 ∨ k1 = 1 ∨ k1 = 2 := by omega
        have d2 : k2 = 0 ∨ k2 = 1 ∨ k2 = 2 := by omega
        have d3 : k3 = 0 ∨ k3 = 1 ∨ k3 = 2 := by omega
        clear hd hd2 hv hc hc1 hc2 q1 q2 q3 e2 e3 x1 y1 u1
        rcases d1 with rfl | rfl | rfl <;> rcases d2 with rfl | rfl | rfl <;> rcases d3 with rfl | rfl | rfl <;> first
          | exact absurd rfl n21
          | exact absurd rfl n31
          | exact absurd rfl n32
          | (have a0 := x2 0; have a1 := x2 1; have b0 := y2 0; have b1 := y2 1; have g0 := u2 0; have g1 := u2 1
             simp at a0 a1 b0 b1 g0 g1
             first
               | (rw [if_pos (by decide)]; grind)
               | (rw [if_neg (by decide)]; grind))
end LF

set_option linter.all false
/-! # The stationary point -/
namespace LF
open Kxd4Neutral (fields)

theorem hess1 (a : Int) : Kxd4.hessian 1 [a] = [[(2 * a)]].map Kxd4.fractions := rfl
theorem hess2 (a b c : Int) : Kxd4.hessian 2 [a, b, c] = [[2 * a, b], [b, 2 * c]].map Kxd4.fractions := rfl
theorem hess3 (a b c d e f : Int) : Kxd4.hessian 3 [a, b, c, d, e, f] = [[2 * a, b, c], [b, 2 * d, e], [c, e, 2 * f]].map Kxd4.fractions := rfl
theorem hessM1 (a : Int) : hessianM 1 [a] = [[2 * a]] := by
  show [[0 + a + a]] = _
  rw [show 0 + a + a = 2 * a by omega]
theorem hessM2 (a b c : Int) : hessianM 2 [a, b, c] = [[2 * a, b], [b, 2 * c]] := by
  show [[0 + a + a, 0 + b], [0 + b, 0 + c + c]] = _
  rw [show 0 + a + a = 2 * a by omega, show 0 + b = b by omega, show 0 + c + c = 2 * c by omega]
theorem hessM3 (a b c d e f : Int) : hessianM 3 [a, b, c, d, e, f] = [[2 * a, b, c], [b, 2 * d, e], [c, e, 2 * f]] := by
  show [[0 + a + a, 0 + b, 0 + c], [0 + b, 0 + d + d, 0 + e], [0 + c, 0 + e, 0 + f + f]] = _
  rw [show 0 + a + a = 2 * a by omega, show 0 + b = b by omega, show 0 + c = c by omega, show 0 + d + d = 2 * d by omega, show 0 + e = e by omega, show 0 + f + f = 2 * f by omega]
/-- determinants of whole numbers -/
def d2 (a b c d : Int) : Int := a * d - b * c
def d3 (a b c d e f g h i : Int) : Int := a * (e * i - f * h) - b * (d * i - f * g) + c * (d * h - e * g)
theorem detM1 (a : Int) : detM 1 [[a]] = a := by
  show 0 + 1 * a * 1 = a
  omega
theorem detM2 (a b c d : Int) : detM 2 [[a, b], [c, d]] = d2 a b c d := by
  show 0 + 1 * a * (detM 1 [[d]]) + (0 - 1) * b * (detM 1 [[c]]) = _
  rw [detM1, detM1]
  unfold d2
  grind
theorem detM3 (a b c d e f g h i : Int) : detM 3 [[a, b, c], [d, e, f], [g, h, i]] = d3 a b c d e f g h i := by
  show 0 + 1 * a * (detM 2 [[e, f], [h, i]]) + (0 - 1) * b * (detM 2 [[d, f], [g, i]]) + (0 - (0 - 1)) * c * (detM 2 [[d, e], [g, h]]) = _
  rw [detM2, detM2, detM2]
  unfold d2 d3
  grind
theorem detF1 (a : Int) : Kxd4.determinant ([[a]].map Kxd4.fractions) = ofQ ((a : Int) : Rat) := by
  show Kxd4.determinant [Kxd4.fractions [a]] = _
  rw [fractions_eq]
  show Kxd4.determinant ([castRow [a]].map (·.map ofQ)) = _
  rw [det_eq, det1 rfl, vi_cast]
  rfl
theorem detF2 (a b c d : Int) : Kxd4.determinant ([[a, b], [c, d]].map Kxd4.fractions) = ofQ ((d2 a b c d : Int) : Rat) := by
  show Kxd4.determinant [Kxd4.fractions [a, b], Kxd4.fractions [c, d]] = _
  rw [fractions_eq, fractions_eq]
  show Kxd4.determinant ([castRow [a, b], castRow [c, d]].map (·.map ofQ)) = _
  rw [det_eq, det2 rfl rfl]
  congr 1
  unfold D2 d2
  rw [vi_cast, vi_cast, vi_cast, vi_cast]
  show (a : Rat) * (d : Rat) - (b : Rat) * (c : Rat) = _
  push_cast
  rfl
theorem detF3 (a b c d e f g h i : Int) : Kxd4.determinant ([[a, b, c], [d, e, f], [g, h, i]].map Kxd4.fractions) = ofQ ((d3 a b c d e f g h i : Int) : Rat) := by
  show Kxd4.determinant [Kxd4.fractions [a, b, c], Kxd4.fractions [d, e, f], Kxd4.fractions [g, h, i]] = _
  rw [fractions_eq, fractions_eq, fractions_eq]
  show Kxd4.determinant ([castRow [a, b, c], castRow [d, e, f], castRow [g, h, i]].map (·.map ofQ)) = _
  rw [det_eq, det3 rfl rfl rfl]
  congr 1
  unfold D3 d3
  simp only [vi_cast]
  show (a : Rat) * ((e : Rat) * (i : Rat) - (f : Rat) * (h : Rat)) - (b : Rat) * ((d : Rat) * (i : Rat) - (f : Rat) * (g : Rat)) + (c : Rat) * ((d : Rat) * (h : Rat) - (e : Rat) * (g : Rat)) = _
  push_cast
  rfl
theorem num_int (n : Int) : (ofQ ((n : Int) : Rat)).numerator = n := Rat.num_intCast n
/-- the kind, by the minors -/
def kindS (minors : List Kxd4.Fraction) : Nat :=
  if (minors.getLastD ⟨0, 1⟩).numerator = 0 then 3
  else if minors.all fun x => decide (0 < x.numerator) then 0
  else if minors.zipIdx.all fun z => if z.2 % 2 = 0 then decide (z.1.numerator < 0) else decide (0 < z.1.numerator) then 1
  else 2
theorem kindS_eq (k : Nat) (m : List (List Kxd4.Fraction)) : Kxd4.kindOf k m = kindS ((List.range k).map fun n => Kxd4.minor m (n + 1)) := rfl
def kindI (ds : List Int) : Int := if ds.all (fun x => decide (0 < x)) then 0 else if ds.zipIdx.all turned then 1 else 2
theorem kindS_int (ds : List Int) (h : ds.getLastD 0 ≠ 0) : (kindS (ds.map fun d => ofQ ((d : Int) : Rat)) : Int) = kindI ds := by
  unfold kindS kindI
  have e1 : ((ds.map fun d => ofQ ((d : Int) : Rat)).getLastD ⟨0, 1⟩).numerator = ds.getLastD 0 := by
    rcases List.eq_nil_or_concat ds with rfl | ⟨l, x, rfl⟩
    · rfl
    · rw [List.concat_eq_append, List.map_append, List.map_singleton]
      simp only [List.getLastD_concat, num_int]
  have e2 : ((ds.map fun d => ofQ ((d : Int) : Rat)).all fun x => decide (0 < x.numerator)) = ds.all fun x => decide (0 < x) := by
    rw [List.all_map]
    refine congrArg (fun p => ds.all p) (funext fun x => ?_)
    show decide (0 < (ofQ ((x : Int) : Rat)).numerator) = _
    rw [num_int]
  have e3 : ((ds.map fun d => ofQ ((d : Int) : Rat)).zipIdx.all fun z => if z.2 % 2 = 0 then decide (z.1.numerator < 0) else decide (0 < z.1.numerator)) = ds.zipIdx.all turned := by
    rw [List.zipIdx_map, List.all_map]
    refine congrArg (fun p => ds.zipIdx.all p) (funext fun z => ?_)
    unfold turned
    show (if z.2 % 2 = 0 then decide ((ofQ ((z.1 : Int) : Rat)).numerator < 0) else decide (0 < (ofQ ((z.1 : Int) : Rat)).numerator)) = _
    rw [num_int]
  rw [e1, e2, e3, if_neg h]
  split
  · rfl
  · split <;> rfl
theorem kindS_zero (ds : List Int) (h : ds.getLastD 0 = 0) : kindS (ds.map fun d => ofQ ((d : Int) : Rat)) = 3 := by
  unfold kindS
  have e1 : ((ds.map fun d => ofQ ((d : Int) : Rat)).getLastD ⟨0, 1⟩).numerator = ds.getLastD 0 := by
    rcases List.eq_nil_or_concat ds with rfl | ⟨l, x, rfl⟩
    · rfl
    · rw [List.concat_eq_append, List.map_append, List.map_singleton]
      simp only [List.getLastD_concat, num_int]
  rw [e1, if_pos h]
theorem kindI_ne3 (ds : List Int) : kindI ds ≠ 3 := by
  unfold kindI
  split
  · decide
  · split <;> decide
/-- rows with right sides -/
theorem zip_frac (t : List (List Int)) (l : List Int) : List.zipWith (fun r b => r ++ [Kxd4.negative (Kxd4.ofInt b)]) (t.map Kxd4.fractions) l = ((pointRows t l).map castRow).map (·.map ofQ) := by
  unfold pointRows
  induction t generalizing l with
  | nil => rfl
  | cons r t ih =>
    cases l with
    | nil => rfl
    | cons b l =>
      show (Kxd4.fractions r ++ [Kxd4.negative (Kxd4.ofInt b)]) :: _ = (castRow (r ++ [0 - b])).map ofQ :: _
      rw [ih]
      congr 1
      rw [fractions_eq, ofInt_eq, negative_eq]
      unfold castRow
      rw [List.map_append, List.map_append]
      show _ ++ [ofQ (-(b : Rat))] = _ ++ [ofQ ((0 - b : Int) : Rat)]
      rw [show (0 - b : Int) = -b by omega]
      push_cast
      rfl
/-- what comes behind the kind: the point and the value, where the point is told and the value is right -/
theorem stat_end {k : Nat} {c : Int} {l q : List Int} {t : List (List Int)} (hh : Kxd4.hessian k q = t.map Kxd4.fractions) (hr : ∀ r ∈ pointRows t l, r.length = k + 1) (hl : l.length = k)
    {tops : List Int} {bottom : Int} (h : solved (pointRows t l) k = some (tops, bottom))
    (hval : ∀ x : List Rat, x.length = k → (∀ j, j < k → x.getD j 0 = vi tops j / (bottom : Rat)) → Kxd4.valueAt c k l q (x.map ofQ) = ofQ ((((pairsOf l.length).zip q).foldl (fun t e => t + e.2 * tops.getD e.1.1 0 * tops.getD e.1.2 0) (c * square bottom + product l tops * bottom) : Int) / (square bottom : Int) : Rat)) :
    (Kxd4.stationary k l q).flatMap Kxd4.fields ++ Kxd4.fields (Kxd4.valueAt c k l q (Kxd4.stationary k l q)) = (tops.flatMap fun t => listP (ratio t bottom)) ++ listP (valueM c l q (tops, bottom)) := by
  obtain ⟨h1, h2⟩ := solved_bottom hr h
  have hb : bottom ≠ 0 := by omega
  have e : Kxd4.stationary k l q = (solveQ k ((pointRows t l).map castRow)).map ofQ := by
    unfold Kxd4.stationary
    rw [hh, zip_frac, solve_eq]
  have h3 : ∀ j, j < k → (solveQ k ((pointRows t l).map castRow)).getD j 0 = vi tops j / (bottom : Rat) := fun j hj => solved_spec hr h hj
  have hxl := solve_length k ((pointRows t l).map castRow)
  rw [e]
  generalize solveQ k ((pointRows t l).map castRow) = x at *
  rw [hval x hxl h3]
  have key : x.map pairQ = tops.map fun t => ratio t bottom := by
    refine List.ext_getElem? fun j => ?_
    rw [List.getElem?_map, List.getElem?_map]
    by_cases hj : j < k
    · have q := h3 j hj
      unfold vi at q
      rw [List.getD_eq_getElem?_getD, List.getElem?_eq_getElem (by omega), List.getD_eq_getElem?_getD, List.getElem?_eq_getElem (by omega)] at q
      rw [List.getElem?_eq_getElem (by omega), List.getElem?_eq_getElem (by omega)]
      show some (pairQ _) = some (ratio _ _)
      rw [ratio_eq hb]
      have q : x[j] = ((tops[j] : Int) : Rat) / (bottom : Rat) := q
      rw [q]
    · rw [List.getElem?_eq_none (by omega), List.getElem?_eq_none (by omega)]
      rfl
  have e1 : (x.map ofQ).flatMap Kxd4.fields = (x.map pairQ).flatMap listP := by
    rw [List.flatMap_map, List.flatMap_map]
    rfl
  rw [e1, key, List.flatMap_map]
  congr 1
  unfold valueM
  rw [ratio_eq (show square bottom ≠ 0 from Int.mul_ne_zero hb hb)]
  rfl
theorem of_zero {a b : Rat} (h : a * b = 0) (ha : a ≠ 0) : b = 0 := (Rat.mul_eq_zero.mp h).resolve_left ha
/-- where the determinant isn't 0 there is a point -/
theorem point1 {a l0 : Int} (hd : a ≠ 0) : ∃ f, solved (pointRows [[a]] [l0]) 1 = some f := by
  cases q : solved (pointRows [[a]] [l0]) 1 with
  | some f => exact ⟨f, rfl⟩
  | none =>
    exfalso
    obtain ⟨v, hv, v0, v1⟩ := solved_none (rows := pointRows [[a]] [l0]) (many := 1) (fun r hr => by
      have : r = [a, 0 - l0] := by simpa [pointRows] using hr
      rw [this]; rfl) q
    obtain ⟨y, hy⟩ : ∃ y : Rat, ∀ j, v j = y * vi [a, 0 - l0] j := by
      refine Span.lin (fun v => ∃ y : Rat, ∀ j, v j = y * vi [a, 0 - l0] j) ⟨0, fun j => by grind⟩ (fun c u w hu ⟨y, hy⟩ => ?_) hv
      obtain ⟨r, hr, rfl⟩ := hu
      have : r = [a, 0 - l0] := by simpa [pointRows] using hr
      rw [this]
      exact ⟨c + y, fun j => by simp only [hy]; grind⟩
    have z0 := v0 0 (by decide)
    rw [hy] at z0 v1
    have z0 : y * (a : Rat) = 0 := z0
    have hd' := castne hd
    have : y = 0 := of_zero (by rw [Rat.mul_comm]; exact z0) hd'
    rw [this] at v1
    exact v1 (by grind)
theorem point2 {a b c l0 l1 : Int} (hd : d2 a b b c ≠ 0) : ∃ f, solved (pointRows [[a, b], [b, c]] [l0, l1]) 2 = some f := by
  cases q : solved (pointRows [[a, b], [b, c]] [l0, l1]) 2 with
  | some f => exact ⟨f, rfl⟩
  | none =>
    exfalso
    have mem : ∀ r, r ∈ pointRows [[a, b], [b, c]] [l0, l1] → r = [a, b, 0 - l0] ∨ r = [b, c, 0 - l1] := fun r hr => by simpa [pointRows] using hr
    obtain ⟨v, hv, v0, v1⟩ := solved_none (rows := pointRows [[a, b], [b, c]] [l0, l1]) (many := 2) (fun r hr => by
      rcases mem r hr with rfl | rfl <;> rfl) q
    obtain ⟨y, z, hy⟩ : ∃ y z : Rat, ∀ j, v j = y * vi [a, b, 0 - l0] j + z * vi [b, c, 0 - l1] j := by
      refine Span.lin (fun v => ∃ y z : Rat, ∀ j, v j = y * vi [a, b, 0 - l0] j + z * vi [b, c, 0 - l1] j) ⟨0, 0, fun j => by grind⟩ (fun k u w hu ⟨y, z, hy⟩ => ?_) hv
      obtain ⟨r, hr, rfl⟩ := hu
      rcases mem r hr with rfl | rfl
      · exact ⟨k + y, z, fun j => by simp only [hy]; grind⟩
      · exact ⟨y, k + z, fun j => by simp only [hy]; grind⟩
    have z0 := v0 0 (by decide)
    have z1 := v0 1 (by decide)
    rw [hy] at z0 z1 v1
    have z0 : y * (a : Rat) + z * (b : Rat) = 0 := z0
    have z1 : y * (b : Rat) + z * (c : Rat) = 0 := z1
    have hd' := castne hd
    have hd' : (a : Rat) * (c : Rat) - (b : Rat) * (b : Rat) ≠ 0 := by
      unfold d2 at hd'
      push_cast at hd'
      exact hd'
    generalize (a : Rat) = A at *
    generalize (b : Rat) = B at *
    generalize (c : Rat) = C at *
    have e1 : y = 0 := of_zero (a := A * C - B * B) (by
      have : (A * C - B * B) * y = C * (y * A + z * B) - B * (y * B + z * C) := by grind
      rw [this, z0, z1]; grind) hd'
    have e2 : z = 0 := of_zero (a := A * C - B * B) (by
      have : (A * C - B * B) * z = A * (y * B + z * C) - B * (y * A + z * B) := by grind
      rw [this, z0, z1]; grind) hd'
    rw [e1, e2] at v1
    exact v1 (by grind)
theorem point3 {a b c d e f l0 l1 l2 : Int} (hd : d3 a b c b d e c e f ≠ 0) : ∃ g, solved (pointRows [[a, b, c], [b, d, e], [c, e, f]] [l0, l1, l2]) 3 = some g := by
  cases q : solved (pointRows [[a, b, c], [b, d, e], [c, e, f]] [l0, l1, l2]) 3 with
  | some f => exact ⟨f, rfl⟩
  | none =>
    exfalso
    have mem : ∀ r, r ∈ pointRows [[a, b, c], [b, d, e], [c, e, f]] [l0, l1, l2] → r = [a, b, c, 0 - l0] ∨ r = [b, d, e, 0 - l1] ∨ r = [c, e, f, 0 - l2] := fun r hr => by simpa [pointRows] using hr
    obtain ⟨v, hv, v0, v1⟩ := solved_none (rows := pointRows [[a, b, c], [b, d, e], [c, e, f]] [l0, l1, l2]) (many := 3) (fun r hr => by
      rcases mem r hr with rfl | rfl | rfl <;> rfl) q
    obtain ⟨x, y, z, hy⟩ : ∃ x y z : Rat, ∀ j, v j = x * vi [a, b, c, 0 - l0] j + y * vi [b, d, e, 0 - l1] j + z * vi [c, e, f, 0 - l2] j := by
      refine Span.lin (fun v => ∃ x y z : Rat, ∀ j, v j = x * vi [a, b, c, 0 - l0] j + y * vi [b, d, e, 0 - l1] j + z * vi [c, e, f, 0 - l2] j) ⟨0, 0, 0, fun j => by grind⟩ (fun k u w hu ⟨x, y, z, hy⟩ => ?_) hv
      obtain ⟨r, hr, rfl⟩ := hu
      rcases mem r hr with rfl | rfl | rfl
      · exact ⟨k + x, y, z, fun j => by simp only [hy]; grind⟩
      · exact ⟨x, k + y, z, fun j => by simp only [hy]; grind⟩
      · exact ⟨x, y, k + z, fun j => by simp only [hy]; grind⟩
    have z0 := v0 0 (by decide)
    have z1 := v0 1 (by decide)
    have z2 := v0 2 (by decide)
    rw [hy] at z0 z1 z2 v1
    have z0 : x * (a : Rat) + y * (b : Rat) + z * (c : Rat) = 0 := z0
    have z1 : x * (b : Rat) + y * (d : Rat) + z * (e : Rat) = 0 := z1
    have z2 : x * (c : Rat) + y * (e : Rat) + z * (f : Rat) = 0 := z2
    have hd' := castne hd
    unfold d3 at hd'
    push_cast at hd'
    generalize (a : Rat) = A at *
    generalize (b : Rat) = B at *
    generalize (c : Rat) = C at *
    generalize (d : Rat) = D at *
    generalize (e : Rat) = E at *
    generalize (f : Rat) = F at *
    have e1 : x = 0 := of_zero (by
      have : (A * (D * F - E * E) - B * (B * F - E * C) + C * (B * E - D * C)) * x = (D * F - E * E) * (x * A + y * B + z * C) - (B * F - C * E) * (x * B + y * D + z * E) + (B * E - C * D) * (x * C + y * E + z * F) := by grind
      rw [this, z0, z1, z2]; grind) hd'
    have e2 : y = 0 := of_zero (by
      have : (A * (D * F - E * E) - B * (B * F - E * C) + C * (B * E - D * C)) * y = -(B * F - C * E) * (x * A + y * B + z * C) + (A * F - C * C) * (x * B + y * D + z * E) - (A * E - B * C) * (x * C + y * E + z * F) := by grind
      rw [this, z0, z1, z2]; grind) hd'
    have e3 : z = 0 := of_zero (by
      have : (A * (D * F - E * E) - B * (B * F - E * C) + C * (B * E - D * C)) * z = (B * E - C * D) * (x * A + y * B + z * C) - (A * E - B * C) * (x * B + y * D + z * E) + (A * D - B * B) * (x * C + y * E + z * F) := by grind
      rw [this, z0, z1, z2]; grind) hd'
    rw [e1, e2, e3] at v1
    exact v1 (by grind)
/-! ## the value -/
theorem two_eq : Kxd4.ofInt 2 = ofQ 2 := rfl
theorem value_gen (c : Int) {k : Nat} {l q : List Int} {t : List (List Int)} (hh : Kxd4.hessian k q = t.map Kxd4.fractions) (x : List Rat) :
    Kxd4.valueAt c k l q (x.map ofQ) = ofQ ((c : Rat) + dotQ (castRow l) x + sumQ (List.zipWith (fun r v => v * (dotQ r x / 2)) (t.map castRow) x)) := by
  unfold Kxd4.valueAt
  simp only
  have e : Kxd4.hessian k q = (t.map castRow).map (·.map ofQ) := by
    rw [hh, List.map_map]
    exact List.map_congr_left fun r _ => fractions_eq r
  rw [e, zipWith_rows (g := fun r v => v * (dotQ r x / 2)) (fun p q => by rw [dot_eq, two_eq, over_eq, times_eq]), total_eq, fractions_eq, dot_eq, ofInt_eq, plus_eq, plus_eq]
theorem len1 {α : Type} {l : List α} (h : l.length = 1) : ∃ a, l = [a] := match l, h with | [a], _ => ⟨a, rfl⟩
theorem len2 {α : Type} {l : List α} (h : l.length = 2) : ∃ a b, l = [a, b] := match l, h with | [a, b], _ => ⟨a, b, rfl⟩
theorem len3 {α : Type} {l : List α} (h : l.length = 3) : ∃ a b c, l = [a, b, c] := match l, h with | [a, b, c], _ => ⟨a, b, c, rfl⟩
theorem len6 {α : Type} {l : List α} (h : l.length = 6) : ∃ a b c d e f, l = [a, b, c, d, e, f] := match l, h with | [a, b, c, d, e, f], _ => ⟨a, b, c, d, e, f, rfl⟩
theorem t_stat (m : Kxd4.Model) (k : Nat) (c : Int) (l q : List Int) : fields (Kxd4.query m (.stationary k c l q)) = tellStat k c l q := by
  simp only [Kxd4.query]
  unfold tellStat
  by_cases ho : offSurface k c l q
  · rw [if_pos ho, if_pos (show k = 0 ∨ 3 < k ∨ l.length ≠ k ∨ q.length ≠ k * (k + 1) / 2 ∨ (c :: l ++ q).any (fun z => !Kxd4.isResponse z) = true from ho)]
    rfl
  rw [if_neg ho, if_neg (show ¬ (k = 0 ∨ 3 < k ∨ l.length ≠ k ∨ q.length ≠ k * (k + 1) / 2 ∨ (c :: l ++ q).any (fun z => !Kxd4.isResponse z) = true) from ho)]
  unfold offSurface at ho
  rw [not_or, not_or, not_or, not_or] at ho
  obtain ⟨k0, k3, hl, hq, _⟩ := ho
  have hl : l.length = k := by omega
  have hq : q.length = k * (k + 1) / 2 := by omega
  have ck : k = 1 ∨ k = 2 ∨ k = 3 := by omega
  rcases ck with rfl | rfl | rfl
  · obtain ⟨l0, rfl⟩ := len1 hl
    obtain ⟨a, rfl⟩ := len1 (show q.length = 1 from hq)
    rw [hessM1, detM1]
    have hk : Kxd4.kindOf 1 (Kxd4.hessian 1 [a]) = kindS ([2 * a].map fun d => ofQ ((d : Int) : Rat)) := by
      rw [hess1, kindS_eq]
      show kindS [Kxd4.determinant ([[2 * a]].map Kxd4.fractions)] = _
      rw [detF1]
      rfl
    rw [hk]
    by_cases hd : 2 * a = 0
    · rw [if_pos hd, kindS_zero [2 * a] hd, if_pos rfl]
      rfl
    · rw [if_neg hd]
      have hki := kindS_int [2 * a] hd
      rw [if_neg (by have := kindI_ne3 [2 * a]; omega)]
      obtain ⟨⟨tops, bottom⟩, hs⟩ := point1 (l0 := l0) hd
      unfold pointM
      show _ = match solved (pointRows [[2 * a]] [l0]) 1 with | none => [] | some f => _
      rw [hs]
      show (kindS _ : Int) :: _ = kindM [[2 * a]] :: _
      rw [hki]
      have hm : kindM [[2 * a]] = kindI [2 * a] := by
        show kindI [detM 1 [[2 * a]]] = _
        rw [detM1]
      rw [hm]
      congr 1
      refine stat_end (hess1 a) (fun r hr => ?_) rfl hs fun x hx hj => ?_
      · have : r = [2 * a, 0 - l0] := by simpa [pointRows] using hr
        rw [this]; rfl
      · have hb : bottom ≠ 0 := by
          have := (solved_bottom (fun r hr => by
            have : r = [2 * a, 0 - l0] := by simpa [pointRows] using hr
            rw [this]; rfl) hs).1
          omega
        have ht := (solved_bottom (fun r hr => by
            have : r = [2 * a, 0 - l0] := by simpa [pointRows] using hr
            rw [this]; rfl) hs).2
        obtain ⟨t0, rfl⟩ := len1 ht
        obtain ⟨x0, rfl⟩ := len1 hx
        have hb' := castne hb
        have j0 : x0 = (t0 : Rat) / (bottom : Rat) := hj 0 (by decide)
        rw [value_gen c (hess1 a)]
        congr 1
        show (c : Rat) + (0 + (l0 : Rat) * x0) + (0 + x0 * ((0 + ((2 * a : Int) : Rat) * x0) / 2)) = ((c * square bottom + (l0 * t0 + 0) * bottom + a * t0 * t0 : Int) : Rat) / ((square bottom : Int) : Rat)
        unfold square
        rw [j0]
        push_cast
        grind
  · obtain ⟨l0, l1, rfl⟩ := len2 hl
    obtain ⟨a, b, d, rfl⟩ := len3 (show q.length = 3 from hq)
    rw [hessM2, detM2]
    have hk : Kxd4.kindOf 2 (Kxd4.hessian 2 [a, b, d]) = kindS ([2 * a, d2 (2 * a) b b (2 * d)].map fun d => ofQ ((d : Int) : Rat)) := by
      rw [hess2, kindS_eq]
      show kindS [Kxd4.determinant ([[2 * a]].map Kxd4.fractions), Kxd4.determinant ([[2 * a, b], [b, 2 * d]].map Kxd4.fractions)] = _
      rw [detF1, detF2]
      rfl
    rw [hk]
    by_cases hd : d2 (2 * a) b b (2 * d) = 0
    · rw [if_pos hd, kindS_zero [2 * a, d2 (2 * a) b b (2 * d)] hd, if_pos rfl]
      rfl
    · rw [if_neg hd]
      have hki := kindS_int [2 * a, d2 (2 * a) b b (2 * d)] hd
      rw [if_neg (by have := kindI_ne3 [2 * a, d2 (2 * a) b b (2 * d)]; omega)]
      obtain ⟨⟨tops, bottom⟩, hs⟩ := point2 (l0 := l0) (l1 := l1) hd
      unfold pointM
      show _ = match solved (pointRows [[2 * a, b], [b, 2 * d]] [l0, l1]) 2 with | none => [] | some f => _
      rw [hs]
      show (kindS _ : Int) :: _ = kindM [[2 * a, b], [b, 2 * d]] :: _
      rw [hki]
      have hm : kindM [[2 * a, b], [b, 2 * d]] = kindI [2 * a, d2 (2 * a) b b (2 * d)] := by
        show kindI [detM 1 [[2 * a]], detM 2 [[2 * a, b], [b, 2 * d]]] = _
        rw [detM1, detM2]
      rw [hm]
      congr 1
      have hrow : ∀ r ∈ pointRows [[2 * a, b], [b, 2 * d]] [l0, l1], r.length = 3 := fun r hr => by
        have : r = [2 * a, b, 0 - l0] ∨ r = [b, 2 * d, 0 - l1] := by simpa [pointRows] using hr
        rcases this with rfl | rfl <;> rfl
      refine stat_end (hess2 a b d) hrow rfl hs fun x hx hj => ?_
      have hb : bottom ≠ 0 := by
        have := (solved_bottom hrow hs).1
        omega
      obtain ⟨t0, t1, rfl⟩ := len2 (solved_bottom hrow hs).2
      obtain ⟨x0, x1, rfl⟩ := len2 hx
      have hb' := castne hb
      have j0 : x0 = (t0 : Rat) / (bottom : Rat) := hj 0 (by decide)
      have j1 : x1 = (t1 : Rat) / (bottom : Rat) := hj 1 (by decide)
      rw [value_gen c (hess2 a b d)]
      congr 1
      show (c : Rat) + (0 + (l0 : Rat) * x0 + (l1 : Rat) * x1) + (0 + x0 * ((0 + ((2 * a : Int) : Rat) * x0 + (b : Rat) * x1) / 2) + x1 * ((0 + (b : Rat) * x0 + ((2 * d : Int) : Rat) * x1) / 2))
        = ((c * square bottom + (l0 * t0 + (l1 * t1 + 0)) * bottom + a * t0 * t0 + b * t0 * t1 + d * t1 * t1 : Int) : Rat) / ((square bottom : Int) : Rat)
      unfold square
      rw [j0, j1]
      push_cast
      generalize (a : Rat) = A at *
      generalize (b : Rat) = B at *
      generalize (c : Rat) = C at *
      generalize (d : Rat) = D at *
      generalize (bottom : Rat) = Z at *
      generalize (t0 : Rat) = T0 at *
      generalize (t1 : Rat) = T1 at *
      generalize (l0 : Rat) = L0 at *
      generalize (l1 : Rat) = L1 at *
      clear hj hx hs hki hk hm hrow
      grind
  · obtain ⟨l0, l1, l2, rfl⟩ := len3 hl
    obtain ⟨a, b, e, d, f, g, rfl⟩ := len6 (show q.length = 6 from hq)
    rw [hessM3, detM3]
    have hk : Kxd4.kindOf 3 (Kxd4.hessian 3 [a, b, e, d, f, g]) = kindS ([2 * a, d2 (2 * a) b b (2 * d), d3 (2 * a) b e b (2 * d) f e f (2 * g)].map fun d => ofQ ((d : Int) : Rat)) := by
      rw [hess3, kindS_eq]
      show kindS [Kxd4.determinant ([[2 * a]].map Kxd4.fractions), Kxd4.determinant ([[2 * a, b], [b, 2 * d]].map Kxd4.fractions), Kxd4.determinant ([[2 * a, b, e], [b, 2 * d, f], [e, f, 2 * g]].map Kxd4.fractions)] = _
      rw [detF1, detF2, detF3]
      rfl
    rw [hk]
    by_cases hd : d3 (2 * a) b e b (2 * d) f e f (2 * g) = 0
    · rw [if_pos hd, kindS_zero [2 * a, d2 (2 * a) b b (2 * d), d3 (2 * a) b e b (2 * d) f e f (2 * g)] hd, if_pos rfl]
      rfl
    · rw [if_neg hd]
      have hki := kindS_int [2 * a, d2 (2 * a) b b (2 * d), d3 (2 * a) b e b (2 * d) f e f (2 * g)] hd
      rw [if_neg (by have := kindI_ne3 [2 * a, d2 (2 * a) b b (2 * d), d3 (2 * a) b e b (2 * d) f e f (2 * g)]; omega)]
      obtain ⟨⟨tops, bottom⟩, hs⟩ := point3 (l0 := l0) (l1 := l1) (l2 := l2) hd
      unfold pointM
      show _ = match solved (pointRows [[2 * a, b, e], [b, 2 * d, f], [e, f, 2 * g]] [l0, l1, l2]) 3 with | none => [] | some f => _
      rw [hs]
      show (kindS _ : Int) :: _ = kindM [[2 * a, b, e], [b, 2 * d, f], [e, f, 2 * g]] :: _
      rw [hki]
      have hm : kindM [[2 * a, b, e], [b, 2 * d, f], [e, f, 2 * g]] = kindI [2 * a, d2 (2 * a) b b (2 * d), d3 (2 * a) b e b (2 * d) f e f (2 * g)] := by
        show kindI [detM 1 [[2 * a]], detM 2 [[2 * a, b], [b, 2 * d]], detM 3 [[2 * a, b, e], [b, 2 * d, f], [e, f, 2 * g]]] = _
        rw [detM1, detM2, detM3]
      rw [hm]
      congr 1
      have hrow : ∀ r ∈ pointRows [[2 * a, b, e], [b, 2 * d, f], [e, f, 2 * g]] [l0, l1, l2], r.length = 4 := fun r hr => by
        have : r = [2 * a, b, e, 0 - l0] ∨ r = [b, 2 * d, f, 0 - l1] ∨ r = [e, f, 2 * g, 0 - l2] := by simpa [pointRows] using hr
        rcases this with rfl | rfl | rfl <;> rfl
      refine stat_end (hess3 a b e d f g) hrow rfl hs fun x hx hj => ?_
      have hb : bottom ≠ 0 := by
        have := (solved_bottom hrow hs).1
        omega
      obtain ⟨t0, t1, t2, rfl⟩ := len3 (solved_bottom hrow hs).2
      obtain ⟨x0, x1, x2, rfl⟩ := len3 hx
      have hb' := castne hb
      have j0 : x0 = (t0 : Rat) / (bottom : Rat) := hj 0 (by decide)
      have j1 : x1 = (t1 : Rat) / (bottom : Rat) := hj 1 (by decide)
      have j2 : x2 = (t2 : Rat) / (bottom : Rat) := hj 2 (by decide)
      rw [value_gen c (hess3 a b e d f g)]
      congr 1
      show (c : Rat) + (0 + (l0 : Rat) * x0 + (l1 : Rat) * x1 + (l2 : Rat) * x2) + (0 + x0 * ((0 + ((2 * a : Int) : Rat) * x0 + (b : Rat) * x1 + (e : Rat) * x2) / 2) + x1 * ((0 + (b : Rat) * x0 + ((2 * d : Int) : Rat) * x1 + (f : Rat) * x2) / 2) + x2 * ((0 + (e : Rat) * x0 + (f : Rat) * x1 + ((2 * g : Int) : Rat) * x2) / 2))
        = ((c * square bottom + (l0 * t0 + (l1 * t1 + (l2 * t2 + 0))) * bottom + a * t0 * t0 + b * t0 * t1 + e * t0 * t2 + d * t1 * t1 + f * t1 * t2 + g * t2 * t2 : Int) : Rat) / ((square bottom : Int) : Rat)
      unfold square
      rw [j0, j1, j2]
      push_cast
      generalize (a : Rat) = A at *
      generalize (b : Rat) = B at *
      generalize (c : Rat) = C at *
      generalize (d : Rat) = D at *
      generalize (e : Rat) = E at *
      generalize (f : Rat) = F at *
      generalize (g : Rat) = G at *
      generalize (bottom : Rat) = Z at *
      generalize (t0 : Rat) = T0 at *
      generalize (t1 : Rat) = T1 at *
      generalize (t2 : Rat) = T2 at *
      generalize (l0 : Rat) = L0 at *
      generalize (l1 : Rat) = L1 at *
      generalize (l2 : Rat) = L2 at *
      clear hj hx hs hki hk hm hrow
      grind
end LF

set_option linter.all false
/-! # How great the numbers become -/
namespace LF
def Bn (b : Nat) (row : List Int) : Prop := ∀ n ∈ row, n.natAbs < 2 ^ b
def BnT (b : Nat) (rows : List (List Int)) : Prop := ∀ r ∈ rows, Bn b r
theorem pow_le {a b : Nat} (h : a ≤ b) : 2 ^ a ≤ 2 ^ b := Nat.pow_le_pow_right (by decide) h
theorem Bn.mono {a b : Nat} {row : List Int} (h : Bn a row) (l : a ≤ b) : Bn b row := fun n hn => Nat.lt_of_lt_of_le (h n hn) (pow_le l)
theorem bn_mul {x y : Int} {a b : Nat} (hx : x.natAbs < 2 ^ a) (hy : y.natAbs < 2 ^ b) : (x * y).natAbs < 2 ^ (a + b) := by
  rw [Int.natAbs_mul, Nat.pow_add]
  exact Nat.mul_lt_mul'' hx hy
theorem bn_sub {x y : Int} {a : Nat} (hx : x.natAbs < 2 ^ a) (hy : y.natAbs < 2 ^ a) : (x - y).natAbs < 2 ^ (a + 1) := by
  rw [Nat.pow_succ]
  omega
theorem bn_add {x y : Int} {a : Nat} (hx : x.natAbs < 2 ^ a) (hy : y.natAbs < 2 ^ a) : (x + y).natAbs < 2 ^ (a + 1) := by
  rw [Nat.pow_succ]
  omega
theorem fdiv_le {x y : Int} (h : y ∣ x) : (x.fdiv y).natAbs ≤ x.natAbs := by
  obtain ⟨c, rfl⟩ := h
  by_cases hy : y = 0
  · subst hy
    rw [Int.zero_mul, Int.zero_fdiv]
    exact Nat.le_refl _
  · rw [Int.mul_fdiv_cancel_left _ hy, Int.natAbs_mul]
    exact Nat.le_mul_of_pos_left _ (Int.natAbs_pos.mpr hy)
theorem Bn.get {b : Nat} {row : List Int} (h : Bn b row) (j : Nat) : (row.getD j 0).natAbs < 2 ^ b := by
  rw [List.getD_eq_getElem?_getD]
  cases q : row[j]? with
  | none => exact Nat.pow_pos (by decide)
  | some x => exact h x (List.mem_of_getElem? q)
theorem lowered_bn {b : Nat} {row : List Int} (h : Bn b row) : Bn b (lowered row) := by
  unfold lowered
  split
  · exact h
  · intro n hn
    obtain ⟨x, hx, rfl⟩ := List.mem_map.mp hn
    exact Nat.lt_of_le_of_lt (fdiv_le (content_dvd hx)) (h x hx)
theorem crossed_bn {b : Nat} {row lead : List Int} {p : Nat} (h : Bn b row) (k : Bn b lead) : Bn (b + b + 1) (crossed row lead p) := by
  intro n hn
  unfold crossed at hn
  obtain ⟨i, hi, e⟩ := List.mem_iff_getElem.mp hn
  rw [List.getElem_zipWith] at e
  rw [← e]
  exact bn_sub (bn_mul (k.get p) (h _ (List.getElem_mem _))) (bn_mul (h.get p) (k _ (List.getElem_mem _)))
theorem cleared_bn {b : Nat} {row lead : List Int} {p : Nat} (h : Bn b row) (k : Bn b lead) : Bn (b + b + 1) (cleared row lead p) := by
  unfold cleared
  split
  · exact h.mono (by omega)
  · exact lowered_bn (crossed_bn h k)
/-- so many bits behind k places -/
def bits (b : Nat) : Nat → Nat
  | 0 => b
  | k + 1 => bits b k + bits b k + 1
theorem bits_le (b : Nat) : ∀ {j k : Nat}, j ≤ k → bits b j ≤ bits b k
  | j, 0, h => by
    have : j = 0 := by omega
    subst this
    exact Nat.le_refl _
  | j, k + 1, h => by
    by_cases c : j = k + 1
    · subst c; exact Nat.le_refl _
    · have := bits_le b (j := j) (k := k) (by omega)
      show bits b j ≤ bits b k + bits b k + 1
      omega
theorem bits_8 {b : Nat} (h : b ≤ 40) : ∀ k, k ≤ 8 → bits b k ≤ 10495 := fun k hk => by
  have h8 : bits b 8 ≤ 10495 := by
    show _ ≤ _
    simp only [bits]
    omega
  exact Nat.le_trans (bits_le b hk) h8
theorem leadsStep_bn {b : Nat} {s : Leads × List (List Int)} {p : Nat} (h1 : ∀ e ∈ s.1, Bn b e.2) (h2 : BnT b s.2) : (∀ e ∈ (leadsStep s p).1, Bn (b + b + 1) e.2) ∧ BnT (b + b + 1) (leadsStep s p).2 := by
  unfold leadsStep
  cases q : firstWith s.2 p with
  | none => exact ⟨fun e he => (h1 e he).mono (by omega), fun r hr => (h2 r hr).mono (by omega)⟩
  | some i =>
    obtain ⟨lead, hi, hd, _⟩ := first_some q
    have hb : Bn b lead := h2 lead (List.mem_of_getElem? hi)
    simp only [hd]
    constructor
    · intro e he
      rcases List.mem_append.mp he with he | he
      · obtain ⟨e', he', rfl⟩ := List.mem_map.mp he
        exact cleared_bn (h1 e' he') hb
      · rw [List.mem_singleton.mp he]
        exact hb.mono (by omega)
    · intro r hr
      obtain ⟨r', hr', rfl⟩ := List.mem_map.mp hr
      exact cleared_bn (h2 r' (mem_without hr')) hb
/-- behind k places -/
structure Step (b w k n : Nat) (s : Leads × List (List Int)) : Prop where
  lb : ∀ e ∈ s.1, Bn (bits b k) e.2
  rb : BnT (bits b k) s.2
  ll : ∀ e ∈ s.1, e.2.length = w
  rl : ∀ r ∈ s.2, r.length = w
  below : ∀ e ∈ s.1, e.1 < k
  few : s.1.length ≤ k
  rows : s.2.length ≤ n
theorem without_len (rows : List (List Int)) (i : Nat) : (without rows i).length ≤ rows.length := by
  unfold without
  rw [List.length_append, List.length_take, List.length_drop]
  omega
theorem Step.next {b w k n : Nat} {s : Leads × List (List Int)} (h : Step b w k n s) : Step b w (k + 1) n (leadsStep s k) := by
  obtain ⟨h1, h2⟩ := leadsStep_bn (p := k) h.lb h.rb
  refine ⟨h1, h2, ?_, ?_, ?_, ?_, ?_⟩ <;> unfold leadsStep <;> cases q : firstWith s.2 k with
  | none => first
    | exact h.ll
    | exact h.rl
    | exact fun e he => Nat.lt_succ_of_lt (h.below e he)
    | exact Nat.le_succ_of_le h.few
    | exact h.rows
  | some i =>
    obtain ⟨lead, hi, hd, _⟩ := first_some q
    have hw : lead.length = w := h.rl lead (List.mem_of_getElem? hi)
    simp only [hd]
    first
    | (intro e he
       rcases List.mem_append.mp he with he | he
       · obtain ⟨e', he', rfl⟩ := List.mem_map.mp he
         first
         | exact (cleared_len ((h.ll e' he').trans hw.symm)).trans (h.ll e' he')
         | exact Nat.lt_succ_of_lt (h.below e' he')
       · rw [List.mem_singleton.mp he]
         first
         | exact hw
         | exact Nat.lt_succ_self k)
    | (intro r hr
       obtain ⟨r', hr', rfl⟩ := List.mem_map.mp hr
       have hl := h.rl r' (mem_without hr')
       exact (cleared_len (hl.trans hw.symm)).trans hl)
    | (rw [List.length_append, List.length_map]; exact Nat.succ_le_succ h.few)
    | (rw [List.length_map]; exact Nat.le_trans (without_len ..) h.rows)
theorem step_take {b w n : Nat} {rows : List (List Int)} (hb : BnT b rows) (hw : ∀ r ∈ rows, r.length = w) (hn : rows.length ≤ n) (k : Nat) : Step b w k n (leadsOf rows k) :=
  foldl_range_inv (fun k s => Step b w k n s) leadsStep ([], rows) k ⟨fun _ h => (by cases h), hb, fun _ h => (by cases h), hw, fun _ h => (by cases h), Nat.le_refl 0, hn⟩ fun k s _ h => h.next
theorem leadsOf_succ (rows : List (List Int)) (k : Nat) : leadsOf rows (k + 1) = leadsStep (leadsOf rows k) k := by
  unfold leadsOf
  rw [List.range_succ, List.foldl_append]
  rfl
/-- the rank's run is the leads' -/
theorem rank_run (rows : List (List Int)) : ∀ k : Nat, (List.range k).foldl rankStep (0, rows) = ((leadsOf rows k).1.length, (leadsOf rows k).2)
  | 0 => rfl
  | k + 1 => by
    rw [List.range_succ, List.foldl_append, rank_run rows k, leadsOf_succ]
    show rankStep ((leadsOf rows k).1.length, (leadsOf rows k).2) k = _
    unfold rankStep leadsStep
    cases firstWith (leadsOf rows k).2 k with
    | none => rfl
    | some i => simp
theorem multiple_bn {x y : Int} {a b : Nat} (hx : x.natAbs < 2 ^ a) (hy : y.natAbs < 2 ^ b) : (multiple x y).natAbs < 2 ^ (a + b) := by
  have e : (multiple x y).natAbs = (x.fdiv (common x y) * y).natAbs := by unfold multiple absI; split <;> omega
  rw [e]
  exact bn_mul (Nat.lt_of_le_of_lt (fdiv_le (common_dvd x y).1) hx) hy
theorem bottom_bn {B : Nat} : ∀ (leads : Leads) (x : Int) (a : Nat), x.natAbs < 2 ^ a → (∀ e ∈ leads, Bn B e.2) → (leads.foldl (fun b e => multiple b (e.2.getD e.1 0)) x).natAbs < 2 ^ (a + leads.length * B)
  | [], x, a, h, _ => by simpa using h
  | e :: r, x, a, h, hb => by
    rw [List.foldl_cons]
    have := bottom_bn r (multiple x (e.2.getD e.1 0)) (a + B) (multiple_bn h ((hb e List.mem_cons_self).get _)) fun f hf => hb f (List.mem_cons_of_mem _ hf)
    rw [List.length_cons, show a + (r.length + 1) * B = a + B + r.length * B by grind]
    exact this
section
variable {b many : Nat} {rows : List (List Int)} {tops : List Int} {bottom : Int}
theorem bottomOf_bn (hb : BnT b rows) (h40 : b ≤ 40) (hm : many ≤ 8) (hw : ∀ r ∈ rows, r.length = many + 1) : (bottomOf (leadsOf rows many).1).natAbs < 2 ^ 84000 := by
  have S := step_take hb hw (Nat.le_refl _) many
  have h := bottom_bn (leadsOf rows many).1 1 1 (by decide) S.lb
  refine Nat.lt_of_lt_of_le h (pow_le ?_)
  have h8 := bits_8 h40 many hm
  have h9 := S.few
  have : (leadsOf rows many).1.length * bits b many ≤ 8 * 10495 := Nat.mul_le_mul (by omega) h8
  omega
theorem solved_bn (hb : BnT b rows) (h40 : b ≤ 40) (hm : many ≤ 8) (hw : ∀ r ∈ rows, r.length = many + 1) (h : solved rows many = some (tops, bottom)) : bottom.natAbs < 2 ^ 84000 ∧ Bn 94500 tops := by
  have S := step_take hb hw (Nat.le_refl _) many
  have E := elim_ok hw many
  obtain ⟨_, h2, h3⟩ := solved_left h
  have hbot := bottomOf_bn hb h40 hm hw
  refine ⟨by rw [h3]; exact hbot, ?_⟩
  rw [← h3] at hbot
  have T := tops_go bottom many _ (List.replicate many 0) E.nd fun e he => by rw [List.length_replicate]; exact E.below e he
  have B := bottom_go (leadsOf rows many).1 1 (by decide) fun e he => vi_ne (E.nz e he)
  have h8 := bits_8 h40 many hm
  intro n hn
  rw [h2] at hn
  unfold topsOf at hn
  obtain ⟨j, hj, e⟩ := List.mem_iff_getElem.mp hn
  have e' : (List.foldl (fun t e => t.set e.1 (e.2.getD many 0 * bottom.fdiv (e.2.getD e.1 0))) (List.replicate many 0) (leadsOf rows many).1).getD j 0 = n := by
    rw [List.getD_eq_getElem?_getD, List.getElem?_eq_getElem hj, e]
    rfl
  by_cases c : j ∈ (leadsOf rows many).1.map (·.1)
  · obtain ⟨f, hf, ef⟩ := List.mem_map.mp c
    have t := T.2.1 f hf
    rw [ef] at t
    rw [t] at e'
    rw [← e']
    have d : f.2.getD f.1 0 ∣ bottom := by rw [h3]; exact B.2.2 f hf
    rw [ef] at d
    have k1 := ((S.lb f hf).mono h8).get many
    have k2 : (bottom.fdiv (f.2.getD j 0)).natAbs < 2 ^ 84000 := Nat.lt_of_le_of_lt (fdiv_le d) hbot
    exact Nat.lt_of_lt_of_le (bn_mul k1 k2) (pow_le (by decide))
  · have t := T.2.2 j c
    rw [e', List.getD_eq_getElem?_getD, List.getElem?_replicate] at t
    rw [t]
    split <;> exact Nat.pow_pos (by decide)
end
/-! ## sums of products -/
theorem sum_bn {b : Nat} : ∀ {l : List Int} {n : Nat}, l.length ≤ 2 ^ n → Bn b l → l.sum.natAbs < 2 ^ (b + n) := by
  have go : ∀ (l : List Int), Bn b l → l ≠ [] → l.sum.natAbs < l.length * 2 ^ b := by
    intro l
    induction l with
    | nil => intro _ h; exact absurd rfl h
    | cons x l ih =>
      intro h _
      have hx := h x List.mem_cons_self
      rw [List.sum_cons, List.length_cons, Nat.succ_mul]
      by_cases hl : l = []
      · subst hl
        simp only [List.sum_nil, List.length_nil]
        omega
      · have := ih (fun n hn => h n (List.mem_cons_of_mem _ hn)) hl
        omega
  intro l n hl h
  by_cases c : l = []
  · subst c
    exact Nat.pow_pos (by decide)
  · refine Nat.lt_of_lt_of_le (go l h c) ?_
    rw [Nat.pow_add, Nat.mul_comm]
    exact Nat.mul_le_mul_left _ hl
theorem product_bn {x y : List Int} {a b n : Nat} (hx : Bn a x) (hy : Bn b y) (hl : x.length ≤ 2 ^ n) : (product x y).natAbs < 2 ^ (a + b + n) := by
  unfold product
  refine sum_bn ?_ fun z hz => ?_
  · rw [List.length_zipWith]
    omega
  · obtain ⟨i, hi, e⟩ := List.mem_iff_getElem.mp hz
    rw [List.getElem_zipWith] at e
    rw [← e]
    exact bn_mul (hx _ (List.getElem_mem _)) (hy _ (List.getElem_mem _))
theorem column_bn {b : Nat} {entries : List (List Int)} (h : BnT b entries) (p : Nat) : Bn b (column entries p) := fun n hn => by
  unfold column at hn
  obtain ⟨r, hr, rfl⟩ := List.mem_map.mp hn
  exact (h r hr).get p
theorem column_len (entries : List (List Int)) (p : Nat) : (column entries p).length = entries.length := by unfold column; rw [List.length_map]
/-- the equations of entries within 10 bits, in at most 32 rows -/
theorem augmented_bn {entries : List (List Int)} {many : Nat} {right : List Int} {b : Nat} (hc : right.length = many) (he : BnT 10 entries) (hn : entries.length ≤ 32) (hr : Bn b right) (hb : 25 ≤ b) : BnT b (augmented entries many right) := fun r hr' => by
  rw [augmented_eq hc] at hr'
  obtain ⟨i, _, rfl⟩ := List.mem_map.mp hr'
  intro n hn'
  rcases List.mem_append.mp hn' with h | h
  · obtain ⟨j, _, rfl⟩ := List.mem_map.mp h
    exact Nat.lt_of_lt_of_le (product_bn (n := 5) (column_bn he i) (column_bn he j) (by rw [column_len]; exact hn)) (pow_le hb)
  · rw [List.mem_singleton.mp h]
    exact hr.get i
theorem right_bn {entries : List (List Int)} {responses : List Int} {many : Nat} (he : BnT 10 entries) (hn : entries.length ≤ 32) (hy : Bn 20 responses) : Bn 35 (rightSides entries responses many) := fun n hn' => by
  unfold rightSides at hn'
  obtain ⟨p, _, rfl⟩ := List.mem_map.mp hn'
  exact product_bn (n := 5) (column_bn he p) hy (by rw [column_len]; exact hn)
end LF

set_option linter.all false
set_option Elab.async false
set_option maxRecDepth 100000
set_option maxHeartbeats 2000000
/-! # The walk's own layer: what a value stands for (RelS); what an expression comes to (EV); what a block gives back (BT) -/
namespace LW
open PySem PySem.Spec PyProof.Rows L2
open Evl (Ex)

/-! ## what values stand for -/
structure RelS (α : Type) where
  R : Hp → V → α → Prop
  st : ∀ {H H' : Hp} {v : V} {x : α}, Ex H H' → R H v x → R H' v x
def All2 {α : Type} (R : V → α → Prop) : List V → List α → Prop
  | [], [] => True
  | v :: vs, x :: xs => R v x ∧ All2 R vs xs
  | _, _ => False
section
variable {α β : Type} {R R' : V → α → Prop}
theorem All2.len : ∀ {vs : List V} {xs : List α}, All2 R vs xs → vs.length = xs.length
  | [], [], _ => rfl
  | _ :: _, _ :: _, h => congrArg (· + 1) (All2.len h.2)
theorem All2.get : ∀ {vs : List V} {xs : List α} {i : Nat} {x : α}, All2 R vs xs → xs[i]? = some x → ∃ v, vs[i]? = some v ∧ R v x
  | [], [], i, x, _, h => by simp at h
  | v :: vs, y :: xs, 0, x, a, h => by
    have e : y = x := Option.some.inj h
    subst e
    exact ⟨v, rfl, a.1⟩
  | v :: vs, y :: xs, i + 1, x, a, h => All2.get (vs := vs) (xs := xs) (i := i) a.2 h
theorem All2.gets : ∀ {vs : List V} {xs : List α} {i : Nat} {v : V}, All2 R vs xs → vs[i]? = some v → ∃ x, xs[i]? = some x ∧ R v x
  | [], [], i, v, _, h => by simp at h
  | w :: vs, y :: xs, 0, v, a, h => by
    have e : w = v := Option.some.inj h
    subst e
    exact ⟨y, rfl, a.1⟩
  | w :: vs, y :: xs, i + 1, v, a, h => All2.gets (vs := vs) (xs := xs) (i := i) a.2 h
theorem All2.imp (h : ∀ v x, R v x → R' v x) : ∀ {vs : List V} {xs : List α}, All2 R vs xs → All2 R' vs xs
  | [], [], _ => trivial
  | _ :: _, _ :: _, a => ⟨h _ _ a.1, All2.imp h a.2⟩
theorem All2.app : ∀ {vs ws : List V} {xs ys : List α}, All2 R vs xs → All2 R ws ys → All2 R (vs ++ ws) (xs ++ ys)
  | [], _, [], _, _, b => b
  | _ :: _, _, _ :: _, _, a, b => ⟨a.1, All2.app a.2 b⟩
theorem All2.take : ∀ {vs : List V} {xs : List α} (n : Nat), All2 R vs xs → All2 R (vs.take n) (xs.take n)
  | [], [], n, _ => by rw [List.take_nil, List.take_nil]; trivial
  | _ :: _, _ :: _, 0, _ => trivial
  | _ :: _, _ :: _, n + 1, a => ⟨a.1, All2.take n a.2⟩
theorem All2.drop : ∀ {vs : List V} {xs : List α} (n : Nat), All2 R vs xs → All2 R (vs.drop n) (xs.drop n)
  | [], [], n, _ => by rw [List.drop_nil, List.drop_nil]; trivial
  | _ :: _, _ :: _, 0, a => a
  | _ :: _, _ :: _, n + 1, a => All2.drop n a.2
theorem All2.set {v : V} {x : α} (h : R v x) : ∀ {vs : List V} {xs : List α} (n : Nat), All2 R vs xs → All2 R (vs.set n v) (xs.set n x)
  | [], [], n, _ => by rw [List.set_nil, List.set_nil]; trivial
  | _ :: _, _ :: _, 0, a => ⟨h, a.2⟩
  | _ :: _, _ :: _, n + 1, a => ⟨a.1, All2.set h n a.2⟩
theorem All2.eqI {vs : List V} {xs : List Int} : All2 (fun v i => v = V.int i) vs xs → vs = xs.map V.int := by
  intro a
  induction vs generalizing xs with
  | nil => cases xs with
    | nil => rfl
    | cons _ _ => exact a.elim
  | cons v vs ih => cases xs with
    | nil => exact a.elim
    | cons x xs => rw [a.1, ih a.2]; rfl
theorem All2.ofI : ∀ xs : List Int, All2 (fun v i => v = V.int i) (xs.map V.int) xs
  | [] => trivial
  | _ :: xs => ⟨rfl, All2.ofI xs⟩
theorem All2.eqB {vs : List V} {xs : List Bool} : All2 (fun v i => v = V.bl i) vs xs → vs = xs.map V.bl := by
  intro a
  induction vs generalizing xs with
  | nil => cases xs with
    | nil => rfl
    | cons _ _ => exact a.elim
  | cons v vs ih => cases xs with
    | nil => exact a.elim
    | cons x xs => rw [a.1, ih a.2]; rfl
end
def IntR : RelS Int := ⟨fun _ v i => v = .int i, fun _ h => h⟩
def NatR : RelS Nat := ⟨fun _ v i => v = .int (i : Int), fun _ h => h⟩
def BoolR : RelS Bool := ⟨fun _ v b => v = .bl b, fun _ h => h⟩
/-- a tracked list -/
def ListR {α : Type} (A : RelS α) : RelS (List α) := ⟨fun H v xs => ∃ a vs, v = .ref a ∧ H a = some (.lst vs) ∧ All2 (A.R H) vs xs, fun e ⟨a, vs, h1, h2, h3⟩ => ⟨a, vs, h1, e a _ h2, h3.imp fun _ _ => A.st e⟩⟩
/-- a pair -/
def PairR (K : PySem.W.Frag) {α β : Type} (A : RelS α) (B : RelS β) : RelS (α × β) :=
  ⟨fun H v p => ∃ a u w, v = .ref a ∧ SqT K H a [u, w] ∧ A.R H u p.1 ∧ B.R H w p.2, fun e ⟨a, u, w, h1, h2, h3, h4⟩ => ⟨a, u, w, h1, Evl.ex_t e h2, A.st e h3, B.st e h4⟩⟩
def OptR {α : Type} (A : RelS α) : RelS (Option α) := ⟨fun H v o => match o with
  | none => v = .non
  | some x => v ≠ .non ∧ A.R H v x, fun {H H' v o} e h => match o, h with
  | none, h => h
  | some x, h => ⟨h.1, A.st e h.2⟩⟩
abbrev RowR := ListR IntR
abbrev TabR := ListR (ListR IntR)
abbrev PrR (K : PySem.W.Frag) := PairR K IntR IntR

/-! ## what an expression comes to -/
/-- from H1, of which G is known, to H2, of which G2 is known: what was tracked but not known stays so -/
structure Ok (G H1 H2 G2 : Hp) : Prop where
  ex : Ex H1 H2
  kn : Ex G2 H2
  up : Ex G G2
  no : ∀ b, G b = none → H1 b ≠ none → G2 b = none
section
variable {G H1 H2 H3 G2 G3 : Hp} {p : Addr} {o : HO}
theorem Ok.refl (e : Ex G H1) : Ok G H1 H1 G := ⟨Ex.refl _, e, Ex.refl _, fun _ h _ => h⟩
theorem Ok.trans (a : Ok G H1 H2 G2) (b : Ok G2 H2 H3 G3) : Ok G H1 H3 G3 := ⟨a.ex.trans b.ex, b.kn, a.up.trans b.up, fun c h1 h2 => b.no c (a.no c h1 h2) fun z => by
  cases q : H1 c with
  | none => exact h2 q
  | some u => rw [a.ex c u q] at z; cases z⟩
theorem Ok.new (e : Ex G H1) (h : H1 p = none) : Ok G H1 (upd H1 p o) (upd G p o) where
  ex := Ex.new h
  kn := fun b u q => by
    by_cases c : b = p
    · rw [c, upd_same] at q ⊢; exact q
    · rw [upd_ne c] at q ⊢; exact e b u q
  up := Ex.new (Evl.fresh_back e h)
  no := fun b h1 h2 => by
    by_cases c : b = p
    · rw [c] at h2; exact absurd h h2
    · rw [upd_ne c]; exact h1
/-- only the whole heap has grown -/
theorem Ok.grow (e : Ex G H1) (e2 : Ex H1 H2) : Ok G H1 H2 G := ⟨e2, e.trans e2, Ex.refl _, fun _ h _ => h⟩
end
def EV {α : Type} (te : TE) (σ : L2.St) (H : Hp) (A : RelS α) (x : α) : Prop := ∀ G H1, Ex H G → Ex G H1 → ∀ Q : VK, (∀ v H2 G2, Ok G H1 H2 G2 → A.R G2 v x → Q v H2) → te σ H1 Q
def ET (tt : TT) (σ : L2.St) (H : Hp) (b : Bool) : Prop := ∀ G H1, Ex H G → Ex G H1 → ∀ Q : Bool → Hp → Prop, (∀ H2, Ex H1 H2 → Q b H2) → tt σ H1 Q
/-- some arguments -/
def EA (ta : TA) (σ : L2.St) (H : Hp) (P : Hp → List V → Prop) : Prop := ∀ G H1, Ex H G → Ex G H1 → ∀ Q : List V → Hp → Prop, (∀ vs H2 G2, Ok G H1 H2 G2 → P G2 vs → Q vs H2) → ta σ H1 Q
section
variable {K : PySem.W.Frag} {α β γ δ : Type} {A : RelS α} {B : RelS β} {C : RelS γ} {σ : L2.St} {H H' : Hp} {ta tb tc te : TE} {tt tu : TT} {x : α} {y : β} {z : γ}
theorem EV.mono (e : Ex H H') (h : EV te σ H A x) : EV te σ H' A x := fun G H1 a b Q q => h G H1 (e.trans a) b Q q
theorem ET.mono {b : Bool} (e : Ex H H') (h : ET tt σ H b) : ET tt σ H' b := fun G H1 a b Q q => h G H1 (e.trans a) b Q q
theorem EV.to {x' : α} (h : EV te σ H A x) (e : x = x') : EV te σ H A x' := e ▸ h
theorem ET.to {b b' : Bool} (h : ET tt σ H b) (e : b = b') : ET tt σ H b' := e ▸ h
/-- another reading of the value -/
theorem EV.as (h : EV te σ H A x) (k : ∀ v H2, Ex H H2 → A.R H2 v x → B.R H2 v y) : EV te σ H B y := fun G H1 e e1 Q q => h G H1 e e1 Q fun v H2 G2 o r => q v H2 G2 o (k v G2 (e.trans o.up) r)
theorem ev_var {i : Nat} {v : V} (h : σ[i]? = some (some v)) (r : A.R H v x) : EV (tVar i) σ H A x := fun G H1 e e1 _ q => ⟨v, h, q v H1 G (Ok.refl e1) (A.st e r)⟩
theorem ev_c {v : V} (r : A.R H v x) : EV (tC v) σ H A x := fun G H1 e e1 _ q => q v H1 G (Ok.refl e1) (A.st e r)
theorem ev_int {n : Int} : EV (tC (.int n)) σ H IntR n := ev_c (A := IntR) rfl
theorem ev_bl {b : Bool} : EV (tC (.bl b)) σ H BoolR b := ev_c (A := BoolR) rfl
/-- two operands, then what the operation asks of them -/
theorem ev_op {r : R2} (ha : EV ta σ H A x) (hb : EV tb σ H B y) (hr : ∀ G H1 u w, Ex H G → Ex G H1 → A.R G u x → B.R G w y → ∀ Q : VK, (∀ v H2 G2, Ok G H1 H2 G2 → C.R G2 v z → Q v H2) → r u w H1 Q) : EV (tOp r ta tb) σ H C z := fun G H1 e e1 Q q =>
  ha G H1 e e1 _ fun u H2 G2 o2 ru => hb G2 H2 (e.trans o2.up) o2.kn _ fun w H3 G3 o3 rw => hr G3 H3 u w ((e.trans o2.up).trans o3.up) o3.kn (A.st o3.up ru) rw Q fun v H4 G4 o4 rv => q v H4 G4 ((o2.trans o3).trans o4) rv
abbrev rAddI : R2 := rI0 fun i j => .int (i + j)
abbrev rSubI : R2 := rI0 fun i j => .int (i - j)
abbrev rMulI : R2 := rI CMulW fun i j => .int (i * j)
abbrev rModI : R2 := rI (fun _ j => j ≠ 0) fun i j => .int (i.fmod j)
abbrev rDivI : R2 := rI (fun _ j => j ≠ 0) fun i j => .int (i.fdiv j)
abbrev rLtI : R2 := rI0 fun i j => .bl (decide (i < j))
abbrev rLeI : R2 := rI0 fun i j => .bl (decide (i ≤ j))
abbrev rGtI : R2 := rI0 fun i j => .bl (decide (j < i))
abbrev rGeI : R2 := rI0 fun i j => .bl (decide (j ≤ i))
theorem ev_add {i j : Int} (ha : EV ta σ H IntR i) (hb : EV tb σ H IntR j) : EV (tOp rAddI ta tb) σ H IntR (i + j) := ev_op ha hb fun G H1 u w _ e hu hw Q q => ⟨i, j, hu, hw, q _ H1 G (Ok.refl e) rfl⟩
theorem ev_sub {i j : Int} (ha : EV ta σ H IntR i) (hb : EV tb σ H IntR j) : EV (tOp rSubI ta tb) σ H IntR (i - j) := ev_op ha hb fun G H1 u w _ e hu hw Q q => ⟨i, j, hu, hw, q _ H1 G (Ok.refl e) rfl⟩
theorem ev_mulW {i j : Int} (h : CMulW i j) (ha : EV ta σ H IntR i) (hb : EV tb σ H IntR j) : EV (tOp rMulI ta tb) σ H IntR (i * j) := ev_op ha hb fun G H1 u w _ e hu hw Q q => ⟨i, j, hu, hw, h, q _ H1 G (Ok.refl e) rfl⟩
theorem ev_mod {i j : Int} (h : j ≠ 0) (ha : EV ta σ H IntR i) (hb : EV tb σ H IntR j) : EV (tOp rModI ta tb) σ H IntR (i.fmod j) := ev_op ha hb fun G H1 u w _ e hu hw Q q => ⟨i, j, hu, hw, h, q _ H1 G (Ok.refl e) rfl⟩
theorem ev_div {i j : Int} (h : j ≠ 0) (ha : EV ta σ H IntR i) (hb : EV tb σ H IntR j) : EV (tOp rDivI ta tb) σ H IntR (i.fdiv j) := ev_op ha hb fun G H1 u w _ e hu hw Q q => ⟨i, j, hu, hw, h, q _ H1 G (Ok.refl e) rfl⟩
theorem ev_cmp {p : Int → Int → Bool} {i j : Int} (ha : EV ta σ H IntR i) (hb : EV tb σ H IntR j) : EV (tOp (rI0 fun i j => .bl (p i j)) ta tb) σ H BoolR (p i j) := ev_op ha hb fun G H1 u w _ e hu hw Q q => ⟨i, j, hu, hw, q _ H1 G (Ok.refl e) rfl⟩
theorem ev_eqI {i j : Int} (ha : EV ta σ H IntR i) (hb : EV tb σ H IntR j) : EV (tOp rEq ta tb) σ H BoolR (decide (i = j)) := ev_op ha hb fun G H1 u w _ e hu hw Q q => by
  have hu : u = .int i := hu
  have hw : w = .int j := hw
  subst hu hw
  refine ⟨rfl, q _ H1 G (Ok.refl e) ?_⟩
  show V.bl _ = V.bl _
  congr 1
  by_cases h : i = j
  · subst h; simp
  · rw [decide_eq_false h, decide_eq_false fun z => h (V.int.inj z)]
theorem ev_neI {i j : Int} (ha : EV ta σ H IntR i) (hb : EV tb σ H IntR j) : EV (tOp rNe ta tb) σ H BoolR (!decide (i = j)) := ev_op ha hb fun G H1 u w _ e hu hw Q q => by
  have hu : u = .int i := hu
  have hw : w = .int j := hw
  subst hu hw
  refine ⟨rfl, q _ H1 G (Ok.refl e) ?_⟩
  show V.bl _ = V.bl _
  congr 2
  by_cases h : i = j
  · subst h; simp
  · rw [decide_eq_false h, decide_eq_false fun z => h (V.int.inj z)]
theorem ev_neg {i : Int} (ha : EV ta σ H IntR i) : EV (tUn (rU fun i => .int (-i)) ta) σ H IntR (-i) := fun G H1 e e1 Q q => ha G H1 e e1 _ fun v H2 G2 o r => ⟨i, r, q _ H2 G2 o rfl⟩
/-- a < b < c -/
theorem ev_chain {p p' : Int → Int → Bool} {i j k : Int} (ha : EV ta σ H IntR i) (hb : EV tb σ H IntR j) (hc : EV tc σ H IntR k) :
    EV (tChain (rI0 fun i j => .bl (p i j)) (rI0 fun i j => .bl (p' i j)) ta tb tc) σ H BoolR (p i j && p' j k) := fun G H1 e e1 Q q =>
  ha G H1 e e1 _ fun u H2 G2 o2 hu => hb G2 H2 (e.trans o2.up) o2.kn _ fun w H3 G3 o3 hw => by
    refine ⟨i, j, hu, hw, p i j, rfl, ?_⟩
    cases hp : p i j with
    | false =>
      rw [if_neg Bool.false_ne_true]
      refine q _ H3 G3 (o2.trans o3) ?_
      show V.bl false = V.bl (p i j && p' j k)
      rw [hp]; rfl
    | true =>
      rw [if_pos rfl]
      refine hc G3 H3 ((e.trans o2.up).trans o3.up) o3.kn _ fun v H4 G4 o4 hv => ⟨j, k, hw, hv, q _ H4 G4 ((o2.trans o3).trans o4) ?_⟩
      show V.bl (p' j k) = V.bl (p i j && p' j k)
      rw [hp]; rfl
theorem et_test {b : Bool} (h : EV te σ H BoolR b) : ET (tTest te) σ H b := fun G H1 e e1 _ q => h G H1 e e1 _ fun v H2 G2 o r => ⟨b, r, q H2 o.ex⟩
theorem et_B {b : Bool} (h : EV te σ H BoolR b) : ET (tB te) σ H b := fun G H1 e e1 _ q => h G H1 e e1 _ fun v H2 G2 o r => ⟨b, r, q H2 o.ex⟩
theorem et_and {a b : Bool} (h1 : ET tt σ H a) (h2 : a = true → ET tu σ H b) : ET (tAnd tt tu) σ H (a && b) := fun G H1 e e1 Q q => h1 G H1 e e1 _ fun H2 e2 => by
  cases a with
  | true => exact h2 rfl G H2 e (e1.trans e2) Q fun H3 e3 => q H3 (e2.trans e3)
  | false => exact q H2 e2
theorem et_or {a b : Bool} (h1 : ET tt σ H a) (h2 : a = false → ET tu σ H b) : ET (tOr tt tu) σ H (a || b) := fun G H1 e e1 Q q => h1 G H1 e e1 _ fun H2 e2 => by
  cases a with
  | true => exact q H2 e2
  | false => exact h2 rfl G H2 e (e1.trans e2) Q fun H3 e3 => q H3 (e2.trans e3)
theorem et_not {a : Bool} (h1 : ET tt σ H a) : ET (tNot tt) σ H (!a) := fun G H1 e e1 _ q => h1 G H1 e e1 _ fun H2 e2 => q H2 e2
theorem ev_andV {a b : Bool} (h1 : EV ta σ H BoolR a) (h2 : a = true → EV tb σ H BoolR b) : EV (tAndV ta tb) σ H BoolR (a && b) := fun G H1 e e1 Q q => h1 G H1 e e1 _ fun v H2 G2 o r => ⟨a, r, by
  cases a with
  | true => exact h2 rfl G2 H2 (e.trans o.up) o.kn Q fun w H3 G3 o3 r3 => q w H3 G3 (o.trans o3) r3
  | false => exact q (.bl false) H2 G2 o rfl⟩
theorem ev_if {b : Bool} (h : ET tt σ H b) (h1 : b = true → EV ta σ H A x) (h2 : b = false → EV tb σ H A x) : EV (tIf tt ta tb) σ H A x := fun G H1 e e1 Q q => h G H1 e e1 _ fun H2 e2 => by
  cases b with
  | true => exact h1 rfl G H2 e (e1.trans e2) Q fun w H3 G3 o3 r3 => q w H3 G3 ((Ok.grow e1 e2).trans o3) r3
  | false => exact h2 rfl G H2 e (e1.trans e2) Q fun w H3 G3 o3 r3 => q w H3 G3 ((Ok.grow e1 e2).trans o3) r3
/-- is None -/
def rIsNone : R2 := fun x y H Q => y = .non ∧ Q (.bl (decide (x = .non))) H
def rNotNone : R2 := fun x y H Q => y = .non ∧ Q (.bl (!decide (x = .non))) H
theorem ev_isN {o : Option α} (ha : EV ta σ H (OptR A) o) : EV (tOp rIsNone ta (tC .non)) σ H BoolR o.isNone := fun G H1 e e1 Q q =>
  ha G H1 e e1 _ fun u H2 G2 k hu => ⟨rfl, q _ H2 G2 k (by
    show V.bl _ = V.bl _
    congr 1
    cases o with
    | none =>
      have hu : u = .non := hu
      exact decide_eq_true hu
    | some x => exact decide_eq_false hu.1)⟩
theorem ev_notN {o : Option α} (ha : EV ta σ H (OptR A) o) : EV (tOp rNotNone ta (tC .non)) σ H BoolR o.isSome := fun G H1 e e1 Q q =>
  ha G H1 e e1 _ fun u H2 G2 k hu => ⟨rfl, q _ H2 G2 k (by
    show V.bl _ = V.bl _
    congr 1
    cases o with
    | none =>
      have hu : u = .non := hu
      rw [decide_eq_true hu]; rfl
    | some x => rw [decide_eq_false hu.1]; rfl)⟩
theorem ev_none : EV (tC .non) σ H (OptR A) none := ev_c (A := OptR A) (x := none) rfl
theorem PairR.ne {H : Hp} {v : V} {p : α × β} (h : (PairR K A B).R H v p) : v ≠ .non := by
  obtain ⟨a, _, _, rfl, _⟩ := h
  exact fun z => by cases z
theorem ev_someP {p : α × β} (h : EV te σ H (PairR K A B) p) : EV te σ H (OptR (PairR K A B)) (some p) := h.as fun _ _ _ r => ⟨PairR.ne r, r⟩

/-! ### lists and pairs -/
theorem ea_nil : EA tNil σ H (fun _ vs => vs = []) := fun G H1 _ e1 _ q => q [] H1 G (Ok.refl e1) rfl
theorem ea_cons {t : TA} {P : Hp → List V → Prop} (h : EV ta σ H A x) (hr : EA t σ H P) : EA (tCons ta t) σ H (fun H2 vs => ∃ v r, vs = v :: r ∧ A.R H2 v x ∧ P H2 r) := fun G H1 e e1 _ q =>
  h G H1 e e1 _ fun v H2 G2 o2 rv => hr G2 H2 (e.trans o2.up) o2.kn _ fun vs H3 G3 o3 rr => q (v :: vs) H3 G3 (o2.trans o3) ⟨v, vs, rfl, A.st o3.up rv, rr⟩
/-- the items of a written list -/
def EL (t : TA) (σ : L2.St) (H : Hp) (A : RelS α) (xs : List α) : Prop := EA t σ H fun H2 vs => All2 (A.R H2) vs xs
theorem el_nil : EL tNil σ H A [] := fun G H1 _ e1 _ q => q [] H1 G (Ok.refl e1) trivial
theorem el_cons {t : TA} {xs : List α} (h : EV ta σ H A x) (hr : EL t σ H A xs) : EL (tCons ta t) σ H A (x :: xs) := fun G H1 e e1 _ q =>
  h G H1 e e1 _ fun v H2 G2 o2 rv => hr G2 H2 (e.trans o2.up) o2.kn _ fun vs H3 G3 o3 rr => q (v :: vs) H3 G3 (o2.trans o3) ⟨A.st o3.up rv, rr⟩
theorem ListR.mk {G : Hp} {p : Addr} {vs : List V} {xs : List α} {o : HO} (hp : G p = none) (h : All2 (A.R G) vs xs) (ho : o = .lst vs) : (ListR A).R (upd G p o) (.ref p) xs :=
  ⟨p, vs, rfl, by rw [ho]; exact upd_same, h.imp fun _ _ => A.st (Ex.new hp)⟩
theorem ev_lst {t : TA} {xs : List α} (h : EL t σ H A xs) (hl : xs.length ≤ 100000) : EV (tLst t) σ H (ListR A) xs := fun G H1 e e1 _ q =>
  h G H1 e e1 _ fun vs H2 G2 o2 rr => ⟨by rw [rr.len]; exact Evl.sz_of hl, fun p hp => q _ _ _ (o2.trans (Ok.new o2.kn hp)) (ListR.mk (Evl.fresh_back o2.kn hp) rr rfl)⟩
theorem ev_pair (ha : EV ta σ H A x) (hb : EV tb σ H B y) : EV (tTup (tCons ta (tCons tb tNil))) σ H (PairR K A B) (x, y) := fun G H1 e e1 _ q =>
  ha G H1 e e1 _ fun u H2 G2 o2 ru => hb G2 H2 (e.trans o2.up) o2.kn _ fun w H3 G3 o3 rw => ⟨by show 2 ≤ sizeLine; decide, fun p hp => q _ _ _ ((o2.trans o3).trans (Ok.new o3.kn hp))
    ⟨p, u, w, rfl, Evl.st_of upd_same, A.st (o3.up.trans (Ex.new (Evl.fresh_back o3.kn hp))) ru, B.st (Ex.new (Evl.fresh_back o3.kn hp)) rw⟩⟩
theorem ev_cat {xs ys : List α} (hl : xs.length + ys.length ≤ 100000) (ha : EV ta σ H (ListR A) xs) (hb : EV tb σ H (ListR A) ys) : EV (tOp rCat ta tb) σ H (ListR A) (xs ++ ys) := ev_op ha hb fun G H1 u w _ e ⟨a, vs, h1, h2, h3⟩ ⟨b, ws, k1, k2, k3⟩ Q q =>
  ⟨a, b, vs, ws, h1, k1, e _ _ h2, e _ _ k2, by rw [h3.len, k3.len]; exact Evl.sz_of hl, fun p hp => q _ _ _ (Ok.new e hp) (ListR.mk (Evl.fresh_back e hp) (h3.app k3) rfl)⟩
theorem ev_ix {xs : List α} {i : Int} {n : Nat} (hi : i = (n : Int)) (hx : xs[n]? = some x) (ha : EV ta σ H (ListR A) xs) (hb : EV tb σ H IntR i) : EV (tOp (rIxL K) ta tb) σ H A x := ev_op ha hb fun G H1 u w _ e ⟨a, vs, h1, h2, h3⟩ hw Q q => by
  obtain ⟨v, hv, rv⟩ := h3.get hx
  exact ⟨a, vs, i, v, h1, hw, Evl.sq_of (e _ _ h2), by rw [hi]; exact atI_nat hv, q v H1 G (Ok.refl e) rv⟩
/-- the last item -/
theorem ev_ixLast {xs : List α} (hx : xs.getLast? = some x) (ha : EV ta σ H (ListR A) xs) (hb : EV tb σ H IntR (-1)) : EV (tOp (rIxL K) ta tb) σ H A x := ev_op ha hb fun G H1 u w _ e' ⟨a, vs, h1, h2, h3⟩ hw Q q => by
  have hn : xs ≠ [] := fun z => by rw [z] at hx; cases hx
  have hl : 0 < xs.length := List.length_pos_iff.mpr hn
  rw [List.getLast?_eq_getElem?] at hx
  obtain ⟨v, hv, rv⟩ := h3.get hx
  refine ⟨a, vs, -1, v, h1, hw, Evl.sq_of (e' _ _ h2), ?_, q v H1 G (Ok.refl e') rv⟩
  have hlen := h3.len
  have e : ixN vs.length (-1) = some (vs.length - 1) := by
    unfold ixN
    rw [if_neg (by decide), if_pos (by omega)]
    congr 1
    omega
  unfold atI
  rw [e, hlen]
  exact hv
/-- a pair's items -/
theorem ev_fst {p : α × β} (ha : EV ta σ H (PairR K A B) p) : EV (tOp (rIxT K) ta (tC (.int 0))) σ H A p.1 := ev_op ha (ev_int (n := 0)) fun G H1 u w _ e ⟨a, v1, v2, h1, h2, h3, h4⟩ hw Q q =>
  ⟨a, [v1, v2], 0, v1, h1, hw, Evl.ex_t e h2, rfl, q v1 H1 G (Ok.refl e) h3⟩
theorem ev_snd {p : α × β} (ha : EV ta σ H (PairR K A B) p) : EV (tOp (rIxT K) ta (tC (.int 1))) σ H B p.2 := ev_op ha (ev_int (n := 1)) fun G H1 u w _ e ⟨a, v1, v2, h1, h2, h3, h4⟩ hw Q q =>
  ⟨a, [v1, v2], 1, v2, h1, hw, Evl.ex_t e h2, rfl, q v2 H1 G (Ok.refl e) h4⟩
/-- len -/
def rLenT (K : PySem.W.Frag) : List V → Hp → VK → Prop := fun xs H Q => ∃ p ys, xs = [.ref p] ∧ (SqL K H p ys ∨ SqT K H p ys) ∧ Q (.int ys.length) H
theorem ev_len {xs : List α} (ha : EV ta σ H (ListR A) xs) : EV (tCB (rLenT K) (tCons ta tNil)) σ H IntR (xs.length : Int) := fun G H1 e e1 Q q =>
  ha G H1 e e1 _ fun v H2 G2 o ⟨a, vs, h1, h2, h3⟩ => ⟨a, vs, by rw [h1], .inl (Evl.sq_of (o.kn _ _ h2)), q _ H2 G2 o (by show V.int _ = V.int _; rw [h3.len])⟩
/-- list(xs), list((a, b)) -/
def rListT (K : PySem.W.Frag) : List V → Hp → VK → Prop := fun xs H Q => ∃ p ys, xs = [.ref p] ∧ (SqL K H p ys ∨ SqT K H p ys) ∧ ∀ l, H l = none → Q (.ref l) (upd H l (.lst ys))
theorem ev_listL {xs : List α} (ha : EV ta σ H (ListR A) xs) : EV (tCB (rListT K) (tCons ta tNil)) σ H (ListR A) xs := fun G H1 e e1 Q q =>
  ha G H1 e e1 _ fun v H2 G2 o ⟨a, vs, h1, h2, h3⟩ => ⟨a, vs, by rw [h1], .inl (Evl.sq_of (o.kn _ _ h2)), fun l hl => q _ _ _ (o.trans (Ok.new o.kn hl)) (ListR.mk (Evl.fresh_back o.kn hl) h3 rfl)⟩
theorem ev_listP {p : α × α} (ha : EV ta σ H (PairR K A A) p) : EV (tCB (rListT K) (tCons ta tNil)) σ H (ListR A) [p.1, p.2] := fun G H1 e e1 Q q =>
  ha G H1 e e1 _ fun v H2 G2 o ⟨a, u, w, h1, h2, h3, h4⟩ => ⟨a, [u, w], by rw [h1], .inr (Evl.ex_t o.kn h2), fun l hl => q _ _ _ (o.trans (Ok.new o.kn hl)) (ListR.mk (vs := [u, w]) (xs := [p.1, p.2]) (Evl.fresh_back o.kn hl) ⟨h3, h4, trivial⟩ rfl)⟩
theorem ev_sum {xs : List Int} (ha : EV ta σ H RowR xs) : EV (tCB (rSum K) (tCons ta tNil)) σ H IntR xs.sum := fun G H1 e e1 Q q =>
  ha G H1 e e1 _ fun v H2 G2 o ⟨a, vs, h1, h2, h3⟩ => ⟨a, xs, by rw [h1], by rw [← h3.eqI]; exact Evl.sq_of (o.kn _ _ h2), q _ H2 G2 o rfl⟩
theorem ev_all {xs : List Bool} (ha : EV ta σ H (ListR BoolR) xs) : EV (tCB (rAll K) (tCons ta tNil)) σ H BoolR (xs.all id) := fun G H1 e e1 Q q =>
  ha G H1 e e1 _ fun v H2 G2 o ⟨a, vs, h1, h2, h3⟩ => ⟨a, xs, by rw [h1], by rw [← h3.eqB]; exact Evl.sq_of (o.kn _ _ h2), q _ H2 G2 o rfl⟩
theorem ev_any {xs : List Bool} (ha : EV ta σ H (ListR BoolR) xs) : EV (tCB (rAny K) (tCons ta tNil)) σ H BoolR (xs.any id) := fun G H1 e e1 Q q =>
  ha G H1 e e1 _ fun v H2 G2 o ⟨a, vs, h1, h2, h3⟩ => ⟨a, xs, by rw [h1], by rw [← h3.eqB]; exact Evl.sq_of (o.kn _ _ h2), q _ H2 G2 o rfl⟩
def rAbs : List V → Hp → VK → Prop := fun xs H Q => ∃ i, xs = [.int i] ∧ Q (.int (if i < 0 then -i else i)) H
theorem ev_abs {i : Int} (ha : EV ta σ H IntR i) : EV (tCB rAbs (tCons ta tNil)) σ H IntR (if i < 0 then -i else i) := fun G H1 e e1 Q q =>
  ha G H1 e e1 _ fun v H2 G2 o h => ⟨i, by rw [show v = .int i from h], q _ H2 G2 o rfl⟩
theorem All2.rep {R : V → α → Prop} {v : V} (hR : R v x) : ∀ k : Nat, All2 R (List.replicate k [v]).flatten (List.replicate k x)
  | 0 => trivial
  | k + 1 => ⟨hR, All2.rep hR k⟩
/-- [x] * n -/
theorem ev_rep {n : Int} {k : Nat} (hn : n = (k : Int)) (hk : k ≤ 1000) (ha : EV ta σ H (ListR A) [x]) (hb : EV tb σ H IntR n) : EV (tOp rRep ta tb) σ H (ListR A) (List.replicate k x) := ev_op ha hb fun G H1 u w _ e' ⟨a, vs, h1, h2, h3⟩ hw Q q => by
  have hlen : vs.length = 1 := h3.len
  obtain ⟨v, rfl⟩ : ∃ v, vs = [v] := match vs, hlen with | [v], _ => ⟨v, rfl⟩
  have e : n.toNat = k := by omega
  refine ⟨a, n, [v], h1, hw, e' _ _ h2, by omega, by omega, ?_, fun p hp => q _ _ _ (Ok.new e' hp) (ListR.mk (Evl.fresh_back e' hp) ?_ rfl)⟩
  · rw [e]
    show 1 * k ≤ sizeLine
    rw [Nat.one_mul]
    exact Evl.sz_of (by omega)
  · rw [e]
    exact All2.rep h3.1 k

/-! ### slices -/
theorem cut_to {vs : List V} {i : Int} {n : Nat} (hi : i = (n : Int)) : cutV vs none (some i) = vs.take n := by
  unfold cutV
  rw [HT.sIx_none, hi, HT.sIx_nat, List.drop_zero, Nat.sub_zero]
  rcases Nat.le_total n vs.length with c | c
  · rw [Nat.min_eq_left c]
  · rw [Nat.min_eq_right c, List.take_of_length_le (Nat.le_refl _), List.take_of_length_le c]
theorem cut_from {vs : List V} {i : Int} {n : Nat} (hi : i = (n : Int)) : cutV vs (some i) none = vs.drop n := by
  unfold cutV
  rw [HT.sIx_none, hi, HT.sIx_nat]
  rcases Nat.le_total n vs.length with c | c
  · rw [Nat.min_eq_left c]
    exact List.take_of_length_le (by rw [List.length_drop]; exact Nat.le_refl _)
  · rw [Nat.min_eq_right c, Nat.sub_self, List.take_zero, List.drop_of_length_le c]
theorem ev_sliceTo {xs : List α} {i : Int} {n : Nat} (hi : i = (n : Int)) (ha : EV te σ H (ListR A) xs) (hb : EV tb σ H IntR i) : EV (tSl (rSlL K) te tNoPart (tPart tb)) σ H (ListR A) (xs.take n) := fun G H1 e e1 Q q =>
  ha G H1 e e1 _ fun u H2 G2 o2 hu => hb G2 H2 (e.trans o2.up) o2.kn _ fun w H3 G3 o3 hw => by
    obtain ⟨a, vs, h1, h2, h3⟩ := (ListR A).st o3.up hu
    refine ⟨i, hw, a, vs, h1, Evl.sq_of (o3.kn _ _ h2), fun p hp => q _ _ _ ((o2.trans o3).trans (Ok.new o3.kn hp)) (ListR.mk (Evl.fresh_back o3.kn hp) (h3.take n) ?_)⟩
    rw [cut_to hi]
theorem ev_sliceFrom {xs : List α} {i : Int} {n : Nat} (hi : i = (n : Int)) (ha : EV te σ H (ListR A) xs) (hb : EV tb σ H IntR i) : EV (tSl (rSlL K) te (tPart tb) tNoPart) σ H (ListR A) (xs.drop n) := fun G H1 e e1 Q q =>
  ha G H1 e e1 _ fun u H2 G2 o2 hu => hb G2 H2 (e.trans o2.up) o2.kn _ fun w H3 G3 o3 hw => by
    obtain ⟨a, vs, h1, h2, h3⟩ := (ListR A).st o3.up hu
    refine ⟨i, hw, a, vs, h1, Evl.sq_of (o3.kn _ _ h2), fun p hp => q _ _ _ ((o2.trans o3).trans (Ok.new o3.kn hp)) (ListR.mk (Evl.fresh_back o3.kn hp) (h3.drop n) ?_)⟩
    rw [cut_from hi]
end
end LW

set_option linter.all false
set_option Elab.async false
set_option maxRecDepth 100000
set_option maxHeartbeats 2000000
/-! # Loops, comprehensions, calls -/
namespace LW
open PySem PySem.Spec PyProof.Rows L2
open Evl (Ex)

/-- all but some slots agree -/
def Agr (js : List Nat) (σ σ2 : L2.St) : Prop := σ2.length = σ.length ∧ ∀ i, i ∉ js → σ2[i]? = σ[i]?
theorem Agr.refl (js : List Nat) (σ : L2.St) : Agr js σ σ := ⟨rfl, fun _ _ => rfl⟩
theorem Agr.trans {js : List Nat} {σ σ1 σ2 : L2.St} (a : Agr js σ σ1) (b : Agr js σ1 σ2) : Agr js σ σ2 := ⟨b.1.trans a.1, fun i h => (b.2 i h).trans (a.2 i h)⟩
theorem Agr.sub {js ks : List Nat} {σ σ1 : L2.St} (a : Agr js σ σ1) (h : ∀ j ∈ js, j ∈ ks) : Agr ks σ σ1 := ⟨a.1, fun i hi => a.2 i fun z => hi (h i z)⟩
theorem Agr.set {js : List Nat} {σ : L2.St} {k : Nat} {v : Option V} (h : k ∈ js) : Agr js σ (σ.set k v) := ⟨List.length_set .., fun i hi => List.getElem?_set_ne fun z => hi (by rw [← z]; exact h)⟩
theorem wipe_get {σ : L2.St} {i : Nat} : ∀ {vs : List Nat}, i ∉ vs → (wipe σ vs)[i]? = σ[i]?
  | [], _ => rfl
  | v :: vs, h => by
    unfold wipe
    rw [List.mem_cons, not_or] at h
    rw [List.getElem?_set_ne (Ne.symm h.1), wipe_get h.2]
theorem wipe_at {σ : L2.St} {i : Nat} : ∀ {vs : List Nat}, i ∈ vs → i < σ.length → (wipe σ vs)[i]? = some none
  | v :: vs, h, hl => by
    unfold wipe
    by_cases c : v = i
    · subst c
      rw [List.getElem?_set_self (by rw [wipe_length]; exact hl)]
    · rw [List.getElem?_set_ne c]
      exact wipe_at ((List.mem_cons.mp h).resolve_left fun z => c z.symm) hl
theorem wipe_agr {σ σ2 : L2.St} {vs : List Nat} (h : Agr vs (wipe σ vs) σ2) : wipe σ2 vs = wipe σ vs := by
  have hl : σ2.length = σ.length := h.1.trans (wipe_length σ vs)
  refine List.ext_getElem? fun i => ?_
  by_cases c : i ∈ vs
  · by_cases d : i < σ.length
    · rw [wipe_at c d, wipe_at c (by omega)]
    · rw [List.getElem?_eq_none (by rw [wipe_length]; omega), List.getElem?_eq_none (by rw [wipe_length]; omega)]
  · rw [wipe_get c, h.2 i c]

/-- the slots are there -/
def inb (vs : List Nat) (σ : L2.St) : Bool := vs.all fun j => decide (j < σ.length)
theorem inb_of {vs : List Nat} {σ : L2.St} (h : inb vs σ = true) : ∀ j ∈ vs, j < σ.length := fun j hj => of_decide_eq_true (List.all_eq_true.mp h j hj)

/-! ## targets -/
/-- a target's stores: js are its slots, F what they hold then -/
def Tg {ζ : Type} (g : TG) (Z : RelS ζ) (js : List Nat) (F : Hp → L2.St → ζ → Prop) : Prop :=
  ∀ G x z, Z.R G x z → ∀ σ : L2.St, (∀ j ∈ js, j < σ.length) → ∃ σ2, (∀ H Q, Ex G H → Q σ2 H → g x σ H Q) ∧ Agr js σ σ2 ∧ F G σ2 z
/-- slot j holds x -/
def At {α : Type} (A : RelS α) (j : Nat) : Hp → L2.St → α → Prop := fun G σ x => ∃ v, σ[j]? = some (some v) ∧ A.R G v x
section
variable {K : PySem.W.Frag} {α β γ ζ : Type} {A : RelS α} {B : RelS β} {C : RelS γ} {Z : RelS ζ}
theorem At.ev {σ : L2.St} {G : Hp} {j : Nat} {x : α} (h : At A j G σ x) : EV (tVar j) σ G A x := by
  obtain ⟨v, h1, h2⟩ := h
  exact ev_var h1 h2
theorem At.mono {σ : L2.St} {G G1 : Hp} {j : Nat} {x : α} (e : Ex G G1) (h : At A j G σ x) : At A j G1 σ x := by
  obtain ⟨v, h1, h2⟩ := h
  exact ⟨v, h1, A.st e h2⟩
theorem At.agr {σ σ2 : L2.St} {G : Hp} {j : Nat} {x : α} {js : List Nat} (a : Agr js σ σ2) (hj : j ∉ js) (h : At A j G σ x) : At A j G σ2 x := by
  obtain ⟨v, h1, h2⟩ := h
  exact ⟨v, (a.2 j hj).trans h1, h2⟩
theorem At.set {σ : L2.St} {G : Hp} {j : Nat} {v : V} {x : α} (hj : j < σ.length) (h : A.R G v x) : At A j G (σ.set j (some v)) x := ⟨v, List.getElem?_set_self hj, h⟩
theorem tg_name (j : Nat) : Tg (gName j) A [j] (At A j) := fun G x z r σ hl =>
  ⟨σ.set j (some x), fun H Q _ q => q, Agr.set (by simp), At.set (hl j (by simp)) r⟩
/-- a target of two -/
theorem tg_two {g1 g2 : TG} {js ks : List Nat} {F1 : Hp → L2.St → α → Prop} {F2 : Hp → L2.St → β → Prop} (T1 : Tg g1 A js F1) (T2 : Tg g2 B ks F2)
    (stay : ∀ G σ σ2 x, Agr ks σ σ2 → F1 G σ x → F1 G σ2 x) : Tg (gTup K 2 (gCons g1 (gCons g2 gNil))) (PairR K A B) (js ++ ks) (fun G σ p => F1 G σ p.1 ∧ F2 G σ p.2) := fun G x p r σ hl => by
  obtain ⟨a, u, w, rfl, h2, h3, h4⟩ := r
  obtain ⟨σ1, k1, a1, f1⟩ := T1 G u p.1 h3 σ fun j hj => hl j (List.mem_append_left _ hj)
  obtain ⟨σ2, k2, a2, f2⟩ := T2 G w p.2 h4 σ1 fun j hj => by rw [a1.1]; exact hl j (List.mem_append_right _ hj)
  refine ⟨σ2, fun H Q e q => ⟨a, [u, w], rfl, Evl.ex_t e h2, rfl, u, [w], rfl, k1 H _ e ⟨w, [], rfl, k2 H _ e ⟨rfl, q⟩⟩⟩, ?_, stay G σ1 σ2 p.1 a2 f1, f2⟩
  exact (a1.sub fun j hj => List.mem_append_left _ hj).trans (a2.sub fun j hj => List.mem_append_right _ hj)
theorem tg_pair (i j : Nat) (h : i ≠ j) : Tg (gTup K 2 (gCons (gName i) (gCons (gName j) gNil))) (PairR K A B) [i, j] (fun G σ p => At A i G σ p.1 ∧ At B j G σ p.2) :=
  tg_two (js := [i]) (ks := [j]) (tg_name i) (tg_name j) fun G σ σ2 x a f => f.agr a (by simpa using h)
theorem tg_nest (i j k : Nat) (h : i ≠ j) (hi : i ≠ k) (hj : j ≠ k) : Tg (gTup K 2 (gCons (gTup K 2 (gCons (gName i) (gCons (gName j) gNil))) (gCons (gName k) gNil))) (PairR K (PairR K A B) C) [i, j, k]
    (fun G σ p => (At A i G σ p.1.1 ∧ At B j G σ p.1.2) ∧ At C k G σ p.2) :=
  tg_two (js := [i, j]) (ks := [k]) (tg_pair i j h) (tg_name k) fun G σ σ2 x a f => ⟨f.1.agr a (by simpa using hi), f.2.agr a (by simpa using hj)⟩

/-! ## what is walked -/
def Src {ζ : Type} (wi : TI) (σ : L2.St) (H : Hp) (Z : RelS ζ) (zs : List ζ) : Prop := ∀ G H1, Ex H G → Ex G H1 → ∀ R : It → Hp → Prop,
  (∀ J H2 G2, Ok G H1 H2 G2 → (∀ i H', Ex G2 H' → i < zs.length → J.go i H') →
    (∀ i G' H' x H'', Ex G2 G' → Ex G' H' → i < zs.length → J.yld i H' x H'' → ∃ G'' z, Ok G' H' H'' G'' ∧ zs[i]? = some z ∧ Z.R G'' x z) →
    (∀ i H', Ex G2 H' → zs.length ≤ i → J.stop i H') → R J H2) → wi σ H1 R
variable {σ : L2.St} {H G : Hp} {te tl ta tb : TE}
theorem src_list {xs : List α} (h : EV tl σ H (ListR A) xs) : Src (iList K tl) σ H A xs := fun G H1 e e1 R k =>
  h G H1 e e1 _ fun v H2 G2 o ⟨a, vs, h1, h2, h3⟩ => by
    refine ⟨a, h1, ⟨vs, Evl.sq_of (o.kn _ _ h2)⟩, k (Itl K a) H2 G2 o (fun i H' e' hi => ?_) (fun i G' H' x H'' e' e'' hi y => ?_) fun i H' e' hi => ⟨vs, Evl.sq_of (e' _ _ h2), by rw [h3.len]; exact hi⟩⟩
    · exact ⟨vs, vs[i]'(by rw [h3.len]; exact hi), Evl.sq_of (e' _ _ h2), List.getElem?_eq_getElem _⟩
    · obtain ⟨rfl, y⟩ := y
      obtain ⟨z, hz, rz⟩ := h3.gets (y vs (Evl.sq_of (e'' _ _ (e' _ _ h2))))
      exact ⟨G', z, Ok.refl e'', hz, A.st e' rz⟩
theorem src_zip {xs : List α} {ys : List β} (hl : xs.length = ys.length) (ha : EV ta σ H (ListR A) xs) (hb : EV tb σ H (ListR B) ys) : Src (iZip K (tCons ta (tCons tb tNil))) σ H (PairR K A B) (xs.zip ys) := fun G H1 e e1 R k =>
  ha G H1 e e1 _ fun u H2 G2 o2 r2 => hb G2 H2 (e.trans o2.up) o2.kn _ fun w H3 G3 o3 r3 => by
    obtain ⟨a, vs, rfl, h2, h3⟩ := (ListR A).st o3.up r2
    obtain ⟨b, ws, rfl, k2, k3⟩ := r3
    have lv := h3.len
    have lw := k3.len
    have lz : (xs.zip ys).length = xs.length := by rw [List.length_zip, hl, Nat.min_self]
    refine ⟨a, b, vs, ws, rfl, Evl.sq_of (o3.kn _ _ h2), Evl.sq_of (o3.kn _ _ k2), k (Itz K a b) H3 G3 (o2.trans o3) (fun i H' e' hi => ?_) (fun i G' H' x H'' e' e'' hi y => ?_) fun i H' e' hi => ?_⟩
    · exact ⟨vs, ws, vs[i]'(by omega), ws[i]'(by omega), Evl.sq_of (e' _ _ h2), Evl.sq_of (e' _ _ k2), List.getElem?_eq_getElem _, List.getElem?_eq_getElem _⟩
    · obtain ⟨T, v, w, rfl, hT, rfl, f1, f2⟩ := y
      obtain ⟨z1, hz1, rz1⟩ := h3.gets (f1 vs (Evl.sq_of (e'' _ _ (e' _ _ h2))))
      obtain ⟨z2, hz2, rz2⟩ := k3.gets (f2 ws (Evl.sq_of (e'' _ _ (e' _ _ k2))))
      have n := Evl.fresh_back e'' hT
      refine ⟨_, (z1, z2), Ok.new e'' hT, ?_, T, v, w, rfl, Evl.st_of upd_same, A.st (e'.trans (Ex.new n)) rz1, B.st (e'.trans (Ex.new n)) rz2⟩
      rw [List.getElem?_zip_eq_some]
      exact ⟨hz1, hz2⟩
    · exact ⟨vs, ws, Evl.sq_of (e' _ _ h2), Evl.sq_of (e' _ _ k2), .inl (by omega)⟩
/-- enumerate -/
def enumL (xs : List α) : List (Nat × α) := (List.range xs.length).zip xs
theorem src_enum {xs : List α} (ha : EV ta σ H (ListR A) xs) : Src (iEnum K (tCons ta tNil)) σ H (PairR K NatR A) (enumL xs) := fun G H1 e e1 R k =>
  ha G H1 e e1 _ fun v H2 G2 o ⟨a, vs, h1, h2, h3⟩ => by
    have lz : (enumL xs).length = xs.length := by unfold enumL; rw [List.length_zip, List.length_range, Nat.min_self]
    have lv := h3.len
    refine ⟨a, vs, by rw [h1], Evl.sq_of (o.kn _ _ h2), k (Ite K a) H2 G2 o (fun i H' e' hi => ?_) (fun i G' H' x H'' e' e'' hi y => ?_) fun i H' e' hi => ⟨vs, Evl.sq_of (e' _ _ h2), by omega⟩⟩
    · exact ⟨vs, vs[i]'(by omega), Evl.sq_of (e' _ _ h2), List.getElem?_eq_getElem _⟩
    · obtain ⟨T, w, rfl, hT, rfl, f⟩ := y
      obtain ⟨z, hz, rz⟩ := h3.gets (f vs (Evl.sq_of (e'' _ _ (e' _ _ h2))))
      have n := Evl.fresh_back e'' hT
      refine ⟨_, (i, z), Ok.new e'' hT, ?_, T, .int (i : Nat), w, rfl, Evl.st_of upd_same, rfl, A.st (e'.trans (Ex.new n)) rz⟩
      unfold enumL
      rw [List.getElem?_zip_eq_some]
      exact ⟨List.getElem?_range (by omega), hz⟩
theorem src_rng1 {n : Int} {k : Nat} (hn : n = (k : Int)) (hk : k ≤ 100000) (ha : EV ta σ H IntR n) : Src (iRng1 (tCons ta tNil)) σ H NatR (List.range k) := fun G H1 e e1 R kk =>
  ha G H1 e e1 _ fun v H2 G2 o r => by
    have r : v = .int n := r
    have hk' : n.toNat = k := by omega
    refine ⟨n, by rw [r], by omega, by omega, kk (Itr 0 n.toNat) H2 G2 o (fun i H' _ hi => ?_) (fun i G' H' x H'' _ e'' hi y => ?_) fun i H' _ hi => ?_⟩
    · show i < n.toNat
      rw [List.length_range] at hi
      omega
    · obtain ⟨rfl, rfl⟩ := y
      rw [List.length_range] at hi
      refine ⟨G', i, Ok.refl e'', List.getElem?_range hi, ?_⟩
      show V.int (0 + (i : Int)) = V.int (i : Int)
      rw [Int.zero_add]
    · show n.toNat ≤ i
      rw [List.length_range] at hi
      omega
theorem src_rng2 {a b : Int} {lo hi : Nat} (h1 : a = (lo : Int)) (h2 : b = (hi : Int)) (hl : hi ≤ 100000) (hlo : lo ≤ 100000) (ha : EV ta σ H IntR a) (hb : EV tb σ H IntR b) : Src (iRng2 (tCons ta (tCons tb tNil))) σ H NatR (List.range' lo (hi - lo)) := fun G H1 e e1 R kk =>
  ha G H1 e e1 _ fun u H2 G2 o2 ru => hb G2 H2 (e.trans o2.up) o2.kn _ fun w H3 G3 o3 rw' => by
    have ru : u = .int a := ru
    have rw' : w = .int b := rw'
    have hk' : (b - a).toNat = hi - lo := by omega
    refine ⟨a, b, by rw [ru, rw'], by omega, kk (Itr a (b - a).toNat) H3 G3 (o2.trans o3) (fun i H' _ hi' => ?_) (fun i G' H' x H'' _ e'' hi' y => ?_) fun i H' _ hi' => ?_⟩
    · show i < (b - a).toNat
      rw [List.length_range'] at hi'
      omega
    · obtain ⟨rfl, rfl⟩ := y
      rw [List.length_range'] at hi'
      refine ⟨G', lo + i, Ok.refl e'', ?_, ?_⟩
      · rw [List.getElem?_range' hi']
        congr 1
        omega
      · show V.int (a + (i : Int)) = V.int ((lo + i : Nat) : Int)
        congr 1
        omega
    · show (b - a).toNat ≤ i
      rw [List.length_range'] at hi'
      omega

/-! ## comprehensions -/
theorem Ok.mut {G H1 H2 G2 : Hp} {D : Addr} {o : HO} (a : Ok G H1 H2 G2) (h1 : H1 D = none) (h2 : G2 D = none) : Ok G H1 (upd H2 D o) G2 where
  ex := Ex.mut a.ex h1
  kn := Ex.mut a.kn h2
  up := a.up
  no := a.no
theorem et_yes : ET tYes σ H true := fun _ H1 _ _ _ q => q H1 (Ex.refl H1)
theorem take_next {l : List α} {i : Nat} {x : α} (h : l[i]? = some x) : l.take (i + 1) = l.take i ++ [x] := by
  rw [List.take_add_one, h]
  rfl
theorem ev_lcF {wi : TI} {g : TG} {tt : TT} {vs : List Nat} {zs : List ζ} {F : Hp → L2.St → ζ → Prop} (p : ζ → Bool) (f : ζ → β) (S : Src wi σ H Z zs) (T : Tg g Z vs F) (hv0 : inb vs σ = true) (hz : zs.length ≤ 100000)
    (body : ∀ (i : Nat) (z : ζ) (G1 : Hp) (σ2 : L2.St), zs[i]? = some z → Ex H G1 → Agr vs σ σ2 → F G1 σ2 z → ET tt σ2 G1 (p z) ∧ (p z = true → EV te σ2 G1 B (f z))) : EV (tLc wi g tt te vs) σ H (ListR B) ((zs.filter p).map f) := fun G H1 e e1 Q q =>
  S G H1 e e1 _ fun J H2 G2 o go yld stop D hD => by
    have hv := inb_of hv0
    have nD := Evl.fresh_back o.kn hD
    have o0 : Ok G H1 (upd H2 D (.lst [])) G2 := o.mut (Evl.fresh_back o.ex hD) nD
    refine ⟨fun i m H' => m = zs.length - i ∧ i ≤ zs.length ∧ ∃ G' acc, Ok G2 H2 H' G' ∧ G' D = none ∧ H' D = some (.lst acc) ∧ All2 (B.R G') acc (((zs.take i).filter p).map f),
      ⟨zs.length, rfl, Nat.zero_le _, G2, [], ⟨Ex.new hD, Ex.mut o.kn nD, Ex.refl _, fun _ h _ => h⟩, nD, upd_same, trivial⟩, ?_⟩
    rintro i m H' ⟨rfl, hi, G', acc, o', nD', hD', ha⟩
    by_cases hlt : i < zs.length
    · refine .inr ⟨go i H' (o'.up.trans o'.kn) hlt, fun H'' => i + 1 ≤ zs.length ∧ ∃ G'' acc', Ok G2 H2 H'' G'' ∧ G'' D = none ∧ H'' D = some (.lst acc') ∧ All2 (B.R G'') acc' (((zs.take (i + 1)).filter p).map f),
        fun H'' ⟨h1, h2⟩ => ⟨zs.length - (i + 1), by omega, rfl, h1, h2⟩, fun x H'' y => ?_⟩
      obtain ⟨G'', z, o2, hz', rz⟩ := yld i G' H' x H'' o'.up o'.kn hlt y
      obtain ⟨σ2, k, a, fz⟩ := T G'' x z rz (wipe σ vs) fun j hj => by rw [wipe_length]; exact hv j hj
      have a' : Agr vs σ σ2 := ⟨a.1.trans (wipe_length _ _), fun i hi => (a.2 i hi).trans (wipe_get hi)⟩
      obtain ⟨bt, bv⟩ := body i z G'' σ2 hz' (((e.trans o.up).trans o'.up).trans o2.up) a' fz
      refine k H'' _ o2.kn ⟨wipe_agr a, bt G'' H'' (Ex.refl _) o2.kn _ fun H3 e3 => ?_⟩
      have nD2 : G'' D = none := o2.no D nD' (by rw [hD']; exact fun z => by cases z)
      have hD2 : H3 D = some (.lst acc) := e3 _ _ (o2.ex _ _ hD')
      cases hp : p z with
      | false =>
        rw [if_neg Bool.false_ne_true]
        have o3 : Ok G2 H2 H3 G'' := (o'.trans o2).trans (Ok.grow o2.kn e3)
        refine ⟨hlt, G'', acc, o3, nD2, hD2, ?_⟩
        rw [take_next hz', List.filter_append, List.filter_cons, if_neg (by rw [hp]; exact Bool.false_ne_true), List.filter_nil, List.append_nil]
        exact ha.imp fun _ _ => B.st o2.up
      | true =>
        rw [if_pos rfl]
        refine bv hp G'' H3 (Ex.refl _) (o2.kn.trans e3) _ fun w H4 G4 o4 rw' => ⟨acc, o4.ex _ _ hD2, ?_, hlt, G4, acc ++ [w], ?_, ?_, upd_same, ?_⟩
        · have hle := ha.len
          rw [List.length_map] at hle
          have := List.length_filter_le p (zs.take i)
          rw [List.length_take] at this
          exact Evl.sz_lt (by omega)
        · refine (((o'.trans o2).trans (Ok.grow o2.kn e3)).trans o4).mut hD ?_
          exact o4.no D nD2 (by rw [hD2]; exact fun z => by cases z)
        · exact o4.no D nD2 (by rw [hD2]; exact fun z => by cases z)
        · rw [take_next hz', List.filter_append, List.filter_cons, if_pos hp, List.filter_nil, List.map_append]
          exact (ha.imp fun _ _ => B.st (o2.up.trans o4.up)).app ⟨rw', trivial⟩
    · have ei : i = zs.length := by omega
      subst ei
      refine .inl ⟨stop _ H' (o'.up.trans o'.kn) (Nat.le_refl _), ?_⟩
      rw [List.take_length] at ha
      refine q (.ref D) H' (upd G' D (.lst acc)) ?_ (ListR.mk nD' ha rfl)
      refine ⟨o.ex.trans o'.ex, fun b u hb => ?_, (o.up.trans o'.up).trans (Ex.new nD'), fun b h1 h2 => ?_⟩
      · by_cases c : b = D
        · rw [c, upd_same] at hb; rw [c, hD']; exact hb
        · rw [upd_ne c] at hb; exact o'.kn b u hb
      · have c : b ≠ D := fun z => h2 (by rw [z]; exact Evl.fresh_back o.ex hD)
        rw [upd_ne c]
        exact (o.trans o').no b h1 h2
theorem ev_lc {wi : TI} {g : TG} {vs : List Nat} {zs : List ζ} {F : Hp → L2.St → ζ → Prop} (f : ζ → β) (S : Src wi σ H Z zs) (T : Tg g Z vs F) (hv0 : inb vs σ = true) (hz : zs.length ≤ 100000)
    (body : ∀ (i : Nat) (z : ζ) (G1 : Hp) (σ2 : L2.St), zs[i]? = some z → Ex H G1 → Agr vs σ σ2 → F G1 σ2 z → EV te σ2 G1 B (f z)) : EV (tLc wi g tYes te vs) σ H (ListR B) (zs.map f) := by
  have h := ev_lcF (tt := tYes) (fun _ => true) f S T hv0 hz fun i z G1 σ2 h1 h2 h3 h4 => ⟨et_yes, fun _ => body i z G1 σ2 h1 h2 h3 h4⟩
  rw [List.filter_eq_self.mpr fun _ _ => rfl] at h
  exact h

/-! ## statements -/
variable {D : Ends} {ts tz tu tw : TS} {tt : TT} {x : α} {y : β} {H0 G0 : Hp}
theorem st_ret (e : Ex G H) (h : EV te σ G A x) (k : ∀ u H2 G2, Ok G H H2 G2 → A.R G2 u x → D.rt u H2) : tRet te D σ H := h G H (Ex.refl _) e _ k
theorem st_set {i : Nat} (e : Ex G H) (h : EV te σ G A x) (k : ∀ v H2 G2, Ok G H H2 G2 → A.R G2 v x → tz D (σ.set i (some v)) H2) : tSeq (tAsg te (gName i)) tz D σ H := h G H (Ex.refl _) e _ k
theorem st_setL {i : Nat} (e : Ex G H) (h : EV te σ G A x) (k : ∀ v H2 G2, Ok G H H2 G2 → A.R G2 v x → D.nx (σ.set i (some v)) H2) : tAsg te (gName i) D σ H := h G H (Ex.refl _) e _ k
theorem st_if {b : Bool} (e : Ex G H) (h : ET tt σ G b) (h1 : b = true → ∀ H2, Ex H H2 → tu D σ H2) (h2 : b = false → ∀ H2, Ex H H2 → tw D σ H2) : tIfS tt tu tw D σ H := h G H (Ex.refl _) e _ fun H2 e2 => by
  cases b with
  | true => exact h1 rfl H2 e2
  | false => exact h2 rfl H2 e2
/-- an if with a suite, then the rest -/
theorem st_when {b : Bool} (e : Ex G H) (h : ET tt σ G b) (h1 : b = true → ∀ H2, Ex H H2 → tu { D with nx := tz D } σ H2) (h2 : b = false → ∀ H2, Ex H H2 → tz D σ H2) : tSeq (tIfS tt tu tNext) tz D σ H :=
  st_if (D := { D with nx := tz D }) e h h1 h2
/-- several targets -/
theorem st_unp {g : TG} {js : List Nat} {F : Hp → L2.St → α → Prop} (e : Ex G H) (T : Tg g A js F) (hj0 : inb js σ = true) (h : EV te σ G A x)
    (k : ∀ σ2 H2 G2, Ok G H H2 G2 → Agr js σ σ2 → F G2 σ2 x → tz D σ2 H2) : tSeq (tAsg te g) tz D σ H := h G H (Ex.refl _) e _ fun v H2 G2 o r => by
  obtain ⟨σ2, kk, a, f⟩ := T G2 v x r σ (inb_of hj0)
  exact kk H2 _ o.kn (k σ2 H2 G2 o a f)
/-- a list that may change: not known, but there -/
structure Mu (G H : Hp) (p : Addr) (A : RelS α) (xs : List α) : Prop where
  ex : ∃ vs, H p = some (.lst vs) ∧ All2 (A.R G) vs xs
  no : G p = none
theorem Mu.ok {G H H2 G2 : Hp} {p : Addr} {xs : List α} (o : Ok G H H2 G2) (m : Mu G H p A xs) : Mu G2 H2 p A xs := by
  obtain ⟨⟨vs, h1, h2⟩, h3⟩ := m
  exact ⟨⟨vs, o.ex _ _ h1, h2.imp fun _ _ => A.st o.up⟩, o.no p h3 (by rw [h1]; exact fun z => by cases z)⟩
/-- .. is known from here on -/
theorem Mu.know {G0 H0 G H : Hp} {p : Addr} {xs : List α} (o : Ok G0 H0 H G) (m : Mu G H p A xs) (h0 : H0 p = none) : ∃ G2, Ok G0 H0 H G2 ∧ Ex G G2 ∧ (ListR A).R G2 (.ref p) xs := by
  obtain ⟨⟨vs, h1, h2⟩, h3⟩ := m
  refine ⟨upd G p (.lst vs), ⟨o.ex, fun b u hb => ?_, o.up.trans (Ex.new h3), fun b h4 h5 => ?_⟩, Ex.new h3, ListR.mk h3 h2 rfl⟩
  · by_cases c : b = p
    · rw [c, upd_same] at hb; rw [c, h1]; exact hb
    · rw [upd_ne c] at hb; exact o.kn b u hb
  · have c : b ≠ p := fun z => h5 (by rw [z]; exact h0)
    rw [upd_ne c]
    exact o.no b h4 h5
/-- name = [..], to be changed -/
theorem st_new {i : Nat} {t : TA} {xs : List α} (e : Ex G H) (h : EL t σ G A xs) (hl : xs.length ≤ 100000)
    (k : ∀ p H2 G2, Ok G H H2 G2 → H p = none → Mu G2 H2 p A xs → tz D (σ.set i (some (.ref p))) H2) : tSeq (tAsg (tLst t) (gName i)) tz D σ H :=
  h G H (Ex.refl _) e _ fun vs H2 G2 o r => ⟨by rw [r.len]; exact Evl.sz_of hl, fun p hp => by
    have n := Evl.fresh_back o.kn hp
    exact k p _ G2 (o.mut (Evl.fresh_back o.ex hp) n) (Evl.fresh_back o.ex hp) ⟨⟨vs, upd_same, r⟩, n⟩⟩
/-- any new list, taken to be changed -/
def EN {α : Type} (te : TE) (σ : L2.St) (H : Hp) (A : RelS α) (xs : List α) : Prop := ∀ G H1, Ex H G → Ex G H1 → ∀ Q : VK, (∀ p H2 G2, Ok G H1 H2 G2 → H1 p = none → Mu G2 H2 p A xs → Q (.ref p) H2) → te σ H1 Q
theorem st_newE {i : Nat} {xs : List α} (e : Ex G H) (h : EN te σ G A xs) (k : ∀ p H2 G2, Ok G H H2 G2 → H p = none → Mu G2 H2 p A xs → tz D (σ.set i (some (.ref p))) H2) : tSeq (tAsg te (gName i)) tz D σ H :=
  h G H (Ex.refl _) e _ k
theorem en_rep {n : Int} {k : Nat} (hn : n = (k : Int)) (hk : k ≤ 1000) (ha : EV ta σ H (ListR A) [x]) (hb : EV tb σ H IntR n) : EN (tOp rRep ta tb) σ H A (List.replicate k x) := fun G H1 e e1 Q q =>
  ha G H1 e e1 _ fun u H2 G2 o2 r2 => hb G2 H2 (e.trans o2.up) o2.kn _ fun w H3 G3 o3 hw => by
    obtain ⟨a, vs, h1, h2, h3⟩ := (ListR A).st o3.up r2
    have hlen : vs.length = 1 := h3.len
    obtain ⟨v, rfl⟩ : ∃ v, vs = [v] := match vs, hlen with | [v], _ => ⟨v, rfl⟩
    have en : n.toNat = k := by omega
    refine ⟨a, n, [v], h1, hw, o3.kn _ _ h2, by omega, by omega, ?_, fun p hp => ?_⟩
    · rw [en]
      show 1 * k ≤ sizeLine
      rw [Nat.one_mul]
      exact Evl.sz_of (by omega)
    · have o := o2.trans o3
      have nn := Evl.fresh_back o3.kn hp
      refine q p _ G3 (o.mut (Evl.fresh_back o.ex hp) nn) (Evl.fresh_back o.ex hp) ⟨⟨_, upd_same, ?_⟩, nn⟩
      rw [en]
      exact All2.rep h3.1 k
/-- found.extend(..) -/
theorem st_ext {i : Nat} {p : Addr} {xs ys : List α} (o : Ok G0 H0 H G) (h0 : H0 p = none) (m : Mu G H p A xs) (hi : σ[i]? = some (some (.ref p))) (h : EV te σ G (ListR A) ys) (hl : xs.length + ys.length ≤ 100000)
    (k : ∀ H2 G2, Ok G0 H0 H2 G2 → Ex G G2 → (∀ b u, b ≠ p → H b = some u → H2 b = some u) → (∀ b, G b = none → H b ≠ none → G2 b = none) → Mu G2 H2 p A (xs ++ ys) → D.nx σ H2) : tDrop (tBM K "list" rExtend (tVar i) (tCons te tNil)) D σ H := by
  obtain ⟨⟨vs, h1, h2⟩, h3⟩ := m
  refine ⟨.ref p, hi, .inl ⟨rfl, vs, Evl.sq_of h1⟩, h G H (Ex.refl _) o.kn _ fun w H2 G2 o2 ⟨b, ws, k1, k2, k3⟩ => ?_⟩
  have n2 : G2 p = none := o2.no p h3 (by rw [h1]; exact fun z => by cases z)
  refine ⟨p, b, vs, ws, rfl, by rw [k1], o2.ex _ _ h1, o2.kn _ _ k2, by rw [h2.len, k3.len]; exact Evl.sz_of hl, ?_⟩
  refine k _ G2 ((o.trans o2).mut h0 n2) o2.up (fun b u hb hu => by rw [upd_ne hb]; exact o2.ex _ _ hu) o2.no ⟨⟨_, upd_same, (h2.imp fun _ _ => A.st o2.up).app k3⟩, n2⟩
/-- found.append(..) -/
theorem st_app {i : Nat} {p : Addr} {xs : List α} (o : Ok G0 H0 H G) (h0 : H0 p = none) (m : Mu G H p A xs) (hi : σ[i]? = some (some (.ref p))) (h : EV te σ G A x) (hl : xs.length < 100000)
    (k : ∀ H2 G2, Ok G0 H0 H2 G2 → Ex G G2 → (∀ b u, b ≠ p → H b = some u → H2 b = some u) → (∀ b, G b = none → H b ≠ none → G2 b = none) → Mu G2 H2 p A (xs ++ [x]) → D.nx σ H2) : tDrop (tBM K "list" rAppend (tVar i) (tCons te tNil)) D σ H := by
  obtain ⟨⟨vs, h1, h2⟩, h3⟩ := m
  refine ⟨.ref p, hi, .inl ⟨rfl, vs, Evl.sq_of h1⟩, h G H (Ex.refl _) o.kn _ fun w H2 G2 o2 rw' => ?_⟩
  have n2 : G2 p = none := o2.no p h3 (by rw [h1]; exact fun z => by cases z)
  refine ⟨p, vs, w, rfl, rfl, o2.ex _ _ h1, by rw [h2.len]; exact Evl.sz_lt hl, ?_⟩
  refine k _ G2 ((o.trans o2).mut h0 n2) o2.up (fun b u hb hu => by rw [upd_ne hb]; exact o2.ex _ _ hu) o2.no ⟨⟨_, upd_same, (h2.imp fun _ _ => A.st o2.up).app ⟨rw', trivial⟩⟩, n2⟩
/-- xs[i] = e -/
theorem st_setAt {i n : Nat} {j : Int} {p : Addr} {xs : List α} (o : Ok G0 H0 H G) (h0 : H0 p = none) (m : Mu G H p A xs) (hi : σ[i]? = some (some (.ref p))) (h : EV te σ G A x) (hb : ∀ G2, Ex G G2 → EV tb σ G2 IntR j) (hj : j = (n : Int)) (hn : n < xs.length)
    (k : ∀ H2 G2, Ok G0 H0 H2 G2 → Ex G G2 → (∀ b u, b ≠ p → H b = some u → H2 b = some u) → (∀ b, G b = none → H b ≠ none → G2 b = none) → Mu G2 H2 p A (xs.set n x) → D.nx σ H2) : tAsg te (gSub (tVar i) tb rSetL) D σ H := by
  obtain ⟨⟨vs, h1, h2⟩, h3⟩ := m
  refine h G H (Ex.refl _) o.kn _ fun w H2 G2 o2 rw' => ⟨.ref p, hi, hb G2 o2.up G2 H2 (Ex.refl _) o2.kn _ fun u H3 G3 o3 ru => ?_⟩
  have o4 := o2.trans o3
  have n2 : G3 p = none := o4.no p h3 (by rw [h1]; exact fun z => by cases z)
  have hl := h2.len
  refine ⟨p, vs, j, n, rfl, ru, o4.ex _ _ h1, ?_, ?_⟩
  · unfold ixN
    rw [if_pos (by omega), if_pos (by omega)]
    congr 1
    omega
  · refine k _ G3 ((o.trans o4).mut h0 n2) o4.up (fun b u hb hu => by rw [upd_ne hb]; exact o4.ex _ _ hu) o4.no ⟨⟨_, upd_same, ?_⟩, n2⟩
    exact (h2.imp fun _ _ => A.st o4.up).set (A.st o3.up rw') n

/-! ## for -/
theorem st_for {wi : TI} {g : TG} {tb : TS} {zs : List ζ} (e : Ex G H) (S : Src wi σ G Z zs)
    (k : ∀ H1 G1, Ok G H H1 G1 → ∃ Pv : Nat → L2.St → Hp → Hp → Prop, Pv 0 σ G1 H1 ∧
      (∀ (i : Nat) (z : ζ) (σ' : L2.St) (G' H' : Hp), zs[i]? = some z → Pv i σ' G' H' → Ex G1 G' ∧ Ex G' H' ∧ ∀ v G2 H2, Ok G' H' H2 G2 → Z.R G2 v z → g v σ' H2 fun σ2 H3 => tb { D with nx := fun σ H => ∃ G, Pv (i + 1) σ G H, ct := fun σ H => ∃ G, Pv (i + 1) σ G H, bk := tz D } σ2 H3) ∧
      ∀ σ' G' H', Pv zs.length σ' G' H' → Ex G1 G' ∧ Ex G' H' ∧ tz D σ' H') : tSeq (tFor wi g tb) tz D σ H :=
  S G H (Ex.refl _) e _ fun J H1 G1 o go yld stop => by
    obtain ⟨Pv, h0, hs, hd⟩ := k H1 G1 o
    refine ⟨fun i m σ' H' => m = zs.length - i ∧ i ≤ zs.length ∧ ∃ G', Pv i σ' G' H', ⟨zs.length, rfl, Nat.zero_le _, G1, h0⟩, ?_⟩
    rintro i m σ' H' ⟨rfl, hi, G', p⟩
    by_cases hlt : i < zs.length
    · obtain ⟨e1, e2, _⟩ := hs i zs[i] σ' G' H' (List.getElem?_eq_getElem hlt) p
      refine .inr ⟨go i H' (e1.trans e2) hlt, fun σ H => ∃ G, Pv (i + 1) σ G H, fun σ2 H2 q => ⟨zs.length - (i + 1), by omega, rfl, hlt, q⟩, fun x H'' y => ?_⟩
      obtain ⟨G'', z, o2, hz, rz⟩ := yld i G' H' x H'' e1 e2 hlt y
      exact (hs i z σ' G' H' hz p).2.2 x G'' H'' o2 rz
    · have ei : i = zs.length := by omega
      subst ei
      obtain ⟨e1, e2, q⟩ := hd σ' G' H' p
      exact .inl ⟨stop _ H' (e1.trans e2) (Nat.le_refl _), q⟩
/-- acc = step, turn by turn -/
theorem st_fold {wi : TI} {g : TG} {zs : List ζ} {js : List Nat} {F : Hp → L2.St → ζ → Prop} {k : Nat} {acc0 : γ} (step : γ → ζ → γ) (e : Ex G H) (S : Src wi σ G Z zs) (T : Tg g Z js F) (hk : k ∉ js) (hj0 : inb js σ = true) (h0 : At C k G σ acc0)
    (turn : ∀ (i : Nat) (z : ζ) (σ2 : L2.St) (G1 : Hp), zs[i]? = some z → Ex G G1 → Agr (k :: js) σ σ2 → At C k G1 σ2 ((zs.take i).foldl step acc0) → F G1 σ2 z → EV te σ2 G1 C (step ((zs.take i).foldl step acc0) z))
    (rest : ∀ σ2 H1 G1, Ok G H H1 G1 → Agr (k :: js) σ σ2 → At C k G1 σ2 (zs.foldl step acc0) → tz D σ2 H1) : tSeq (tFor wi g (tAsg te (gName k))) tz D σ H := by
  have hj := inb_of hj0
  refine st_for e S fun H1 G1 o => ⟨fun i σ' G' H' => Ok G H H' G' ∧ Ex G1 G' ∧ Agr (k :: js) σ σ' ∧ At C k G' σ' ((zs.take i).foldl step acc0), ⟨o, Ex.refl _, Agr.refl _ _, h0.mono o.up⟩, ?_, ?_⟩
  · rintro i z σ' G' H' hz ⟨o', e', a, c⟩
    refine ⟨e', o'.kn, fun v G2 H2 o2 rz => ?_⟩
    have hl : σ'.length = σ.length := a.1
    obtain ⟨σ2, kk, a2, f⟩ := T G2 v z rz σ' fun j hj' => by rw [hl]; exact hj j hj'
    have a3 : Agr (k :: js) σ σ2 := a.trans (a2.sub fun j hj' => List.mem_cons_of_mem _ hj')
    refine kk H2 _ o2.kn (turn i z σ2 G2 hz (o'.up.trans o2.up) a3 ((c.mono o2.up).agr a2 hk) f G2 H2 (Ex.refl _) o2.kn _ fun w H3 G3 o3 rw' => ⟨G3, ((o'.trans o2).trans o3), (e'.trans o2.up).trans o3.up, a3.trans (Agr.set List.mem_cons_self), ?_⟩)
    rw [take_next hz, List.foldl_append]
    refine At.set ?_ rw'
    obtain ⟨v0, hv0, _⟩ := h0
    rw [a3.1]
    exact (List.getElem?_eq_some_iff.mp hv0).1
  · rintro σ' G' H' ⟨o', e', a, c⟩
    rw [List.take_length] at c
    exact ⟨e', o'.kn, rest σ' H' G' o' a c⟩
/-- found.extend(f(z)), turn by turn -/
theorem st_exts {wi : TI} {g : TG} {zs : List ζ} {js : List Nat} {F : Hp → L2.St → ζ → Prop} {k : Nat} {p : Addr} {xs : List α} (f : ζ → List α) (o : Ok G0 H0 H G) (h0 : H0 p = none) (m : Mu G H p A xs) (hi : σ[k]? = some (some (.ref p))) (S : Src wi σ G Z zs) (T : Tg g Z js F) (hk : k ∉ js)
    (hj0 : inb js σ = true) (hf : ∀ z ∈ zs, (f z).length ≤ 100) (hz : zs.length ≤ 100) (hx : xs.length ≤ 100)
    (turn : ∀ (i : Nat) (z : ζ) (σ2 : L2.St) (G1 : Hp), zs[i]? = some z → Ex G G1 → Agr js σ σ2 → F G1 σ2 z → EV te σ2 G1 (ListR A) (f z))
    (rest : ∀ σ2 H1 G1, Ok G0 H0 H1 G1 → Ex G G1 → Agr js σ σ2 → Mu G1 H1 p A (xs ++ zs.flatMap f) → tz D σ2 H1) : tSeq (tFor wi g (tDrop (tBM K "list" rExtend (tVar k) (tCons te tNil)))) tz D σ H := by
  have hj := inb_of hj0
  refine st_for o.kn S fun H1 G1 o1 => ⟨fun i σ' G' H' => Ok G0 H0 H' G' ∧ Ex G1 G' ∧ Agr js σ σ' ∧ Mu G' H' p A (xs ++ (zs.take i).flatMap f), ⟨o.trans o1, Ex.refl _, Agr.refl _ _, ?_⟩, ?_, ?_⟩
  · show Mu G1 H1 p A (xs ++ [])
    rw [List.append_nil]
    exact m.ok o1
  · rintro i z σ' G' H' hzi ⟨o', e', a, mm⟩
    refine ⟨e', o'.kn, fun v G2 H2 o2 rz => ?_⟩
    obtain ⟨σ2, kk, a2, fz⟩ := T G2 v z rz σ' fun j hj' => by rw [a.1]; exact hj j hj'
    have a3 : Agr js σ σ2 := a.trans a2
    have hlen : ((zs.take i).flatMap f).length ≤ 100 * 100 := by
      have : ∀ l : List ζ, (∀ z ∈ l, (f z).length ≤ 100) → (l.flatMap f).length ≤ l.length * 100 := by
        intro l
        induction l with
        | nil => intro _; simp
        | cons z l ih =>
          intro h
          rw [List.flatMap_cons, List.length_append, List.length_cons]
          have h1 := h z List.mem_cons_self
          have h2 := ih fun z hz => h z (List.mem_cons_of_mem _ hz)
          omega
      have h1 := this (zs.take i) fun z hz' => hf z (List.mem_of_mem_take hz')
      rw [List.length_take] at h1
      have : min i zs.length ≤ 100 := by omega
      omega
    refine kk H2 _ o2.kn (st_ext (o'.trans o2) h0 (mm.ok o2) ((a3.2 k hk).trans hi) (turn i z σ2 G2 hzi ((o1.up.trans e').trans o2.up) a3 fz) ?_ fun H3 G3 o3 e3 _ _ m3 => ⟨G3, o3, (e'.trans o2.up).trans e3, a3, ?_⟩)
    · rw [List.length_append]
      have := hf z (List.mem_of_getElem? hzi)
      omega
    · rw [take_next hzi, List.flatMap_append, ← List.append_assoc]
      show Mu G3 H3 p A (xs ++ List.flatMap f (List.take i zs) ++ (f z ++ []))
      rw [List.append_nil]
      exact m3
  · rintro σ' G' H' ⟨o', e', a, mm⟩
    rw [List.take_length] at mm
    exact ⟨e', o'.kn, rest σ' H' G' o' (o1.up.trans e') a mm⟩

/-! ## while; two names at once -/
theorem st_while {tc : TT} {tb : TS} (W : Nat → L2.St → Hp → Prop) (m0 : Nat) (h0 : W m0 σ H)
    (turn : ∀ m σ' H', W m σ' H' → ∃ G' b, Ex G' H' ∧ ET tc σ' G' b ∧ (b = true → ∀ H2, Ex H' H2 → tb { D with nx := fun σ2 H3 => ∃ m', m' < m ∧ W m' σ2 H3, ct := fun σ2 H3 => ∃ m', m' < m ∧ W m' σ2 H3, bk := tz D } σ' H2) ∧ (b = false → ∀ H2, Ex H' H2 → tz D σ' H2)) :
    tSeq (tWhile tc tb) tz D σ H := by
  refine ⟨W, ⟨m0, h0⟩, fun m σ' H' w => ?_⟩
  obtain ⟨G', b, e, ht, h1, h2⟩ := turn m σ' H' w
  refine ht G' H' (Ex.refl _) e _ fun H2 e2 => ?_
  cases b with
  | true =>
    rw [if_pos rfl]
    exact ⟨_, fun σ2 H3 q => q, h1 rfl H2 e2⟩
  | false =>
    rw [if_neg Bool.false_ne_true]
    exact h2 rfl H2 e2
theorem st_par {i j : Nat} (e : Ex G H) (ha : EV ta σ G A x) (hb : EV tb σ G B y) (k : ∀ v w H2 G2, Ok G H H2 G2 → A.R G2 v x → B.R G2 w y → D.nx ((σ.set i (some v)).set j (some w)) H2) : tPar i j (tCons ta (tCons tb tNil)) D σ H :=
  ha G H (Ex.refl _) e _ fun v H2 G2 o2 rv => hb G2 H2 o2.up o2.kn _ fun w H3 G3 o3 rw' => ⟨v, w, rfl, k v w H3 G3 (o2.trans o3) (A.st o3.up rv) rw'⟩
theorem seq_par {i j : Nat} (e : Ex G H) (ha : EV ta σ G A x) (hb : EV tb σ G B y) (k : ∀ v w H2 G2, Ok G H H2 G2 → A.R G2 v x → B.R G2 w y → tz D ((σ.set i (some v)).set j (some w)) H2) : tSeq (tPar i j (tCons ta (tCons tb tNil))) tz D σ H :=
  st_par (D := { D with nx := tz D }) e ha hb k

/-! ## promises -/
def FnS {β : Type} (B : RelS β) (Pre : Hp → List V → β → Prop) : Sp := fun vs H Q _ => ∃ G y, Ex G H ∧ Pre G vs y ∧ ∀ u H2 G2, Ok G H H2 G2 → B.R G2 u y → Q u H2
theorem ev_call {t : TA} {Pre : Hp → List V → β → Prop} {P : Hp → List V → Prop} {E : XK} (ha : EA t σ H P) (h : ∀ G vs, Ex H G → P G vs → Pre G vs y) : EV (tCall (FnS B Pre) [] E t) σ H B y := fun G H1 e e1 Q q =>
  ha G H1 e e1 _ fun vs H2 G2 o2 hp => ⟨G2, y, o2.kn, by rw [List.append_nil]; exact h G2 vs (e.trans o2.up) hp, fun u H3 G3 o3 ru => q u H3 G3 (o2.trans o3) ru⟩
def Pre1 {α β : Type} (A : RelS α) (pre : α → Prop) (f : α → β) : Hp → List V → β → Prop := fun G vs y => ∃ v x, vs = [v] ∧ A.R G v x ∧ pre x ∧ y = f x
def Pre2 {α β γ : Type} (A : RelS α) (B : RelS β) (pre : α → β → Prop) (f : α → β → γ) : Hp → List V → γ → Prop := fun G vs y => ∃ v w x1 x2, vs = [v, w] ∧ A.R G v x1 ∧ B.R G w x2 ∧ pre x1 x2 ∧ y = f x1 x2
def Pre3 {α β γ δ : Type} (A : RelS α) (B : RelS β) (C : RelS γ) (pre : α → β → γ → Prop) (f : α → β → γ → δ) : Hp → List V → δ → Prop :=
  fun G vs y => ∃ v w u x1 x2 x3, vs = [v, w, u] ∧ A.R G v x1 ∧ B.R G w x2 ∧ C.R G u x3 ∧ pre x1 x2 x3 ∧ y = f x1 x2 x3
def Pre4 {α β γ δ ε : Type} (A : RelS α) (B : RelS β) (C : RelS γ) (D : RelS δ) (pre : α → β → γ → δ → Prop) (f : α → β → γ → δ → ε) : Hp → List V → ε → Prop :=
  fun G vs y => ∃ v w u t x1 x2 x3 x4, vs = [v, w, u, t] ∧ A.R G v x1 ∧ B.R G w x2 ∧ C.R G u x3 ∧ D.R G t x4 ∧ pre x1 x2 x3 x4 ∧ y = f x1 x2 x3 x4
theorem ev_call1 {E : XK} {pre : α → Prop} {f : α → γ} (h : EV ta σ H A x) (hp : pre x) : EV (tCall (FnS C (Pre1 A pre f)) [] E (tCons ta tNil)) σ H C (f x) :=
  ev_call (ea_cons h ea_nil) fun G vs _ ⟨v, r, h1, h2, h3⟩ => ⟨v, x, by rw [h1, h3], h2, hp, rfl⟩
theorem ev_call2 {E : XK} {pre : α → β → Prop} {f : α → β → γ} (h : EV ta σ H A x) (h' : EV tb σ H B y) (hp : pre x y) : EV (tCall (FnS C (Pre2 A B pre f)) [] E (tCons ta (tCons tb tNil))) σ H C (f x y) :=
  ev_call (ea_cons h (ea_cons h' ea_nil)) fun G vs _ ⟨v, r, h1, h2, w, r', k1, k2, k3⟩ => ⟨v, w, x, y, by rw [h1, k1, k3], h2, k2, hp, rfl⟩
theorem ev_call3 {δ : Type} {D' : RelS δ} {tc : TE} {z : γ} {E : XK} {pre : α → β → γ → Prop} {f : α → β → γ → δ} (h : EV ta σ H A x) (h' : EV tb σ H B y) (h'' : EV tc σ H C z) (hp : pre x y z) : EV (tCall (FnS D' (Pre3 A B C pre f)) [] E (tCons ta (tCons tb (tCons tc tNil)))) σ H D' (f x y z) :=
  ev_call (ea_cons h (ea_cons h' (ea_cons h'' ea_nil))) fun G vs _ ⟨v, r, h1, h2, w, r', k1, k2, u, r'', l1, l2, l3⟩ => ⟨v, w, u, x, y, z, by rw [h1, k1, l1, l3], h2, k2, l2, hp, rfl⟩
theorem ev_call4 {δ ε : Type} {D' : RelS δ} {E' : RelS ε} {tc td : TE} {z : γ} {d : δ} {E : XK} {pre : α → β → γ → δ → Prop} {f : α → β → γ → δ → ε} (h : EV ta σ H A x) (h' : EV tb σ H B y) (h'' : EV tc σ H C z) (h3 : EV td σ H D' d) (hp : pre x y z d) : EV (tCall (FnS E' (Pre4 A B C D' pre f)) [] E (tCons ta (tCons tb (tCons tc (tCons td tNil))))) σ H E' (f x y z d) :=
  ev_call (ea_cons h (ea_cons h' (ea_cons h'' (ea_cons h3 ea_nil)))) fun G vs _ ⟨v, r, h1, h2, w, r', k1, k2, u, r'', l1, l2, t, r3, m1, m2, m3⟩ => ⟨v, w, u, t, x, y, z, d, by rw [h1, k1, l1, m1, m3], h2, k2, l2, m2, hp, rfl⟩
end
/-- a def that is known by its name -/
structure Kn (P : Program) (w : World) (K : PySem.W.Frag) (mg : Str → Option Value) (base : Heap) (k : Nat) (x : Str) (sp : Sp) : Prop where
  ex : ∃ (f : Addr) (fd : FuncData) (ps : List Str), mg x = some (.ref f) ∧ PySem.W.keepIn K (.ref f) = true ∧ Binds K fd ps [] ∧ FnOk P w K mg base CX0 k f fd ps sp
theorem pe_kn {X : Cx} {k : Nat} {x : Str} {sp : Sp} {p pos : Pos} {e : Expr} {es : List Expr} {t : TA} (F : Kn X.prog X.w X.K X.mg X.base k x sp) (hr : Room k X.A) (hg : Gl X x) (ha : PA X (e :: es) t)
    (hdb : (x == ("__debug__" : Str)) = false := by decide) (he : starEach (e :: es) X.env = (false, eval e X.env) :: starEach es X.env := by rfl) (hpl : (backTo pos (starEach es X.env)).any (·.1) = false := by rfl) :
    PE X (.Call (.Name x p) (e :: es) [] pos) (tCall sp [] E0 t) := by
  obtain ⟨f, fd, ps, h1, h2, h3, h4⟩ := F.ex
  exact pe_call h4 hr hg h1 h2 h3 .nil pass0 ha hdb he hpl
theorem Kn.mono {P : Program} {w : World} {K : PySem.W.Frag} {mg : Str → Option Value} {base : Heap} {j k : Nat} {x : Str} {sp : Sp} (F : Kn P w K mg base j x sp) (h : j ≤ k) : Kn P w K mg base k x sp := by
  obtain ⟨f, fd, ps, h1, h2, h3, h4⟩ := F.ex
  exact ⟨f, fd, ps, h1, h2, h3, h4.mono h⟩
/-- a def of the text, where it stands -/
structure Df (K : PySem.W.Frag) (mg : Str → Option Value) (x : Str) (st : Stmt) (n : Nat) : Prop where
  ex : ∃ (f : Addr) (fd : FuncData), mg x = some (.ref f) ∧ Fun K x x st f fd
theorem Df.kn {P : Program} {w : World} {K : PySem.W.Frag} {mg : Str → Option Value} {base : Heap} {k : Nat} {x : Str} {st : Stmt} {n : Nat} {N ps : List Str} {β : Type} {B : RelS β} {Pre : Hp → List V → β → Prop} (D : Df K mg x st n) (S : FnScope N ps (defScope st))
    (bd : ∀ (kV doc pm : Value) (an : Option Addr) (cdv ct : Value) (us : List Value), us.length = ps.length → bindArgs (PySem.W.fnOf x x (defArgs st) (defBody st) (defScope st) .none kV doc pm an cdv ct) ⟨us, []⟩ = pure (ps.zip us))
    (hl : ∀ G vs y, Pre G vs y → vs.length = ps.length)
    (hbody : ∀ (cdv : Value) (f : Addr) (A : Around) (outer : List Env) (s : Shared) (H : Hp) (E : XK), Room k (A.deeper (envOfC x (defScope st) s.heap.objs.size f cdv)) →
      ∃ t, PSs (cxOf CX0 P w K mg base N x (defScope st) f cdv A outer s H E).nox (defBody st) t ∧
        ∀ (vs : List V) (G : Hp) (y : β) (D : Ends), Ex G H → Pre G vs y → (∀ u H2 G2, Ok G H H2 G2 → B.R G2 u y → D.rt u H2) → t D (start N vs) H) : Kn P w K mg base (k + 1) x (FnS B Pre) := by
  obtain ⟨f, fd, h1, F⟩ := D.ex
  refine ⟨f, fd, ps, h1, F.kp, F.binds bd, F.ok S (fun vs H Q E ⟨G, y, _, h, _⟩ => hl G vs y h) fun cdv A outer s H vs Q E hr ⟨G, y, e, h, q⟩ => ?_⟩
  obtain ⟨t, h1, h2⟩ := hbody cdv f A outer s H E hr
  exact ⟨t, h1, h2 vs G y _ e h q⟩
end LW

set_option linter.all false
set_option Elab.async false
set_option maxRecDepth 100000
set_option maxHeartbeats 2000000
namespace LW
open PySem PySem.Spec PyProof.Rows L2
open Evl (Ex)
/-! ## // of ints of any size: by the room on the stack -/
theorem op_fdivP {X : Cx} (NS : X.base.NoSeer) (ht : X.prog.given.tree = none) (hr : Room 33 X.A) {env : Env} {l : List Env} (hs : X.stack = env :: l) (g1 : env.scope.isGenerator = false) (g2 : env.scope.isCoroutine = false)
    (g3 : env.builtins = builtinsNs) (g4 : env.globals = mainGlobals) : OpR X (binaryOp .FloorDiv) rDivI := fun pins s σ H x y v u Q I rx ry h => by
  obtain ⟨i, j, rfl, rfl, hj, q⟩ := h
  obtain ⟨t, rfl⟩ := rx
  obtain ⟨t', rfl⟩ := ry
  have hd : X.A.depth + Builtin.pylongFrames < recursionLimit := by
    have h1 := hr.dp
    show X.A.depth + 100 < 1000
    have h1 : X.A.depth + 3 * 33 + 5 < 1000 := h1
    omega
  exact floordiv_int hj ⟨.int _, H, I.tok _, ⟨_, rfl⟩, q⟩ (.inr (PylongRoom.of I.nolimit hd (SeerAt.of (NS.keeps I.bk) ht (I.ok.frames.trans (congrArg some hs)) g1 g2 g3 g4)))
/-! ## a class made by a call -/
structure KnC (P : Program) (w : World) (K : PySem.W.Frag) (mg : Str → Option Value) (base : Heap) (k : Nat) (x : Str) (C : Addr) (sp : Sp) : Prop where
  ex : ∃ (f : Addr) (fd : FuncData) (ps : List Str), mg x = some (.ref C) ∧ Mk K C f ∧ Binds K fd ps [] ∧ FnOk P w K mg base CX0 k f fd ps sp
theorem pe_knC {X : Cx} {k : Nat} {x : Str} {C : Addr} {sp : Sp} {p pos : Pos} {e : Expr} {es : List Expr} {t : TA} (F : KnC X.prog X.w X.K X.mg X.base k x C sp) (hr : Room (k + 1) X.A) (hg : Gl X x) (ha : PA X (e :: es) t)
    (hdb : (x == ("__debug__" : Str)) = false := by decide) (he : starEach (e :: es) X.env = (false, eval e X.env) :: starEach es X.env := by rfl) (hpl : (backTo pos (starEach es X.env)).any (·.1) = false := by rfl) :
    PE X (.Call (.Name x p) (e :: es) [] pos) (tMake C sp [] E0 t) := by
  obtain ⟨f, fd, ps, h1, h2, h3, h4⟩ := F.ex
  exact pe_make h2 h4 hr hg h1 h3 .nil pass0 ha hdb he hpl
theorem pe_knC0 {X : Cx} {k : Nat} {x : Str} {C : Addr} {sp : Sp} {p pos : Pos} (F : KnC X.prog X.w X.K X.mg X.base k x C sp) (hr : Room (k + 1) X.A) (hg : Gl X x)
    (hdb : (x == ("__debug__" : Str)) = false := by decide) : PE X (.Call (.Name x p) [] [] pos) (tMake C sp [] E0 tNil) := by
  obtain ⟨f, fd, ps, h1, h2, h3, h4⟩ := F.ex
  exact pe_make0 h2 h4 hr hg h1 h3 .nil pass0 hdb
/-- named rules -/
theorem cr_len {X : Cx} : CallR X (.builtin "len") (rLenT X.K) := call_len_seq
theorem cr_list {X : Cx} : CallR X (.type "list") (rListT X.K) := call_list_of
theorem cr_abs {X : Cx} : CallR X (.builtin "abs") rAbs := call_abs
theorem op_isNone {X : Cx} : OpR X (compareOp .Is) rIsNone := op_isN
theorem op_notNone {X : Cx} : OpR X (compareOp .IsNot) rNotNone := op_notN
/-! ## the rules with the written part said (a comprehension's block has it too, by definition) -/
section
variable {X : Cx} {K : PySem.W.Frag} {e o : Expr} {es : List Expr} {pos p tpos apos cpos : Pos} {ta tl te to : TE} {t : TA}
theorem ix_listK (h : X.K = K) : IxR X (rIxL K) := h ▸ ix_list
theorem ix_tupK (h : X.K = K) : IxR X (rIxT K) := h ▸ ix_tup
theorem sl_listK (h : X.K = K) : SlR X (rSlL K) := h ▸ sl_list
theorem pi_listK {tg l : Expr} (h : X.K = K) (hl : PE X l tl) : PI X tg l (iList K tl) := h ▸ pi_list hl
theorem pi_enumK {elts : List Expr} {kk : Nat} (h : X.K = K) (hg : Gl X "enumerate") (hm : X.mg "enumerate" = none) (ha : PA X [e] t) (hs : starEach [e] X.env = [(false, eval e X.env)] := by rfl) :
    PI X (.Tuple elts kk tpos) (.Call (.Name "enumerate" p) [e] [] pos) (iEnum K t) := h ▸ pi_enum hg hm ha hs
theorem pi_zipK {e2 : Expr} {elts : List Expr} {kk : Nat} (h : X.K = K) (hg : Gl X "zip") (hm : X.mg "zip" = none) (ha : PA X [e, e2] t)
    (hs : starEach [e, e2] X.env = (false, eval e X.env) :: starEach [e2] X.env := by rfl) (hpl : (backTo pos (starEach [e2] X.env)).any (·.1) = false := by rfl) :
    PI X (.Tuple elts kk tpos) (.Call (.Name "zip" p) [e, e2] [] pos) (iZip K t) := h ▸ pi_zip hg hm ha hs hpl
theorem pg_tupK {k n : Nat} {u : TGs} (h : X.K = K) (hc : X.calm = true) (ht : PGs X es u) (hn : (assignEach es X.env).length = n := by rfl) (hst : (assignEach es X.env).findIdx? (·.1) = none := by rfl) : PG X (.Tuple es k pos) (gTup K n u) := h ▸ pg_tup hc ht hn hst
theorem pg_unlK {k n : Nat} {u : TGs} (h : X.K = K) (hc : X.calm = true) (ht : PGs X es u) (hn : (assignEach es X.env).length = n := by rfl) (hst : (assignEach es X.env).findIdx? (·.1) = none := by rfl) : PG X (.Tuple es k pos) (gUnl K n u) := h ▸ pg_unl hc ht hn hst
theorem pe_fldK {f : Str} (h : X.K = K) (he : PE X e ta) (hb : attributeBase e f X.env (eval e X.env) = eval e X.env) : PE X (.Attribute e f pos) (tFld K ta f) := h ▸ pe_fld he hb
theorem cr_lenK (h : X.K = K) : CallR X (.builtin "len") (rLenT K) := h ▸ cr_len
theorem cr_listK (h : X.K = K) : CallR X (.type "list") (rListT K) := h ▸ cr_list
theorem cr_sumK (h : X.K = K) (hc : X.calm = true) : CallR X (.builtin "sum") (rSum K) := h ▸ cr_sum hc
theorem cr_allK (h : X.K = K) (hc : X.calm = true) : CallR X (.builtin "all") (rAll K) := h ▸ cr_all hc
theorem cr_anyK (h : X.K = K) (hc : X.calm = true) : CallR X (.builtin "any") (rAny K) := h ▸ cr_any hc
theorem op_eqDK (h : X.K = K) (hu : X.A.units + 64 < cLine) : OpR X (compareOp .Eq) (rEqD K) := h ▸ op_eqD hu
def rTupleT (K : PySem.W.Frag) : List V → Hp → VK → Prop := fun xs H Q => ∃ p ys, xs = [.ref p] ∧ ((SqL K H p ys ∧ ∀ l, H l = none → Q (.ref l) (upd H l (.tup ys))) ∨ (SqT K H p ys ∧ Q (.ref p) H))
theorem cr_tupleK (h : X.K = K) : CallR X (.type "tuple") (rTupleT K) := h ▸ call_tuple_of
theorem pe_bmK {name : Str} {T id : String} {r : V → List V → Hp → VK → Prop} (h : X.K = K) (pa : PlainAttrs T) (slot : Slot T name id) (hty : typeOf (.builtin id) = pure (.type "method_descriptor")) (hm : MtR X id r) (ho : PE X o to) (ha : PA X (e :: es) t)
    (hbase : attributeBase o name X.env (eval o X.env) = eval o X.env := by rfl)
    (hfew : ((backTo cpos (starEach (e :: es) X.env)).all (fun x => !x.1) && (backToKw cpos (keywordEach [] X.env)).all (fun x => x.1.isSome)
      && decide ((e :: es).length + ([] : List Keyword).length + (if ([] : List Keyword).isEmpty then 0 else 1) < 30)) = true := by rfl)
    (hline : (apos.endLine == cpos.line) = true := by rfl) (hs : starEach (e :: es) X.env = (false, eval e X.env) :: starEach es X.env := by rfl) (hplain : (backTo cpos (starEach es X.env)).any (·.1) = false := by rfl) :
    PE X (.Call (.Attribute o name apos) (e :: es) [] cpos) (tBM K T r to t) := h ▸ pe_bm pa slot hty hm ho ha hbase hfew hline hs hplain
end
/-- the i-th statement of the program -/
def top (i : Nat) : Stmt := PySem.Challenge.pw_linearfits_s01_answers.main.body.getD i (.Pass ⟨0, 0, 0, 0⟩)
end LW

set_option linter.all false
set_option Elab.async false
set_option maxRecDepth 100000
set_option maxHeartbeats 4000000
namespace LW
open PySem PySem.Spec PyProof.Rows L2
open Evl (Ex)
/-- where things stand -/
structure Ad where
  one : Addr
  zero : Addr
  deeds : Addr
  numbers : Addr
  lists : Addr
  cM : Addr
  cD : Addr
  deed : Nat → Addr
/-- what the top has written -/
structure Wd (P : Program) (w : World) (K : PySem.W.Frag) (mg : Str → Option Value) (base : Heap) (a : Ad) : Prop where
  ns : base.NoSeer
  tr : P.given.tree = none
  d_is_within : Df K mg "is_within" (top 11) 11
  d_are_within : Df K mg "are_within" (top 12) 12
  d_is_vector : Df K mg "is_vector" (top 13) 13
  d_is_index : Df K mg "is_index" (top 14) 14
  d_are_terms : Df K mg "are_terms" (top 15) 15
  d_is_surface : Df K mg "is_surface" (top 16) 16
  d_common : Df K mg "common" (top 20) 20
  d_multiple : Df K mg "multiple" (top 21) 21
  d_ratio : Df K mg "ratio" (top 22) 22
  d_plus : Df K mg "plus" (top 23) 23
  d_minus : Df K mg "minus" (top 24) 24
  d_times : Df K mg "times" (top 25) 25
  d_over : Df K mg "over" (top 26) 26
  d_square : Df K mg "square" (top 27) 27
  d_term_count : Df K mg "term_count" (top 31) 31
  d_responses_of : Df K mg "responses_of" (top 32) 32
  d_entries_of : Df K mg "entries_of" (top 33) 33
  d_entries_at : Df K mg "entries_at" (top 34) 34
  d_places_below : Df K mg "places_below" (top 35) 35
  d_places_beside : Df K mg "places_beside" (top 36) 36
  d_lowered : Df K mg "lowered" (top 38) 38
  d_cleared : Df K mg "cleared" (top 39) 39
  d_first_with : Df K mg "first_with" (top 40) 40
  d_without : Df K mg "without" (top 41) 41
  d_rank_of : Df K mg "rank_of" (top 42) 42
  d_leads_of : Df K mg "leads_of" (top 43) 43
  d_solved : Df K mg "solved" (top 44) 44
  d_product : Df K mg "product" (top 46) 46
  d_column : Df K mg "column" (top 47) 47
  d_products : Df K mg "products" (top 48) 48
  d_right_sides : Df K mg "right_sides" (top 49) 49
  d_solved_for : Df K mg "solved_for" (top 50) 50
  d_best_fit : Df K mg "best_fit" (top 51) 51
  d_weighed : Df K mg "weighed" (top 52) 52
  d_residual_sum_of : Df K mg "residual_sum_of" (top 53) 53
  d_pairs_of : Df K mg "pairs_of" (top 58) 58
  d_hessian : Df K mg "hessian" (top 59) 59
  d_determinant : Df K mg "determinant" (top 60) 60
  d_leading_minors : Df K mg "leading_minors" (top 61) 61
  d_is_turned : Df K mg "is_turned" (top 62) 62
  d_kind_of : Df K mg "kind_of" (top 63) 63
  d_point_of : Df K mg "point_of" (top 64) 64
  d_value_at : Df K mg "value_at" (top 65) 65
  d_rank : Df K mg "rank" (top 67) 67
  d_freedom : Df K mg "freedom" (top 68) 68
  d_solution : Df K mg "solution" (top 69) 69
  d_estimate_of : Df K mg "estimate_of" (top 70) 70
  d_factor_of : Df K mg "factor_of" (top 71) 71
  d_is_estimable : Df K mg "is_estimable" (top 72) 72
  d_residual_sum : Df K mg "residual_sum" (top 73) 73
  d_variance_of : Df K mg "variance_of" (top 74) 74
  d_looked_at : Df K mg "looked_at" (top 75) 75
  d_told_between : Df K mg "told_between" (top 76) 76
  d_sequential_of : Df K mg "sequential_of" (top 77) 77
  d_marginal_at : Df K mg "marginal_at" (top 78) 78
  d_marginal_of : Df K mg "marginal_of" (top 79) 79
  d_groups_of : Df K mg "groups_of" (top 80) 80
  d_spread : Df K mg "spread" (top 81) 81
  d_pure_error : Df K mg "pure_error" (top 82) 82
  d_tell_rank : Df K mg "tell_rank" (top 84) 84
  d_tell_coefficients : Df K mg "tell_coefficients" (top 85) 85
  d_tell_estimate : Df K mg "tell_estimate" (top 86) 86
  d_tell_covariance : Df K mg "tell_covariance" (top 87) 87
  d_tell_squared_ratio : Df K mg "tell_squared_ratio" (top 88) 88
  d_fitted_at : Df K mg "fitted_at" (top 89) 89
  d_leverage_at : Df K mg "leverage_at" (top 90) 90
  d_tell_fitted : Df K mg "tell_fitted" (top 91) 91
  d_tell_leverage : Df K mg "tell_leverage" (top 92) 92
  d_tell_deleted : Df K mg "tell_deleted" (top 93) 93
  d_tell_residual_sum : Df K mg "tell_residual_sum" (top 94) 94
  d_tell_variance : Df K mg "tell_variance" (top 95) 95
  d_terms_told : Df K mg "terms_told" (top 96) 96
  d_tell_sequential : Df K mg "tell_sequential" (top 97) 97
  d_tell_marginal : Df K mg "tell_marginal" (top 98) 98
  d_tell_f_ratio : Df K mg "tell_f_ratio" (top 99) 99
  d_tell_lack_of_fit : Df K mg "tell_lack_of_fit" (top 100) 100
  d_tell_predict : Df K mg "tell_predict" (top 101) 101
  d_model_without : Df K mg "model_without" (top 102) 102
  d_tell_lost_value : Df K mg "tell_lost_value" (top 103) 103
  d_tell_stationary : Df K mg "tell_stationary" (top 104) 104
  d_create : Df K mg "create" (top 106) 106
  d_add_row : Df K mg "add_row" (top 107) 107
  d_remove_row : Df K mg "remove_row" (top 108) 108
  d_set_response : Df K mg "set_response" (top 109) 109
  d_set_terms : Df K mg "set_terms" (top 110) 110
  d_clear_rows : Df K mg "clear_rows" (top 111) 111
  d_get_row : Df K mg "get_row" (top 112) 112
  d_normal_equations : Df K mg "normal_equations" (top 113) 113
  d_summary : Df K mg "summary" (top 114) 114
  d_lists_at : Df K mg "lists_at" (top 120) 120
  d_answer : Df K mg "answer" (top 121) 121
  d_answers : Df K mg "answers" (top 122) 122
  b_abs : mg "abs" = none
  b_all : mg "all" = none
  b_any : mg "any" = none
  b_enumerate : mg "enumerate" = none
  b_len : mg "len" = none
  b_list : mg "list" = none
  b_range : mg "range" = none
  b_sum : mg "sum" = none
  b_tuple : mg "tuple" = none
  b_zip : mg "zip" = none
  g_CREATE : ∃ t, mg "CREATE" = some (.int (0) t)
  g_FULL : ∃ t, mg "FULL" = some (.int (-28) t)
  g_GREATEST : ∃ t, mg "GREATEST" = some (.int (1000000) t)
  g_MAXIMUM : ∃ t, mg "MAXIMUM" = some (.int (1) t)
  g_MINIMUM : ∃ t, mg "MINIMUM" = some (.int (0) t)
  g_MOST_COLUMNS : ∃ t, mg "MOST_COLUMNS" = some (.int (8) t)
  g_MOST_ENTRY : ∃ t, mg "MOST_ENTRY" = some (.int (1000) t)
  g_MOST_ROWS : ∃ t, mg "MOST_ROWS" = some (.int (24) t)
  g_MOST_VARIABLES : ∃ t, mg "MOST_VARIABLES" = some (.int (3) t)
  g_NO_MODEL : ∃ t, mg "NO_MODEL" = some (.int (-11) t)
  g_NO_RESULT : ∃ t, mg "NO_RESULT" = some (.int (-33) t)
  g_NO_SUCH : ∃ t, mg "NO_SUCH" = some (.int (-2) t)
  g_OUT_OF_RANGE : ∃ t, mg "OUT_OF_RANGE" = some (.int (-22) t)
  g_SADDLE : ∃ t, mg "SADDLE" = some (.int (2) t)
  g_ONE : mg "ONE" = some (.ref a.one)
  g_ZERO : mg "ZERO" = some (.ref a.zero)
  g_DEEDS : mg "DEEDS" = some (.ref a.deeds)
  g_NUMBERS : mg "NUMBERS" = some (.ref a.numbers)
  g_LISTS : mg "LISTS" = some (.ref a.lists)
  dd0 : mg "create" = some (.ref (a.deed 0))
  dd1 : mg "add_row" = some (.ref (a.deed 1))
  dd2 : mg "remove_row" = some (.ref (a.deed 2))
  dd3 : mg "set_response" = some (.ref (a.deed 3))
  dd4 : mg "set_terms" = some (.ref (a.deed 4))
  dd5 : mg "clear_rows" = some (.ref (a.deed 5))
  dd6 : mg "get_row" = some (.ref (a.deed 6))
  dd7 : mg "tell_rank" = some (.ref (a.deed 7))
  dd8 : mg "tell_coefficients" = some (.ref (a.deed 8))
  dd9 : mg "tell_estimate" = some (.ref (a.deed 9))
  dd10 : mg "tell_covariance" = some (.ref (a.deed 10))
  dd11 : mg "tell_squared_ratio" = some (.ref (a.deed 11))
  dd12 : mg "tell_fitted" = some (.ref (a.deed 12))
  dd13 : mg "tell_leverage" = some (.ref (a.deed 13))
  dd14 : mg "tell_deleted" = some (.ref (a.deed 14))
  dd15 : mg "tell_residual_sum" = some (.ref (a.deed 15))
  dd16 : mg "tell_variance" = some (.ref (a.deed 16))
  dd17 : mg "tell_sequential" = some (.ref (a.deed 17))
  dd18 : mg "tell_marginal" = some (.ref (a.deed 18))
  dd19 : mg "tell_f_ratio" = some (.ref (a.deed 19))
  dd20 : mg "tell_lack_of_fit" = some (.ref (a.deed 20))
  dd21 : mg "tell_predict" = some (.ref (a.deed 21))
  dd22 : mg "tell_lost_value" = some (.ref (a.deed 22))
  dd23 : mg "normal_equations" = some (.ref (a.deed 23))
  dd24 : mg "tell_stationary" = some (.ref (a.deed 24))
  dd25 : mg "summary" = some (.ref (a.deed 25))
  inj : ∀ i j, i < 26 → j < 26 → a.deed i = a.deed j → i = j
  t_one : ∀ H, SqT K H a.one [.int 1, .int 1]
  t_zero : ∀ H, SqT K H a.zero [.int 0, .int 1]
  t_numbers : ∀ H, SqT K H a.numbers ([1, 1, 1, 2, 0, 0, 1, 0, 0, 0, 0, 0, 1, 1, 1, 0, 0, 0, 0, 1, 0, 0, 1, 0, 2, 0].map V.int)
  t_lists : ∀ H, SqT K H a.lists ([0, 1, 0, 0, 1, 0, 0, 0, 0, 1, 2, 1, 0, 0, 0, 0, 0, 0, 0, 0, 0, 1, 0, 0, 2, 0].map V.int)
  t_deeds : ∀ H, SqT K H a.deeds ((List.range 26).map fun i => V.ref (a.deed i))
  clM : Cls K a.cM
  clD : Cls K a.cD
  nMmany : NoAttr K a.cM "many"
  nMterms : NoAttr K a.cM "terms"
  nMrows : NoAttr K a.cM "rows"
  nDmodel : NoAttr K a.cD "model"
  gM : mg "Model" = some (.ref a.cM)
  gD : mg "Desk" = some (.ref a.cD)
  mkM : ∃ f fd, Mk K a.cM f ∧ Fun K "__init__" "Model.__init__" (inClass (top 29) 0) f fd
  mkD : ∃ f fd, Mk K a.cD f ∧ Fun K "__init__" "Desk.__init__" (inClass (top 30) 0) f fd
theorem pe_gint {X : Cx} {x : Str} {n : Int} {pos : Pos} (h : ∃ t, X.mg x = some (.int n t)) (hg : Gl X x) (hd : (x == ("__debug__" : Str)) = false := by decide) : PE X (.Name x pos) (tC (.int n)) := by
  obtain ⟨t, h⟩ := h
  exact pe_glob hg h ⟨t, rfl⟩ hd
theorem pe_gref {X : Cx} {x : Str} {a : Addr} {pos : Pos} (h : X.mg x = some (.ref a)) (hg : Gl X x) (hd : (x == ("__debug__" : Str)) = false := by decide) : PE X (.Name x pos) (tC (.ref a)) := pe_glob hg h rfl hd
/-- small enough to be multiplied by any other -/
def Sm (i : Int) : Prop := i.natAbs < 2 ^ 499999
theorem Sm.mul {i j : Int} (a : Sm i) (b : Sm j) : CMulW i j := wide_mul a b (by decide) (by decide) (by decide)
theorem gcd_abs (x z : Int) : Int.gcd (LF.absI x) (LF.absI z) = Int.gcd x z := by
  have h : ∀ i : Int, (LF.absI i).natAbs = i.natAbs := fun i => by unfold LF.absI; split <;> omega
  unfold Int.gcd
  rw [h, h]
theorem gcd_fmod (p q : Int) : Int.gcd q (p.fmod q) = Int.gcd p q := by
  have e : p.fmod q = p - q * p.fdiv q := Int.fmod_def p q
  rw [e, Int.gcd_comm p q, Int.mul_comm]
  exact Int.gcd_sub_mul_right_right ..
theorem Sm.fdiv {i j : Int} (a : Sm i) (h : j ∣ i) : Sm (i.fdiv j) := by
  obtain ⟨c, rfl⟩ := h
  by_cases hj : j = 0
  · subst hj
    rw [Int.zero_mul, Int.zero_fdiv]
    exact Nat.pos_of_ne_zero (by simp)
  · rw [Int.mul_fdiv_cancel_left _ hj]
    refine Nat.lt_of_le_of_lt ?_ a
    rw [Int.natAbs_mul]
    exact Nat.le_mul_of_pos_left _ (Int.natAbs_pos.mpr hj)
theorem sm_of {i : Int} {n : Nat} (h : i.natAbs < 2 ^ n) (hn : n ≤ 499999) : Sm i := Nat.lt_of_lt_of_le h (Nat.pow_le_pow_right (by decide) hn)
/-! ## models in the heap -/
def rowP (o : Kxd4.Observation) : Int × List Int := (o.response, o.row)
def termsI (m : Kxd4.Model) : List Int := m.terms.map fun (n : Nat) => (n : Int)
def ObsR (K : PySem.W.Frag) : RelS (Int × List Int) := PairR K IntR RowR
def mF (n : Int) (t r : V) : List (Str × V) := [("many", .int n), ("terms", t), ("rows", r)]
theorem lk_here {k : Str} {v : V} {r : List (Str × V)} : List.lookup k ((k, v) :: r) = some v := by
  have e : (k == k) = true := beq_self_eq_true k
  simp only [List.lookup, e]
theorem lk_past {k g : Str} {v : V} {r : List (Str × V)} (h : (k == g) = false) : List.lookup k ((g, v) :: r) = List.lookup k r := by
  simp only [List.lookup, h]
theorem mF_many (n : Int) (t r : V) : (mF n t r).lookup ("many" : Str) = some (.int n) := lk_here
theorem mF_terms (n : Int) (t r : V) : (mF n t r).lookup ("terms" : Str) = some t := (lk_past (by decide +kernel)).trans lk_here
theorem mF_rows (n : Int) (t r : V) : (mF n t r).lookup ("rows" : Str) = some r := (lk_past (by decide +kernel)).trans ((lk_past (by decide +kernel)).trans lk_here)
def ModelR (K : PySem.W.Frag) (a : Ad) : RelS Kxd4.Model :=
  ⟨fun H v m => ∃ p dx t r, v = .ref p ∧ H p = some (.ins a.cM dx (mF m.columns t r)) ∧ RowR.R H t (termsI m) ∧ (ListR (ObsR K)).R H r (m.data.map rowP),
    fun e ⟨p, dx, t, r, h1, h2, h3, h4⟩ => ⟨p, dx, t, r, h1, e _ _ h2, RowR.st e h3, (ListR (ObsR K)).st e h4⟩⟩
section
variable {P : Program} {w : World} {K : PySem.W.Frag} {mg : Str → Option Value} {base : Heap} {a : Ad}
theorem sc_common : FnScope ["one", "other"] ["one", "other"] (defScope (top 20)) := ⟨rfl, rfl, rfl, by decide +kernel, rfl, by decide +kernel, by decide +kernel⟩
/-- abs, then the greatest whole number that divides both -/
theorem kn_common (T : Wd P w K mg base a) : Kn P w K mg base 41 "common" (FnS IntR (Pre2 IntR IntR (fun _ _ => True) LF.common)) := by
  refine T.d_common.kn sc_common (fun _ _ _ _ _ _ us hl => match us, hl with | [_, _], _ => rfl) (fun G vs y ⟨v, w, _, _, h, _⟩ => by rw [h]; rfl) fun cdv f A outer s H E hr => ⟨_, (pss_cons (ps_par (i := 0) (j := 1) rfl sc_common.nd rfl rfl (by decide) rfl rfl (pa_cons (pe_callB cr_abs rfl T.b_abs (by decide +kernel) (pa_cons (pv 0) pa_nil)) (pa_cons (pe_callB cr_abs rfl T.b_abs (by decide +kernel) (pa_cons (pv 1) pa_nil)) pa_nil)) rfl) (pss_cons (ps_while PassesOwn.never (pt_cmpR op_gt (pv 1) pe_int (nomark _)) (pss_one (ps_par (i := 0) (j := 1) rfl sc_common.nd rfl rfl (by decide) rfl rfl (pa_cons (pv 1) (pa_cons (pe_op op_modN (pv 0) (pv 1)) pa_nil)) rfl))) (pss_one (ps_ret (pv 0))))), fun vs G y D e h k => ?_⟩
  obtain ⟨v, w, x, z, rfl, hx, hz, _, rfl⟩ := h
  refine seq_par (A := IntR) (B := IntR) e (ev_abs (ev_var rfl hx)) (ev_abs (ev_var rfl hz)) fun v' w' H2 G2 o rv rw => ?_
  have hv' : v' = .int (LF.absI x) := rv
  have hw' : w' = .int (LF.absI z) := rw
  subst hv' hw'
  have nn : ∀ i : Int, 0 ≤ LF.absI i := fun i => by unfold LF.absI; split <;> omega
  refine st_while (fun m σ' H' => Ok G H H' G2 ∧ ∃ p q : Int, σ' = [some (.int p), some (.int q)] ∧ 0 ≤ p ∧ 0 ≤ q ∧ m = q.toNat ∧ Int.gcd p q = Int.gcd x z) (LF.absI z).toNat
    ⟨o, LF.absI x, LF.absI z, rfl, nn x, nn z, rfl, gcd_abs x z⟩ fun m σ' H' h => ?_
  obtain ⟨o', p, q, rfl, hp, hq, hm, hg⟩ := h
  refine ⟨G2, decide (0 < q), o'.kn, et_test (ev_cmp (p := fun i j => decide (j < i)) (ev_var (A := IntR) rfl rfl) ev_int), fun hb H3 e3 => ?_, fun hb H3 e3 => ?_⟩
  · have hb := of_decide_eq_true hb
    refine st_par (A := IntR) (B := IntR) (o'.kn.trans e3) (ev_var rfl rfl) (ev_mod (by omega) (ev_var (A := IntR) rfl rfl) (ev_var (A := IntR) rfl rfl)) fun v1 w1 H4 G4 o4 r1 r2 => ?_
    have h1 : v1 = .int q := r1
    have h2 : w1 = .int (p.fmod q) := r2
    subst h1 h2
    have f0 : 0 ≤ p.fmod q := Int.fmod_nonneg hp hq
    have f1 : p.fmod q < q := Int.fmod_lt_of_pos p hb
    exact ⟨(p.fmod q).toNat, by omega, o'.trans (Ok.grow o'.kn (e3.trans o4.ex)), q, p.fmod q, rfl, hq, f0, rfl, (gcd_fmod p q).trans hg⟩
  · have hb := of_decide_eq_false hb
    have hq0 : q = 0 := by omega
    subst hq0
    refine st_ret (A := IntR) (x := p) (o'.kn.trans e3) (ev_var rfl rfl) fun u H4 G4 o4 ru => ?_
    refine k u H4 G4 ((o'.trans (Ok.grow o'.kn e3)).trans o4) ?_
    have hpe : p = LF.common x z := by
      unfold LF.common
      rw [← hg, Int.gcd_zero_right]
      omega
    rw [← hpe]
    exact ru
section
variable (T : Wd P w K mg base a) {te : TE} {σ : L2.St} {H : Hp} {m : Kxd4.Model}
include T
theorem ev_many (h : EV te σ H (ModelR K a) m) : EV (tFld K te "many") σ H IntR (m.columns : Int) := fun G H1 e e1 Q q => h G H1 e e1 _ fun v H2 G2 o ⟨p, dx, t, r, h1, h2, h3, h4⟩ =>
  ⟨p, a.cM, dx, _, _, h1, o.kn _ _ h2, T.clM, T.nMmany, mF_many .., q _ H2 G2 o rfl⟩
theorem ev_terms (h : EV te σ H (ModelR K a) m) : EV (tFld K te "terms") σ H RowR (termsI m) := fun G H1 e e1 Q q => h G H1 e e1 _ fun v H2 G2 o ⟨p, dx, t, r, h1, h2, h3, h4⟩ =>
  ⟨p, a.cM, dx, _, _, h1, o.kn _ _ h2, T.clM, T.nMterms, mF_terms .., q _ H2 G2 o h3⟩
theorem ev_rows (h : EV te σ H (ModelR K a) m) : EV (tFld K te "rows") σ H (ListR (ObsR K)) (m.data.map rowP) := fun G H1 e e1 Q q => h G H1 e e1 _ fun v H2 G2 o ⟨p, dx, t, r, h1, h2, h3, h4⟩ =>
  ⟨p, a.cM, dx, _, _, h1, o.kn _ _ h2, T.clM, T.nMrows, mF_rows .., q _ H2 G2 o h4⟩
end
theorem sc_multiple : FnScope ["one", "other"] ["one", "other"] (defScope (top 21)) := ⟨rfl, rfl, rfl, by decide +kernel, rfl, by decide +kernel, by decide +kernel⟩
theorem kn_multiple (T : Wd P w K mg base a) : Kn P w K mg base 42 "multiple" (FnS IntR (Pre2 IntR IntR (fun x y => y ≠ 0 ∧ Sm x ∧ Sm y) LF.multiple)) := by
  refine T.d_multiple.kn sc_multiple (fun _ _ _ _ _ _ us hl => match us, hl with | [_, _], _ => rfl) (fun G vs y ⟨v, w, _, _, h, _⟩ => by rw [h]; rfl) fun cdv f A outer s H E hr => ⟨_, (pss_one (ps_ret (pe_callB cr_abs rfl T.b_abs (by decide +kernel) (pa_cons (pe_op op_mulW (pe_op (op_fdivP T.ns T.tr (hr.mono (by decide)) rfl sc_multiple.gen sc_multiple.co rfl rfl) (pv 0) (pe_kn (kn_common T) (hr.mono (by decide)) rfl (pa_cons (pv 0) (pa_cons (pv 1) pa_nil)))) (pv 1)) pa_nil)))), fun vs G y D e h k => ?_⟩
  obtain ⟨v, w, x, z, rfl, hx, hz, ⟨hz0, sx, sz⟩, rfl⟩ := h
  exact st_ret e (ev_abs (ev_mulW ((sx.fdiv (LF.common_dvd x z).1).mul sz) (ev_div (LF.common_ne hz0) (ev_var rfl hx) (ev_call2 (ev_var rfl hx) (ev_var rfl hz) trivial)) (ev_var rfl hz))) k
theorem sc_ratio : FnScope ["top", "bottom", "part"] ["top", "bottom"] (defScope (top 22)) := ⟨rfl, rfl, rfl, by decide +kernel, rfl, by decide +kernel, by decide +kernel⟩
theorem kn_ratio (T : Wd P w K mg base a) : Kn P w K mg base 42 "ratio" (FnS (PrR K) (Pre2 IntR IntR (fun _ y => y ≠ 0) LF.ratio)) := by
  refine T.d_ratio.kn sc_ratio (fun _ _ _ _ _ _ us hl => match us, hl with | [_, _], _ => rfl) (fun G vs y ⟨v, w, _, _, h, _⟩ => by rw [h]; rfl) fun cdv f A outer s H E hr => ⟨_, (pss_cons (ps_set (i := 2) sc_ratio.nd rfl (Or.inl rfl) (pe_kn (kn_common T) (hr.mono (by decide)) rfl (pa_cons (pv 0) (pa_cons (pv 1) pa_nil)))) (pss_cons (ps_if (pt_cmpR op_lt (pv 1) pe_int (nomark _)) (pss_one (ps_set (i := 2) sc_ratio.nd rfl (Or.inl rfl) (pe_op op_sub pe_int (pv 2)))) pss_nil) (pss_one (ps_ret (pe_tup (pa_cons (pe_op (op_fdivP T.ns T.tr (hr.mono (by decide)) rfl sc_ratio.gen sc_ratio.co rfl rfl) (pv 0) (pv 2)) (pa_cons (pe_op (op_fdivP T.ns T.tr (hr.mono (by decide)) rfl sc_ratio.gen sc_ratio.co rfl rfl) (pv 1) (pv 2)) pa_nil))))))), fun vs G y D e h k => ?_⟩
  obtain ⟨v, w, x, z, rfl, hx, hz, hz0, rfl⟩ := h
  refine st_set (A := IntR) e (ev_call2 (ev_var rfl hx) (ev_var rfl hz) trivial) fun v1 H1 G1 o1 r1 => ?_
  have hp : LF.part x z ≠ 0 := by
    have := LF.common_ne (a := x) hz0
    unfold LF.part
    split <;> omega
  refine st_when o1.kn (et_test (ev_cmp (p := fun i j => decide (i < j)) (ev_var (A := IntR) rfl (IntR.st o1.up hz)) ev_int)) (fun hb H2 e2 => ?_) (fun hb H2 e2 => ?_)
  · have hb := of_decide_eq_true hb
    have ep : 0 - LF.common x z = LF.part x z := (if_pos hb).symm
    refine st_setL (A := IntR) (x := 0 - LF.common x z) (o1.kn.trans e2) (ev_sub ev_int (ev_var (A := IntR) rfl r1)) fun v2 H3 G3 o3 r3 => ?_
    rw [ep] at r3
    exact st_ret o3.kn (ev_pair (ev_div hp (ev_var rfl (IntR.st (o1.up.trans o3.up) hx)) (ev_var rfl r3)) (ev_div hp (ev_var rfl (IntR.st (o1.up.trans o3.up) hz)) (ev_var rfl r3))) fun u H4 G4 o4 ru =>
      k u H4 G4 (((o1.trans (Ok.grow o1.kn e2)).trans o3).trans o4) ru
  · have hb := of_decide_eq_false hb
    have ep : LF.common x z = LF.part x z := (if_neg hb).symm
    rw [ep] at r1
    exact st_ret (o1.kn.trans e2) (ev_pair (ev_div hp (ev_var rfl (IntR.st o1.up hx)) (ev_var rfl r1)) (ev_div hp (ev_var rfl (IntR.st o1.up hz)) (ev_var rfl r1))) fun u H4 G4 o4 ru =>
      k u H4 G4 ((o1.trans (Ok.grow o1.kn e2)).trans o4) ru
/-- a fraction whose numbers are small, the lower one not 0 -/
def Fr (p : Int × Int) : Prop := Sm p.1 ∧ Sm p.2 ∧ p.2 ≠ 0
theorem sc_plus : FnScope ["one", "other"] ["one", "other"] (defScope (top 23)) := ⟨rfl, rfl, rfl, by decide +kernel, rfl, by decide +kernel, by decide +kernel⟩
theorem kn_plus (T : Wd P w K mg base a) : Kn P w K mg base 43 "plus" (FnS (PrR K) (Pre2 (PrR K) (PrR K) (fun x y => Fr x ∧ Fr y) LF.plusP)) := by
  refine T.d_plus.kn sc_plus (fun _ _ _ _ _ _ us hl => match us, hl with | [_, _], _ => rfl) (fun G vs y ⟨v, w, _, _, h, _⟩ => by rw [h]; rfl) fun cdv f A outer s H E hr => ⟨_, (pss_one (ps_ret (pe_kn (kn_ratio T) (hr.mono (by decide)) rfl (pa_cons (pe_op op_add (pe_op op_mulW (pe_ix (ix_tupK (K := K) rfl) (pv 0) pe_int (fun _ _ => rfl)) (pe_ix (ix_tupK (K := K) rfl) (pv 1) pe_int (fun _ _ => rfl))) (pe_op op_mulW (pe_ix (ix_tupK (K := K) rfl) (pv 1) pe_int (fun _ _ => rfl)) (pe_ix (ix_tupK (K := K) rfl) (pv 0) pe_int (fun _ _ => rfl)))) (pa_cons (pe_op op_mulW (pe_ix (ix_tupK (K := K) rfl) (pv 0) pe_int (fun _ _ => rfl)) (pe_ix (ix_tupK (K := K) rfl) (pv 1) pe_int (fun _ _ => rfl))) pa_nil))))), fun vs G y D e h k => ?_⟩
  obtain ⟨v, w, x, z, rfl, hx, hz, ⟨⟨x1, x2, x3⟩, ⟨z1, z2, z3⟩⟩, rfl⟩ := h
  exact st_ret e (ev_call2 (ev_add (ev_mulW (x1.mul z2) (ev_fst (ev_var rfl hx)) (ev_snd (ev_var rfl hz))) (ev_mulW (z1.mul x2) (ev_fst (ev_var rfl hz)) (ev_snd (ev_var rfl hx)))) (ev_mulW (x2.mul z2) (ev_snd (ev_var rfl hx)) (ev_snd (ev_var rfl hz))) (Int.mul_ne_zero x3 z3)) k
theorem sc_minus : FnScope ["one", "other"] ["one", "other"] (defScope (top 24)) := ⟨rfl, rfl, rfl, by decide +kernel, rfl, by decide +kernel, by decide +kernel⟩
theorem kn_minus (T : Wd P w K mg base a) : Kn P w K mg base 43 "minus" (FnS (PrR K) (Pre2 (PrR K) (PrR K) (fun x y => Fr x ∧ Fr y) LF.minusP)) := by
  refine T.d_minus.kn sc_minus (fun _ _ _ _ _ _ us hl => match us, hl with | [_, _], _ => rfl) (fun G vs y ⟨v, w, _, _, h, _⟩ => by rw [h]; rfl) fun cdv f A outer s H E hr => ⟨_, (pss_one (ps_ret (pe_kn (kn_ratio T) (hr.mono (by decide)) rfl (pa_cons (pe_op op_sub (pe_op op_mulW (pe_ix (ix_tupK (K := K) rfl) (pv 0) pe_int (fun _ _ => rfl)) (pe_ix (ix_tupK (K := K) rfl) (pv 1) pe_int (fun _ _ => rfl))) (pe_op op_mulW (pe_ix (ix_tupK (K := K) rfl) (pv 1) pe_int (fun _ _ => rfl)) (pe_ix (ix_tupK (K := K) rfl) (pv 0) pe_int (fun _ _ => rfl)))) (pa_cons (pe_op op_mulW (pe_ix (ix_tupK (K := K) rfl) (pv 0) pe_int (fun _ _ => rfl)) (pe_ix (ix_tupK (K := K) rfl) (pv 1) pe_int (fun _ _ => rfl))) pa_nil))))), fun vs G y D e h k => ?_⟩
  obtain ⟨v, w, x, z, rfl, hx, hz, ⟨⟨x1, x2, x3⟩, ⟨z1, z2, z3⟩⟩, rfl⟩ := h
  exact st_ret e (ev_call2 (ev_sub (ev_mulW (x1.mul z2) (ev_fst (ev_var rfl hx)) (ev_snd (ev_var rfl hz))) (ev_mulW (z1.mul x2) (ev_fst (ev_var rfl hz)) (ev_snd (ev_var rfl hx)))) (ev_mulW (x2.mul z2) (ev_snd (ev_var rfl hx)) (ev_snd (ev_var rfl hz))) (Int.mul_ne_zero x3 z3)) k
theorem sc_times : FnScope ["one", "other"] ["one", "other"] (defScope (top 25)) := ⟨rfl, rfl, rfl, by decide +kernel, rfl, by decide +kernel, by decide +kernel⟩
theorem kn_times (T : Wd P w K mg base a) : Kn P w K mg base 43 "times" (FnS (PrR K) (Pre2 (PrR K) (PrR K) (fun x y => Fr x ∧ Fr y) LF.timesP)) := by
  refine T.d_times.kn sc_times (fun _ _ _ _ _ _ us hl => match us, hl with | [_, _], _ => rfl) (fun G vs y ⟨v, w, _, _, h, _⟩ => by rw [h]; rfl) fun cdv f A outer s H E hr => ⟨_, (pss_one (ps_ret (pe_kn (kn_ratio T) (hr.mono (by decide)) rfl (pa_cons (pe_op op_mulW (pe_ix (ix_tupK (K := K) rfl) (pv 0) pe_int (fun _ _ => rfl)) (pe_ix (ix_tupK (K := K) rfl) (pv 1) pe_int (fun _ _ => rfl))) (pa_cons (pe_op op_mulW (pe_ix (ix_tupK (K := K) rfl) (pv 0) pe_int (fun _ _ => rfl)) (pe_ix (ix_tupK (K := K) rfl) (pv 1) pe_int (fun _ _ => rfl))) pa_nil))))), fun vs G y D e h k => ?_⟩
  obtain ⟨v, w, x, z, rfl, hx, hz, ⟨⟨x1, x2, x3⟩, ⟨z1, z2, z3⟩⟩, rfl⟩ := h
  exact st_ret e (ev_call2 (ev_mulW (x1.mul z1) (ev_fst (ev_var rfl hx)) (ev_fst (ev_var rfl hz))) (ev_mulW (x2.mul z2) (ev_snd (ev_var rfl hx)) (ev_snd (ev_var rfl hz))) (Int.mul_ne_zero x3 z3)) k
theorem sc_over : FnScope ["one", "other"] ["one", "other"] (defScope (top 26)) := ⟨rfl, rfl, rfl, by decide +kernel, rfl, by decide +kernel, by decide +kernel⟩
theorem kn_over (T : Wd P w K mg base a) : Kn P w K mg base 43 "over" (FnS (PrR K) (Pre2 (PrR K) (PrR K) (fun x y => Fr x ∧ Fr y ∧ y.1 ≠ 0) LF.overP)) := by
  refine T.d_over.kn sc_over (fun _ _ _ _ _ _ us hl => match us, hl with | [_, _], _ => rfl) (fun G vs y ⟨v, w, _, _, h, _⟩ => by rw [h]; rfl) fun cdv f A outer s H E hr => ⟨_, (pss_one (ps_ret (pe_kn (kn_ratio T) (hr.mono (by decide)) rfl (pa_cons (pe_op op_mulW (pe_ix (ix_tupK (K := K) rfl) (pv 0) pe_int (fun _ _ => rfl)) (pe_ix (ix_tupK (K := K) rfl) (pv 1) pe_int (fun _ _ => rfl))) (pa_cons (pe_op op_mulW (pe_ix (ix_tupK (K := K) rfl) (pv 0) pe_int (fun _ _ => rfl)) (pe_ix (ix_tupK (K := K) rfl) (pv 1) pe_int (fun _ _ => rfl))) pa_nil))))), fun vs G y D e h k => ?_⟩
  obtain ⟨v, w, x, z, rfl, hx, hz, ⟨⟨x1, x2, x3⟩, ⟨z1, z2, z3⟩, z4⟩, rfl⟩ := h
  exact st_ret e (ev_call2 (ev_mulW (x1.mul z2) (ev_fst (ev_var rfl hx)) (ev_snd (ev_var rfl hz))) (ev_mulW (x2.mul z1) (ev_snd (ev_var rfl hx)) (ev_fst (ev_var rfl hz))) (Int.mul_ne_zero x3 z4)) k
theorem sc_square : FnScope ["number"] ["number"] (defScope (top 27)) := ⟨rfl, rfl, rfl, by decide +kernel, rfl, by decide +kernel, by decide +kernel⟩
theorem kn_square (T : Wd P w K mg base a) : Kn P w K mg base 41 "square" (FnS IntR (Pre1 IntR Sm LF.square)) := by
  refine T.d_square.kn sc_square (fun _ _ _ _ _ _ us hl => match us, hl with | [_], _ => rfl) (fun G vs y ⟨v, _, h, _⟩ => by rw [h]; rfl) fun cdv f A outer s H E hr => ⟨_, (pss_one (ps_ret (pe_op op_mulW (pv 0) (pv 0)))), fun vs G y D e h k => ?_⟩
  obtain ⟨v, x, rfl, hx, sx, rfl⟩ := h
  exact st_ret e (ev_mulW (sx.mul sx) (ev_var rfl hx) (ev_var rfl hx)) k
/-! ## ranges -/
def isWithin (n most : Int) : Bool := decide (0 - most ≤ n) && decide (n ≤ most)
def areWithin (ns : List Int) (many most : Int) : Bool := decide ((ns.length : Int) = many) && (ns.map fun n => isWithin n most).all id
theorem sc_is_within : FnScope ["number", "most"] ["number", "most"] (defScope (top 11)) := ⟨rfl, rfl, rfl, by decide +kernel, rfl, by decide +kernel, by decide +kernel⟩
theorem kn_is_within (T : Wd P w K mg base a) : Kn P w K mg base 41 "is_within" (FnS BoolR (Pre2 IntR IntR (fun _ _ => True) isWithin)) := by
  refine T.d_is_within.kn sc_is_within (fun _ _ _ _ _ _ us hl => match us, hl with | [_, _], _ => rfl) (fun G vs y ⟨v, w, _, _, h, _⟩ => by rw [h]; rfl) fun cdv f A outer s H E hr => ⟨_, (pss_one (ps_ret (pe_chain op_le op_le (pe_op op_sub pe_int (pv 1)) (pv 0) (pv 1)))), fun vs G y D e h k => ?_⟩
  obtain ⟨v, w, x, z, rfl, hx, hz, _, rfl⟩ := h
  exact st_ret e (ev_chain (p := fun i j => decide (i ≤ j)) (p' := fun i j => decide (i ≤ j)) (ev_sub ev_int (ev_var rfl hz)) (ev_var rfl hx) (ev_var rfl hz)) k
theorem sc_are_within : FnScope ["numbers", "many", "most", "number"] ["numbers", "many", "most"] (defScope (top 12)) := ⟨rfl, rfl, rfl, by decide +kernel, rfl, by decide +kernel, by decide +kernel⟩
theorem kn_are_within (T : Wd P w K mg base a) : Kn P w K mg base 42 "are_within" (FnS BoolR (Pre3 RowR IntR IntR (fun x _ _ => x.length ≤ 100000) areWithin)) := by
  refine T.d_are_within.kn sc_are_within (fun _ _ _ _ _ _ us hl => match us, hl with | [_, _, _], _ => rfl) (fun G vs y ⟨v, w, u, _, _, _, h, _⟩ => by rw [h]; rfl) fun cdv f A outer s H E hr => ⟨_, (pss_one (ps_ret (pe_and (pe_cmpR op_eq (pe_callB (cr_lenK (K := K) rfl) rfl T.b_len PySem.boot_len (pa_cons (pv 0) pa_nil)) (pv 1) (nomark _)) (pe_one (pe_callB (cr_allK (K := K) rfl rfl) rfl T.b_all (by decide +kernel) (pa_cons (pe_lc (own := [("number", 3)]) rfl sc_are_within.nd (pi_listK (K := K) rfl (pv 0)) (blkOk_by (N := ["numbers", "many", "most", "number"]) (sc := (defScope (top 12))) (by decide +kernel)) (fun _ _ _ _ _ => (pg_name (i := 3) sc_are_within.nd rfl (Or.inl rfl))) (fun _ _ _ _ _ => pts_nil) (fun _ _ _ _ _ => (pe_kn (kn_is_within T) (hr.mono (by decide)) rfl (pa_cons (pv 3) (pa_cons (pv 2) pa_nil))))) pa_nil)))))), fun vs G y D e h k => ?_⟩
  obtain ⟨v, w, u, x, z, t, rfl, hx, hz, ht, hl, rfl⟩ := h
  refine st_ret e (ev_andV (ev_eqI (ev_len (ev_var rfl hx)) (ev_var rfl hz)) fun _ => ev_all (ev_lc (fun n => isWithin n t) (src_list (ev_var rfl hx)) (tg_name 3) rfl hl fun i n G1 σ2 hi e1 ag hn => ?_)) k
  exact ev_call2 hn.ev (ev_var ((ag.2 2 (by decide)).trans rfl) (IntR.st e1 ht)) trivial
end
end LW

set_option linter.all false
set_option Elab.async false
set_option maxRecDepth 100000
set_option maxHeartbeats 4000000
namespace LW
open PySem PySem.Spec PyProof.Rows L2
open Evl (Ex)
section
variable {P : Program} {w : World} {K : PySem.W.Frag} {mg : Str → Option Value} {base : Heap} {a : Ad}
theorem isRow_within (m : Kxd4.Model) (v : List Int) : areWithin v (m.columns : Int) 1000 = Kxd4.isRow m v := by
  unfold areWithin Kxd4.isRow isWithin
  rw [List.all_map]
  congr 1
  by_cases h : v.length = m.columns
  · rw [decide_eq_true (by omega), beq_iff_eq.mpr h]
  · rw [decide_eq_false (by omega), beq_eq_false_iff_ne.mpr h]
theorem sc_is_vector : FnScope ["model", "numbers"] ["model", "numbers"] (defScope (top 13)) := ⟨rfl, rfl, rfl, by decide +kernel, rfl, by decide +kernel, by decide +kernel⟩
theorem kn_is_vector (T : Wd P w K mg base a) : Kn P w K mg base 43 "is_vector" (FnS BoolR (Pre2 (ModelR K a) RowR (fun _ x => x.length ≤ 100000) Kxd4.isRow)) := by
  refine T.d_is_vector.kn sc_is_vector (fun _ _ _ _ _ _ us hl => match us, hl with | [_, _], _ => rfl) (fun G vs y ⟨v, w, _, _, h, _⟩ => by rw [h]; rfl) fun cdv f A outer s H E hr => ⟨_, (pss_one (ps_ret (pe_kn (kn_are_within T) (hr.mono (by decide)) rfl (pa_cons (pv 1) (pa_cons (pe_fldK (K := K) rfl (pv 0) rfl) (pa_cons (pe_gint T.g_MOST_ENTRY rfl) pa_nil)))))), fun vs G y D e h k => ?_⟩
  obtain ⟨v, w, m, x, rfl, hm, hx, hl, rfl⟩ := h
  exact st_ret e ((ev_call3 (ev_var rfl hx) (ev_many T (ev_var rfl hm)) ev_int hl).to (isRow_within m x)) k
def isIndex (m : Kxd4.Model) (i : Int) : Bool := decide (0 ≤ i) && decide (i < (m.data.length : Int))
theorem sc_is_index : FnScope ["model", "index"] ["model", "index"] (defScope (top 14)) := ⟨rfl, rfl, rfl, by decide +kernel, rfl, by decide +kernel, by decide +kernel⟩
theorem kn_is_index (T : Wd P w K mg base a) : Kn P w K mg base 43 "is_index" (FnS BoolR (Pre2 (ModelR K a) IntR (fun _ _ => True) isIndex)) := by
  refine T.d_is_index.kn sc_is_index (fun _ _ _ _ _ _ us hl => match us, hl with | [_, _], _ => rfl) (fun G vs y ⟨v, w, _, _, h, _⟩ => by rw [h]; rfl) fun cdv f A outer s H E hr => ⟨_, (pss_one (ps_ret (pe_chain op_le op_lt pe_int (pv 1) (pe_callB (cr_lenK (K := K) rfl) rfl T.b_len PySem.boot_len (pa_cons (pe_fldK (K := K) rfl (pv 0) rfl) pa_nil))))), fun vs G y D e h k => ?_⟩
  obtain ⟨v, w, m, x, rfl, hm, hx, hl, rfl⟩ := h
  refine st_ret e ((ev_chain (p := fun i j => decide (i ≤ j)) (p' := fun i j => decide (i < j)) ev_int (ev_var rfl hx) (ev_len (ev_rows T (ev_var rfl hm)))).to ?_) k
  unfold isIndex
  rw [List.length_map]
def areTermsI (m : Kxd4.Model) (ns : List Int) : Bool :=
  if (!decide ((ns.length : Int) = (m.columns : Int)) || !decide (ns.getD 0 0 = 0)) = true then false
  else ((List.range' 1 (ns.length - 1)).map fun p => decide (0 ≤ ns.getD p 0 - ns.getD (p - 1) 0) && decide (ns.getD p 0 - ns.getD (p - 1) 0 ≤ 1)).all id
theorem get_D {l : List Int} {i : Nat} (h : i < l.length) : l[i]? = some (l.getD i 0) := by
  rw [List.getD_eq_getElem?_getD, List.getElem?_eq_getElem h]
  rfl
theorem sc_are_terms : FnScope ["model", "numbers", "at"] ["model", "numbers"] (defScope (top 15)) := ⟨rfl, rfl, rfl, by decide +kernel, rfl, by decide +kernel, by decide +kernel⟩
theorem kn_are_terms (T : Wd P w K mg base a) : Kn P w K mg base 43 "are_terms" (FnS BoolR (Pre2 (ModelR K a) RowR (fun m x => 1 ≤ m.columns ∧ m.columns ≤ 8 ∧ x.length ≤ 100000) areTermsI)) := by
  refine T.d_are_terms.kn sc_are_terms (fun _ _ _ _ _ _ us hl => match us, hl with | [_, _], _ => rfl) (fun G vs y ⟨v, w, _, _, h, _⟩ => by rw [h]; rfl) fun cdv f A outer s H E hr => ⟨_, (pss_cons (ps_if (PW.pt (pw_or (pt_cmpR op_ne (pe_callB (cr_lenK (K := K) rfl) rfl T.b_len PySem.boot_len (pa_cons (pv 1) pa_nil)) (pe_fldK (K := K) rfl (pv 0) rfl) (nomark _)) (pw_or1 (pt_cmpR op_ne (pe_ix (ix_listK (K := K) rfl) (pv 1) pe_int (fun _ _ => rfl)) pe_int (nomark _))))) (pss_one (ps_ret pe_bl)) pss_nil) (pss_one (ps_ret (pe_callB (cr_allK (K := K) rfl rfl) rfl T.b_all (by decide +kernel) (pa_cons (pe_lc (own := [("at", 2)]) rfl sc_are_terms.nd (pi_range2 rfl T.b_range (pa_cons pe_int (pa_cons (pe_callB (cr_lenK (K := K) rfl) rfl T.b_len PySem.boot_len (pa_cons (pv 1) pa_nil)) pa_nil))) (blkOk_by (N := ["model", "numbers", "at"]) (sc := (defScope (top 15))) (by decide +kernel)) (fun _ _ _ _ _ => (pg_name (i := 2) sc_are_terms.nd rfl (Or.inl rfl))) (fun _ _ _ _ _ => pts_nil) (fun _ _ _ _ _ => (pe_chain op_le op_le pe_int (pe_op op_sub (pe_ix (ix_listK (K := K) rfl) (pv 1) (pv 2) (fun _ _ => rfl)) (pe_ix (ix_listK (K := K) rfl) (pv 1) (pe_op op_sub (pv 2) pe_int) (fun _ _ => rfl))) pe_int))) pa_nil))))), fun vs G y D e h k => ?_⟩
  obtain ⟨v, w, m, x, rfl, hm, hx, ⟨c1, c8, hl⟩, rfl⟩ := h
  refine st_when e (et_or (et_test (ev_neI (ev_len (ev_var rfl hx)) (ev_many T (ev_var rfl hm)))) fun hb => et_test (ev_neI (ev_ix (n := 0) rfl (get_D (by
    have : decide ((x.length : Int) = (m.columns : Int)) = true := by simpa using hb
    have := of_decide_eq_true this
    omega)) (ev_var rfl hx) ev_int) ev_int)) (fun hb H2 e2 => ?_) (fun hb H2 e2 => ?_)
  · refine st_ret (A := BoolR) (x := false) (e.trans e2) ev_bl fun u H3 G3 o3 ru => k u H3 G3 ((Ok.grow e e2).trans o3) ?_
    unfold areTermsI
    rw [if_pos hb]
    exact ru
  · have hlen : x.length = m.columns := by
      have h1 := (Bool.or_eq_false_iff.mp hb).1
      have : decide ((x.length : Int) = (m.columns : Int)) = true := by simpa using h1
      have := of_decide_eq_true this
      omega
    refine st_ret (A := BoolR) (e.trans e2) (ev_all (ev_lc (B := BoolR) (fun p => decide (0 ≤ x.getD p 0 - x.getD (p - 1) 0) && decide (x.getD p 0 - x.getD (p - 1) 0 ≤ 1)) (src_rng2 (lo := 1) (hi := x.length) rfl rfl (by omega) (by omega) ev_int (ev_len (ev_var rfl hx))) (tg_name 2) rfl (by rw [List.length_range']; omega) fun i p G1 σ2 hi e1 ag hp => ?_)) fun u H3 G3 o3 ru => k u H3 G3 ((Ok.grow e e2).trans o3) ?_
    · have hx1 : σ2[1]? = some (some w) := (ag.2 1 (by decide)).trans rfl
      have hxr := RowR.st e1 hx
      have hpi : p = 1 + i ∧ i < x.length - 1 := by
        obtain ⟨h1, h2⟩ := List.getElem?_eq_some_iff.mp hi
        rw [List.length_range'] at h1
        rw [List.getElem_range'] at h2
        omega
      have hp' : EV (tVar 2) σ2 G1 IntR (p : Int) := (hp.ev).as fun v H2 _ r => r
      have hd : EV (tOp rSubI (tOp (rIxL K) (tVar 1) (tVar 2)) (tOp (rIxL K) (tVar 1) (tOp rSubI (tVar 2) (tC (.int 1))))) σ2 G1 IntR (x.getD p 0 - x.getD (p - 1) 0) :=
        ev_sub (ev_ix (n := p) rfl (get_D (by omega)) (ev_var hx1 hxr) hp') (ev_ix (n := p - 1) (by omega) (get_D (by omega)) (ev_var hx1 hxr) (ev_sub hp' ev_int))
      exact ev_chain (p := fun i j => decide (i ≤ j)) (p' := fun i j => decide (i ≤ j)) ev_int hd ev_int
    · unfold areTermsI
      rw [if_neg (by rw [hb]; exact Bool.false_ne_true)]
      exact ru
def isSurfaceI (many c : Int) (l q : List Int) : Bool :=
  if (!(decide (1 ≤ many) && decide (many ≤ 3)) || !isWithin c 1000000) = true then false
  else areWithin l many 1000000 && areWithin q ((many * (many + 1)).fdiv 2) 1000000
theorem sc_is_surface : FnScope ["many", "constant", "linear", "quadratic"] ["many", "constant", "linear", "quadratic"] (defScope (top 16)) := ⟨rfl, rfl, rfl, by decide +kernel, rfl, by decide +kernel, by decide +kernel⟩
theorem kn_is_surface (T : Wd P w K mg base a) : Kn P w K mg base 43 "is_surface" (FnS BoolR (Pre4 IntR IntR RowR RowR (fun _ _ l q => l.length ≤ 100000 ∧ q.length ≤ 100000) isSurfaceI)) := by
  refine T.d_is_surface.kn sc_is_surface (fun _ _ _ _ _ _ us hl => match us, hl with | [_, _, _, _], _ => rfl) (fun G vs y ⟨_, _, _, _, _, _, _, _, h, _⟩ => by rw [h]; rfl) fun cdv f A outer s H E hr => ⟨_, (pss_cons (ps_if (PW.pt (pw_or (pt_not (pt_chain op_le op_le pe_int (pv 0) (pe_gint T.g_MOST_VARIABLES rfl))) (pw_or1 (pt_not (pt_val (pe_kn (kn_is_within T) (hr.mono (by decide)) rfl (pa_cons (pv 1) (pa_cons (pe_gint T.g_GREATEST rfl) pa_nil)))))))) (pss_one (ps_ret pe_bl)) pss_nil) (pss_one (ps_ret (pe_and (pe_kn (kn_are_within T) (hr.mono (by decide)) rfl (pa_cons (pv 2) (pa_cons (pv 0) (pa_cons (pe_gint T.g_GREATEST rfl) pa_nil)))) (pe_one (pe_kn (kn_are_within T) (hr.mono (by decide)) rfl (pa_cons (pv 3) (pa_cons (pe_op (op_fdivP T.ns T.tr (hr.mono (by decide)) rfl sc_is_surface.gen sc_is_surface.co rfl rfl) (pe_op op_mulW (pv 0) (pe_op op_add (pv 0) pe_int)) pe_int) (pa_cons (pe_gint T.g_GREATEST rfl) pa_nil))))))))), fun vs G y D e h k => ?_⟩
  obtain ⟨v1, v2, v3, v4, n, c, l, q, rfl, h1, h2, h3, h4, ⟨hl, hq⟩, rfl⟩ := h
  refine st_when e (et_or (et_not (et_test (ev_chain (p := fun i j => decide (i ≤ j)) (p' := fun i j => decide (i ≤ j)) ev_int (ev_var rfl h1) ev_int))) fun _ => et_not (et_B (ev_call2 (ev_var rfl h2) ev_int trivial))) (fun hb H2 e2 => ?_) (fun hb H2 e2 => ?_)
  · refine st_ret (A := BoolR) (x := false) (e.trans e2) ev_bl fun u H3 G3 o3 ru => k u H3 G3 ((Ok.grow e e2).trans o3) ?_
    unfold isSurfaceI
    rw [if_pos hb]
    exact ru
  · have hn : 1 ≤ n ∧ n ≤ 3 := by
      have h1 := (Bool.or_eq_false_iff.mp hb).1
      have : (decide (1 ≤ n) && decide (n ≤ 3)) = true := by simpa using h1
      rw [Bool.and_eq_true] at this
      exact ⟨of_decide_eq_true this.1, of_decide_eq_true this.2⟩
    refine st_ret (A := BoolR) (e.trans e2) (ev_andV (ev_call3 (ev_var rfl h3) (ev_var rfl h1) ev_int hl) fun _ => ev_call3 (ev_var rfl h4) (ev_div (by decide) (ev_mulW ?_ (ev_var rfl h1) (ev_add (ev_var rfl h1) ev_int)) ev_int) ev_int hq) fun u H3 G3 o3 ru => k u H3 G3 ((Ok.grow e e2).trans o3) ?_
    · refine Sm.mul (sm_of (n := 10) ?_ (by decide)) (sm_of (n := 10) ?_ (by decide))
      · show n.natAbs < 1024; omega
      · show (n + 1).natAbs < 1024; omega
    · unfold isSurfaceI
      rw [if_neg (by rw [hb]; exact Bool.false_ne_true)]
      exact ru
/-! ## a model's parts -/
theorem termsI_last {m : Kxd4.Model} (h : m.terms ≠ []) : (termsI m).getLast? = some ((m.terms.getLastD 0 : Nat) : Int) := by
  unfold termsI
  rw [List.getLast?_map, List.getLastD_eq_getLast?]
  cases q : m.terms.getLast? with
  | none => exact absurd (List.getLast?_eq_none_iff.mp q) h
  | some x => rfl
theorem sc_term_count : FnScope ["model"] ["model"] (defScope (top 31)) := ⟨rfl, rfl, rfl, by decide +kernel, rfl, by decide +kernel, by decide +kernel⟩
theorem kn_term_count (T : Wd P w K mg base a) : Kn P w K mg base 41 "term_count" (FnS IntR (Pre1 (ModelR K a) (fun m => m.terms ≠ []) (fun m => ((LF.termCountN m : Nat) : Int)))) := by
  refine T.d_term_count.kn sc_term_count (fun _ _ _ _ _ _ us hl => match us, hl with | [_], _ => rfl) (fun G vs y ⟨v, _, h, _⟩ => by rw [h]; rfl) fun cdv f A outer s H E hr => ⟨_, (pss_one (ps_ret (pe_op op_add (pe_ix (ix_listK (K := K) rfl) (pe_fldK (K := K) rfl (pv 0) rfl) (pe_un un_neg pe_int) (fun _ _ => rfl)) pe_int))), fun vs G y D e h k => ?_⟩
  obtain ⟨v, m, rfl, hm, hn, rfl⟩ := h
  exact st_ret e (ev_add (ev_ixLast (termsI_last hn) (ev_terms T (ev_var rfl hm)) (ev_neg ev_int)) ev_int) k
theorem sc_responses_of : FnScope ["model", "response", "entries"] ["model"] (defScope (top 32)) := ⟨rfl, rfl, rfl, by decide +kernel, rfl, by decide +kernel, by decide +kernel⟩
theorem kn_responses_of (T : Wd P w K mg base a) : Kn P w K mg base 41 "responses_of" (FnS RowR (Pre1 (ModelR K a) (fun m => m.data.length ≤ 100000) LF.resps)) := by
  refine T.d_responses_of.kn sc_responses_of (fun _ _ _ _ _ _ us hl => match us, hl with | [_], _ => rfl) (fun G vs y ⟨v, _, h, _⟩ => by rw [h]; rfl) fun cdv f A outer s H E hr => ⟨_, (pss_one (ps_ret (pe_lc (own := [("response", 1), ("entries", 2)]) rfl sc_responses_of.nd (pi_listK (K := K) rfl (pe_fldK (K := K) rfl (pv 0) rfl)) (blkOk_by (N := ["model", "response", "entries"]) (sc := (defScope (top 32))) (by decide +kernel)) (fun _ _ _ _ _ => (pg_tupK (K := K) (n := 2) rfl rfl (pgs_cons (pg_name (i := 1) sc_responses_of.nd rfl (Or.inl rfl)) (pgs_cons (pg_name (i := 2) sc_responses_of.nd rfl (Or.inl rfl)) pgs_nil)))) (fun _ _ _ _ _ => pts_nil) (fun _ _ _ _ _ => (pv 1))))), fun vs G y D e h k => ?_⟩
  obtain ⟨v, m, rfl, hm, hl, rfl⟩ := h
  refine st_ret e ((ev_lc (B := IntR) (fun p : Int × List Int => p.1) (src_list (ev_rows T (ev_var rfl hm))) (tg_pair 1 2 (by decide)) rfl (by rw [List.length_map]; exact hl) fun i p G1 σ2 hi e1 ag hp => hp.1.ev).to ?_) k
  rw [List.map_map]
  rfl
theorem sc_entries_of : FnScope ["model", "response", "entries"] ["model"] (defScope (top 33)) := ⟨rfl, rfl, rfl, by decide +kernel, rfl, by decide +kernel, by decide +kernel⟩
theorem kn_entries_of (T : Wd P w K mg base a) : Kn P w K mg base 41 "entries_of" (FnS TabR (Pre1 (ModelR K a) (fun m => m.data.length ≤ 100000) LF.ents)) := by
  refine T.d_entries_of.kn sc_entries_of (fun _ _ _ _ _ _ us hl => match us, hl with | [_], _ => rfl) (fun G vs y ⟨v, _, h, _⟩ => by rw [h]; rfl) fun cdv f A outer s H E hr => ⟨_, (pss_one (ps_ret (pe_lc (own := [("response", 1), ("entries", 2)]) rfl sc_entries_of.nd (pi_listK (K := K) rfl (pe_fldK (K := K) rfl (pv 0) rfl)) (blkOk_by (N := ["model", "response", "entries"]) (sc := (defScope (top 33))) (by decide +kernel)) (fun _ _ _ _ _ => (pg_tupK (K := K) (n := 2) rfl rfl (pgs_cons (pg_name (i := 1) sc_entries_of.nd rfl (Or.inl rfl)) (pgs_cons (pg_name (i := 2) sc_entries_of.nd rfl (Or.inl rfl)) pgs_nil)))) (fun _ _ _ _ _ => pts_nil) (fun _ _ _ _ _ => (pv 2))))), fun vs G y D e h k => ?_⟩
  obtain ⟨v, m, rfl, hm, hl, rfl⟩ := h
  refine st_ret e ((ev_lc (B := RowR) (fun p : Int × List Int => p.2) (src_list (ev_rows T (ev_var rfl hm))) (tg_pair 1 2 (by decide)) rfl (by rw [List.length_map]; exact hl) fun i p G1 σ2 hi e1 ag hp => hp.2.ev).to ?_) k
  rw [List.map_map]
  rfl
theorem sc_entries_at : FnScope ["model", "places", "response", "entries", "place"] ["model", "places"] (defScope (top 34)) := ⟨rfl, rfl, rfl, by decide +kernel, rfl, by decide +kernel, by decide +kernel⟩
theorem kn_entries_at (T : Wd P w K mg base a) : Kn P w K mg base 41 "entries_at" (FnS TabR (Pre2 (ModelR K a) (ListR NatR) (fun m ps => m.data.length ≤ 100000 ∧ ps.length ≤ 100000 ∧ ∀ o ∈ m.data, ∀ p ∈ ps, p < o.row.length) LF.entsAt)) := by
  refine T.d_entries_at.kn sc_entries_at (fun _ _ _ _ _ _ us hl => match us, hl with | [_, _], _ => rfl) (fun G vs y ⟨v, w, _, _, h, _⟩ => by rw [h]; rfl) fun cdv f A outer s H E hr => ⟨_, (pss_one (ps_ret (pe_lc (own := [("response", 2), ("entries", 3)]) rfl sc_entries_at.nd (pi_listK (K := K) rfl (pe_fldK (K := K) rfl (pv 0) rfl)) (blkOk_by (N := ["model", "places", "response", "entries", "place"]) (sc := (defScope (top 34))) (by decide +kernel)) (fun _ _ _ _ _ => (pg_tupK (K := K) (n := 2) rfl rfl (pgs_cons (pg_name (i := 2) sc_entries_at.nd rfl (Or.inl rfl)) (pgs_cons (pg_name (i := 3) sc_entries_at.nd rfl (Or.inr rfl)) pgs_nil)))) (fun _ _ _ _ _ => pts_nil) (fun _ _ _ _ _ => (pe_lc (own := [("place", 4)]) rfl sc_entries_at.nd (pi_listK (K := K) rfl (pv 1)) (blkOk_by (N := ["model", "places", "response", "entries", "place"]) (sc := (relS _ (defScope (top 34)))) (by decide +kernel)) (fun _ _ _ _ _ => (pg_name (i := 4) sc_entries_at.nd rfl (Or.inl rfl))) (fun _ _ _ _ _ => pts_nil) (fun _ _ _ _ _ => (pe_ix (ix_listK (K := K) rfl) (pv 3) (pv 4) (fun _ _ => rfl)))))))), fun vs G y D e h k => ?_⟩
  obtain ⟨v, w, m, ps, rfl, hm, hps, ⟨hl, hp, hin⟩, rfl⟩ := h
  refine st_ret e ((ev_lc (B := RowR) (fun p : Int × List Int => ps.map fun j => p.2.getD j 0) (src_list (ev_rows T (ev_var rfl hm))) (tg_pair 2 3 (by decide)) rfl (by rw [List.length_map]; exact hl) fun i p G1 σ2 hi e1 ag hpr => ?_).to ?_) k
  · have hr2 : ∀ j ∈ ps, j < p.2.length := fun j hj => by
      obtain ⟨o, ho, rfl⟩ := List.mem_map.mp (List.mem_of_getElem? hi)
      exact hin o ho j hj
    refine ev_lc (B := IntR) (fun j => p.2.getD j 0) (src_list (ev_var ((ag.2 1 (by decide)).trans rfl) ((ListR NatR).st e1 hps))) (tg_name 4) ?_ hp fun i' j G2 σ3 hi' e2 ag' hj => ?_
    · unfold inb
      rw [ag.1]
      rfl
    · exact ev_ix (n := j) rfl (get_D (hr2 j (List.mem_of_getElem? hi'))) ((hpr.2.mono e2).agr ag' (by decide)).ev ((hj.ev).as fun v H2 _ r => r)
  · unfold LF.entsAt
    rw [List.map_map]
    rfl
theorem termsI_get {m : Kxd4.Model} {j : Nat} (h : j < m.terms.length) : (termsI m)[j]? = some ((m.terms.getD j 0 : Nat) : Int) := by
  unfold termsI
  rw [List.getElem?_map, List.getD_eq_getElem?_getD, List.getElem?_eq_getElem h]
  rfl
theorem sc_places_below : FnScope ["model", "term", "place"] ["model", "term"] (defScope (top 35)) := ⟨rfl, rfl, rfl, by decide +kernel, rfl, by decide +kernel, by decide +kernel⟩
theorem kn_places_below (T : Wd P w K mg base a) : Kn P w K mg base 41 "places_below" (FnS (ListR NatR) (Pre2 (ModelR K a) NatR (fun m _ => m.columns ≤ 8 ∧ m.terms.length = m.columns) LF.placesBelow)) := by
  refine T.d_places_below.kn sc_places_below (fun _ _ _ _ _ _ us hl => match us, hl with | [_, _], _ => rfl) (fun G vs y ⟨v, w, _, _, h, _⟩ => by rw [h]; rfl) fun cdv f A outer s H E hr => ⟨_, (pss_one (ps_ret (pe_lc (own := [("place", 2)]) rfl sc_places_below.nd (pi_range1 rfl T.b_range (pa_cons (pe_fldK (K := K) rfl (pv 0) rfl) pa_nil)) (blkOk_by (N := ["model", "term", "place"]) (sc := (defScope (top 35))) (by decide +kernel)) (fun _ _ _ _ _ => (pg_name (i := 2) sc_places_below.nd rfl (Or.inl rfl))) (fun _ _ _ _ _ => (pts_one (pt_cmpR op_lt (pe_ix (ix_listK (K := K) rfl) (pe_fldK (K := K) rfl (pv 0) rfl) (pv 2) (fun _ _ => rfl)) (pv 1) (nomark _)))) (fun _ _ _ _ _ => (pv 2))))), fun vs G y D e h k => ?_⟩
  obtain ⟨v, w, m, t, rfl, hm, ht, ⟨c8, hl⟩, rfl⟩ := h
  refine st_ret e ((ev_lcF (B := NatR) (fun p => decide (m.terms.getD p 0 < t)) (fun p => p) (src_rng1 (k := m.columns) rfl (by omega) (ev_many T (ev_var rfl hm))) (tg_name 2) rfl (by rw [List.length_range]; omega) fun i p G1 σ2 hi e1 ag hp => ⟨?_, fun _ => hp.ev⟩).to ?_) k
  · have hpc : p < m.columns := List.mem_range.mp (List.mem_of_getElem? hi)
    refine (et_test (ev_cmp (p := fun i j => decide (i < j)) (ev_ix (n := p) rfl (termsI_get (by omega)) (ev_terms T (ev_var ((ag.2 0 (by decide)).trans rfl) ((ModelR K a).st e1 hm))) ((hp.ev).as fun v H2 _ r => r)) (ev_var (A := IntR) (x := (t : Int)) ((ag.2 1 (by decide)).trans rfl) (NatR.st e1 ht)))).to ?_
    rw [decide_eq_decide]
    omega
  · rw [List.map_id'']
    · rfl
    · intro _; rfl
theorem sc_places_beside : FnScope ["model", "term", "place"] ["model", "term"] (defScope (top 36)) := ⟨rfl, rfl, rfl, by decide +kernel, rfl, by decide +kernel, by decide +kernel⟩
theorem kn_places_beside (T : Wd P w K mg base a) : Kn P w K mg base 41 "places_beside" (FnS (ListR NatR) (Pre2 (ModelR K a) NatR (fun m _ => m.columns ≤ 8 ∧ m.terms.length = m.columns) LF.placesBeside)) := by
  refine T.d_places_beside.kn sc_places_beside (fun _ _ _ _ _ _ us hl => match us, hl with | [_, _], _ => rfl) (fun G vs y ⟨v, w, _, _, h, _⟩ => by rw [h]; rfl) fun cdv f A outer s H E hr => ⟨_, (pss_one (ps_ret (pe_lc (own := [("place", 2)]) rfl sc_places_beside.nd (pi_range1 rfl T.b_range (pa_cons (pe_fldK (K := K) rfl (pv 0) rfl) pa_nil)) (blkOk_by (N := ["model", "term", "place"]) (sc := (defScope (top 36))) (by decide +kernel)) (fun _ _ _ _ _ => (pg_name (i := 2) sc_places_beside.nd rfl (Or.inl rfl))) (fun _ _ _ _ _ => (pts_one (pt_cmpR op_ne (pe_ix (ix_listK (K := K) rfl) (pe_fldK (K := K) rfl (pv 0) rfl) (pv 2) (fun _ _ => rfl)) (pv 1) (nomark _)))) (fun _ _ _ _ _ => (pv 2))))), fun vs G y D e h k => ?_⟩
  obtain ⟨v, w, m, t, rfl, hm, ht, ⟨c8, hl⟩, rfl⟩ := h
  refine st_ret e ((ev_lcF (B := NatR) (fun p => decide (m.terms.getD p 0 ≠ t)) (fun p => p) (src_rng1 (k := m.columns) rfl (by omega) (ev_many T (ev_var rfl hm))) (tg_name 2) rfl (by rw [List.length_range]; omega) fun i p G1 σ2 hi e1 ag hp => ⟨?_, fun _ => hp.ev⟩).to ?_) k
  · have hpc : p < m.columns := List.mem_range.mp (List.mem_of_getElem? hi)
    refine (et_test (ev_neI (ev_ix (n := p) rfl (termsI_get (by omega)) (ev_terms T (ev_var ((ag.2 0 (by decide)).trans rfl) ((ModelR K a).st e1 hm))) ((hp.ev).as fun v H2 _ r => r)) (ev_var (A := IntR) (x := (t : Int)) ((ag.2 1 (by decide)).trans rfl) (NatR.st e1 ht)))).to ?_
    by_cases h : m.terms.getD p 0 = t
    · rw [decide_eq_true (show ((m.terms.getD p 0 : Nat) : Int) = (t : Int) by omega), decide_eq_false (fun z => z h)]
      rfl
    · rw [decide_eq_false (show ¬ ((m.terms.getD p 0 : Nat) : Int) = (t : Int) by omega), decide_eq_true h]
      rfl
  · rw [List.map_id'']
    · rfl
    · intro _; rfl
end
end LW

set_option linter.all false
set_option Elab.async false
set_option maxRecDepth 100000
set_option maxHeartbeats 4000000
namespace LW
open PySem PySem.Spec PyProof.Rows L2
open Evl (Ex)
section
variable {P : Program} {w : World} {K : PySem.W.Frag} {mg : Str → Option Value} {base : Heap} {a : Ad}
theorem zip_map {α β γ : Type} (f : α → β → γ) : ∀ (xs : List α) (ys : List β), (xs.zip ys).map (fun p => f p.1 p.2) = List.zipWith f xs ys
  | [], _ => by simp
  | _ :: _, [] => by simp
  | x :: xs, y :: ys => by
    rw [List.zip_cons_cons, List.map_cons, List.zipWith_cons_cons, zip_map f xs ys]
theorem sm_of_bn {b : Nat} {row : List Int} (h : LF.Bn b row) (hb : b ≤ 499999) {n : Int} (hn : n ∈ row) : Sm n := sm_of (h n hn) hb
theorem sm_get {b : Nat} {row : List Int} (h : LF.Bn b row) (hb : b ≤ 499999) (j : Nat) : Sm (row.getD j 0) := sm_of (h.get j) hb
/-! ## tables -/
theorem sc_lowered : FnScope ["row", "part", "number"] ["row"] (defScope (top 38)) := ⟨rfl, rfl, rfl, by decide +kernel, rfl, by decide +kernel, by decide +kernel⟩
theorem kn_lowered (T : Wd P w K mg base a) : Kn P w K mg base 42 "lowered" (FnS RowR (Pre1 RowR (fun x => x.length ≤ 1000) LF.lowered)) := by
  refine T.d_lowered.kn sc_lowered (fun _ _ _ _ _ _ us hl => match us, hl with | [_], _ => rfl) (fun G vs y ⟨v, _, h, _⟩ => by rw [h]; rfl) fun cdv f A outer s H E hr => ⟨_, (pss_cons (ps_set (i := 1) sc_lowered.nd rfl (Or.inr rfl) pe_int) (pss_cons (ps_for PassesOwn.never rfl (pi_listK (K := K) rfl (pv 0)) (pg_name (i := 2) sc_lowered.nd rfl (Or.inl rfl)) (pss_one (ps_set (i := 1) sc_lowered.nd rfl (Or.inr rfl) (pe_kn (kn_common T) (hr.mono (by decide)) rfl (pa_cons (pv 1) (pa_cons (pv 2) pa_nil)))))) (pss_cons (ps_if (pt_cmpR op_lt (pv 1) pe_int (nomark _)) (pss_one (ps_ret (pv 0))) pss_nil) (pss_one (ps_ret (pe_lc (own := [("number", 2)]) rfl sc_lowered.nd (pi_listK (K := K) rfl (pv 0)) (blkOk_by (N := ["row", "part", "number"]) (sc := (defScope (top 38))) (by decide +kernel)) (fun _ _ _ _ _ => (pg_name (i := 2) sc_lowered.nd rfl (Or.inl rfl))) (fun _ _ _ _ _ => pts_nil) (fun _ _ _ _ _ => (pe_op (op_fdivP T.ns T.tr (hr.mono (by decide)) rfl sc_lowered.gen sc_lowered.co rfl rfl) (pv 2) (pv 1))))))))), fun vs G y D e h k => ?_⟩
  obtain ⟨v, x, rfl, hx, hl, rfl⟩ := h
  refine st_set (A := IntR) (x := 0) e ev_int fun v1 H1 G1 o1 r1 => ?_
  refine st_fold (C := IntR) (k := 1) (acc0 := 0) LF.common o1.kn (src_list (ev_var rfl (RowR.st o1.up hx))) (tg_name 2) (by decide) rfl ⟨v1, rfl, r1⟩ (fun i z σ2 G2 hz e2 ag hc hn => ev_call2 hc.ev hn.ev trivial) fun σ2 H2 G2 o2 ag hc => ?_
  have hx2 : EV (tVar 0) σ2 G2 RowR x := ev_var ((ag.2 0 (by decide)).trans rfl) (RowR.st (o1.up.trans o2.up) hx)
  have hc : At IntR 1 G2 σ2 (LF.contentOf x) := hc
  have o12 := o1.trans o2
  refine st_when o2.kn (et_test (ev_cmp (p := fun i j => decide (i < j)) hc.ev ev_int)) (fun hb H3 e3 => ?_) (fun hb H3 e3 => ?_)
  · refine st_ret (A := RowR) (o2.kn.trans e3) hx2 fun u H4 G4 o4 ru => k u H4 G4 ((o12.trans (Ok.grow o2.kn e3)).trans o4) ?_
    unfold LF.lowered
    rw [if_pos (of_decide_eq_true hb)]
    exact ru
  · have hb := of_decide_eq_false hb
    refine st_ret (A := RowR) (o2.kn.trans e3) (ev_lc (B := IntR) (fun n => n.fdiv (LF.contentOf x)) (src_list hx2) (tg_name 2) ?_ (by omega) fun i n G5 σ3 hi e5 ag' hn => ?_) fun u H4 G4 o4 ru => k u H4 G4 ((o12.trans (Ok.grow o2.kn e3)).trans o4) ?_
    · unfold inb
      rw [ag.1]
      rfl
    · exact ev_div (by omega) hn.ev ((hc.mono e5).agr ag' (by decide)).ev
    · unfold LF.lowered
      rw [if_neg hb]
      exact ru
/-- two rows of one length, small -/
def RowsOk (row lead : List Int) (p : Nat) : Prop := row.length = lead.length ∧ p < lead.length ∧ lead.length ≤ 1000 ∧ LF.Bn 200000 row ∧ LF.Bn 200000 lead
theorem sc_cleared : FnScope ["row", "lead", "place", "number", "other"] ["row", "lead", "place"] (defScope (top 39)) := ⟨rfl, rfl, rfl, by decide +kernel, rfl, by decide +kernel, by decide +kernel⟩
theorem kn_cleared (T : Wd P w K mg base a) : Kn P w K mg base 43 "cleared" (FnS RowR (Pre3 RowR RowR NatR RowsOk LF.cleared)) := by
  refine T.d_cleared.kn sc_cleared (fun _ _ _ _ _ _ us hl => match us, hl with | [_, _, _], _ => rfl) (fun G vs y ⟨_, _, _, _, _, _, h, _⟩ => by rw [h]; rfl) fun cdv f A outer s H E hr => ⟨_, (pss_cons (ps_if (pt_cmpR op_eq (pe_ix (ix_listK (K := K) rfl) (pv 0) (pv 2) (fun _ _ => rfl)) pe_int (nomark _)) (pss_one (ps_ret (pv 0))) pss_nil) (pss_one (ps_ret (pe_kn (kn_lowered T) (hr.mono (by decide)) rfl (pa_cons (pe_lc (own := [("number", 3), ("other", 4)]) rfl sc_cleared.nd (pi_zipK (K := K) rfl rfl T.b_zip (pa_cons (pv 0) (pa_cons (pv 1) pa_nil))) (blkOk_by (N := ["row", "lead", "place", "number", "other"]) (sc := (defScope (top 39))) (by decide +kernel)) (fun _ _ _ _ _ => (pg_tupK (K := K) (n := 2) rfl rfl (pgs_cons (pg_name (i := 3) sc_cleared.nd rfl (Or.inl rfl)) (pgs_cons (pg_name (i := 4) sc_cleared.nd rfl (Or.inl rfl)) pgs_nil)))) (fun _ _ _ _ _ => pts_nil) (fun _ _ _ _ _ => (pe_op op_sub (pe_op op_mulW (pe_ix (ix_listK (K := K) rfl) (pv 1) (pv 2) (fun _ _ => rfl)) (pv 3)) (pe_op op_mulW (pe_ix (ix_listK (K := K) rfl) (pv 0) (pv 2) (fun _ _ => rfl)) (pv 4))))) pa_nil))))), fun vs G y D e h k => ?_⟩
  obtain ⟨v1, v2, v3, row, lead, p, rfl, h1, h2, h3, ⟨hl, hp, hz, b1, b2⟩, rfl⟩ := h
  have h3' : IntR.R G v3 (p : Int) := h3
  refine st_when e (et_test (ev_eqI (ev_ix (n := p) rfl (get_D (by omega)) (ev_var rfl h1) (ev_var rfl h3')) ev_int)) (fun hb H3 e3 => ?_) (fun hb H3 e3 => ?_)
  · refine st_ret (A := RowR) (e.trans e3) (ev_var rfl h1) fun u H4 G4 o4 ru => k u H4 G4 ((Ok.grow e e3).trans o4) ?_
    unfold LF.cleared
    rw [if_pos (of_decide_eq_true hb)]
    exact ru
  · refine st_ret (A := RowR) (e.trans e3) (ev_call1 (x := LF.crossed row lead p) ((ev_lc (B := IntR) (fun q : Int × Int => lead.getD p 0 * q.1 - row.getD p 0 * q.2) (src_zip hl (ev_var rfl h1) (ev_var rfl h2)) (tg_pair 3 4 (by decide)) rfl (by rw [List.length_zip]; omega) fun i q G5 σ3 hi e5 ag hq => ?_).to ?_) ?_) fun u H4 G4 o4 ru => k u H4 G4 ((Ok.grow e e3).trans o4) ?_
    · have hm := List.of_mem_zip (List.mem_of_getElem? hi)
      have g1 : EV (tVar 0) σ3 G5 RowR row := ev_var ((ag.2 0 (by decide)).trans rfl) (RowR.st e5 h1)
      have g2 : EV (tVar 1) σ3 G5 RowR lead := ev_var ((ag.2 1 (by decide)).trans rfl) (RowR.st e5 h2)
      have g3 : EV (tVar 2) σ3 G5 IntR (p : Int) := ev_var ((ag.2 2 (by decide)).trans rfl) (IntR.st e5 h3')
      exact ev_sub (ev_mulW ((sm_get b2 (by decide) p).mul (sm_of_bn b1 (by decide) hm.1)) (ev_ix (n := p) rfl (get_D (by omega)) g2 g3) hq.1.ev)
        (ev_mulW ((sm_get b1 (by decide) p).mul (sm_of_bn b2 (by decide) hm.2)) (ev_ix (n := p) rfl (get_D (by omega)) g1 g3) hq.2.ev)
    · exact zip_map (fun n o => lead.getD p 0 * n - row.getD p 0 * o) row lead
    · rw [LF.crossed_len hl]
      omega
    · unfold LF.cleared
      rw [if_neg (of_decide_eq_false hb)]
      exact ru
theorem sc_first_with : FnScope ["rows", "place", "at", "row"] ["rows", "place"] (defScope (top 40)) := ⟨rfl, rfl, rfl, by decide +kernel, rfl, by decide +kernel, by decide +kernel⟩
theorem kn_first_with (T : Wd P w K mg base a) : Kn P w K mg base 41 "first_with" (FnS (OptR NatR) (Pre2 TabR NatR (fun rows p => ∀ r ∈ rows, p < r.length) LF.firstWith)) := by
  refine T.d_first_with.kn sc_first_with (fun _ _ _ _ _ _ us hl => match us, hl with | [_, _], _ => rfl) (fun G vs y ⟨v, w, _, _, h, _⟩ => by rw [h]; rfl) fun cdv f A outer s H E hr => ⟨_, (pss_cons (ps_for PassesOwn.never rfl (pi_enumK (K := K) rfl rfl T.b_enumerate (pa_cons (pv 0) pa_nil)) (pg_tupK (K := K) (n := 2) rfl rfl (pgs_cons (pg_name (i := 2) sc_first_with.nd rfl (Or.inl rfl)) (pgs_cons (pg_name (i := 3) sc_first_with.nd rfl (Or.inl rfl)) pgs_nil))) (pss_one (ps_if (pt_cmpR op_ne (pe_ix (ix_listK (K := K) rfl) (pv 3) (pv 1) (fun _ _ => rfl)) pe_int (nomark _)) (pss_one (ps_ret (pv 2))) pss_nil))) (pss_one (ps_ret pe_non))), fun vs G y D e h k => ?_⟩
  obtain ⟨v1, v2, rows, p, rfl, h1, h2, hp, rfl⟩ := h
  have lz : (enumL rows).length = rows.length := by unfold enumL; rw [List.length_zip, List.length_range, Nat.min_self]
  refine st_for e (src_enum (ev_var rfl h1)) fun H1 G1 o1 => ⟨fun i σ' G' H' => Ok G H H' G' ∧ Ex G1 G' ∧ Agr [2, 3] (start ["rows", "place", "at", "row"] [v1, v2]) σ' ∧ ∀ r ∈ rows.take i, r.getD p 0 = 0, ⟨o1, Ex.refl _, Agr.refl _ _, fun r hr => by cases hr⟩, ?_, ?_⟩
  · rintro i z σ' G' H' hz ⟨o', e', ag, hall⟩
    refine ⟨e', o'.kn, fun v G2 H2 o2 rz => ?_⟩
    obtain ⟨σ2, kk, a2, f1, f2⟩ := tg_pair (K := K) (A := NatR) (B := RowR) 2 3 (by decide) G2 v z rz σ' fun j hj => by
      rw [ag.1]
      exact (inb_of (vs := [2, 3]) rfl) j hj
    have hzi : (List.range rows.length)[i]? = some z.1 ∧ rows[i]? = some z.2 := by
      unfold enumL at hz
      rw [List.getElem?_zip_eq_some] at hz
      exact hz
    have ei : z.1 = i := by
      obtain ⟨h1, h2⟩ := List.getElem?_eq_some_iff.mp hzi.1
      rw [List.getElem_range] at h2
      exact h2.symm
    have a3 := ag.trans a2
    have eG : Ex G G2 := (o'.trans o2).up
    have hpz : p < z.2.length := hp z.2 (List.mem_of_getElem? hzi.2)
    refine kk H2 _ o2.kn (st_if o2.kn (et_test (ev_neI (ev_ix (n := p) rfl (get_D hpz) f2.ev (ev_var ((a3.2 1 (by decide)).trans rfl) (show IntR.R G2 v2 (p : Int) from h2))) ev_int)) (fun hb H3 e3 => ?_) (fun hb H3 e3 => ?_))
    · have hb : ¬ z.2.getD p 0 = 0 := by simpa using hb
      refine st_ret (A := NatR) (o2.kn.trans e3) f1.ev fun u H4 G4 o4 ru => k u H4 G4 (((o'.trans o2).trans (Ok.grow o2.kn e3)).trans o4) ?_
      have e1 : LF.firstWith rows p = some i := by
        unfold LF.firstWith
        rw [List.findIdx?_eq_some_iff_getElem]
        obtain ⟨hi, hr⟩ := List.getElem?_eq_some_iff.mp hzi.2
        refine ⟨hi, by rw [hr]; exact decide_eq_true hb, fun j hj => ?_⟩
        have := hall rows[j] (List.mem_take_iff_getElem.mpr ⟨j, by omega, rfl⟩)
        rw [this]
        decide
      rw [e1]
      have ru : u = .int ((z.1 : Nat) : Int) := ru
      refine ⟨by rw [ru]; exact fun z => (by cases z), ?_⟩
      show u = .int ((i : Nat) : Int)
      rw [ru, ei]
    · have hb : z.2.getD p 0 = 0 := by simpa using hb
      refine ⟨G2, (o'.trans o2).trans (Ok.grow o2.kn e3), e'.trans o2.up, a3, fun r hr => ?_⟩
      rw [take_next hzi.2] at hr
      rcases List.mem_append.mp hr with hr | hr
      · exact hall r hr
      · rw [List.mem_singleton.mp hr]; exact hb
  · rintro σ' G' H' ⟨o', e', ag, hall⟩
    refine ⟨e', o'.kn, st_ret (A := OptR NatR) (x := none) o'.kn ev_none fun u H4 G4 o4 ru => k u H4 G4 (o'.trans o4) ?_⟩
    have e1 : LF.firstWith rows p = none := by
      unfold LF.firstWith
      rw [List.findIdx?_eq_none_iff]
      intro r hr
      have := hall r (by rw [lz, List.take_length]; exact hr)
      rw [this]
      decide
    rw [e1]
    exact ru
theorem sc_without : FnScope ["rows", "at"] ["rows", "at"] (defScope (top 41)) := ⟨rfl, rfl, rfl, by decide +kernel, rfl, by decide +kernel, by decide +kernel⟩
theorem kn_without (T : Wd P w K mg base a) : Kn P w K mg base 41 "without" (FnS TabR (Pre2 TabR NatR (fun rows _ => rows.length ≤ 1000) LF.without)) := by
  refine T.d_without.kn sc_without (fun _ _ _ _ _ _ us hl => match us, hl with | [_, _], _ => rfl) (fun G vs y ⟨v, w, _, _, h, _⟩ => by rw [h]; rfl) fun cdv f A outer s H E hr => ⟨_, (pss_one (ps_ret (pe_op op_cat (pe_slice (sl_listK (K := K) rfl) (pv 0) po_none (po_some (pv 1))) (pe_slice (sl_listK (K := K) rfl) (pv 0) (po_some (pe_op op_add (pv 1) pe_int)) po_none)))), fun vs G y D e h k => ?_⟩
  obtain ⟨v1, v2, rows, i, rfl, h1, h2, hl, rfl⟩ := h
  have h2' : IntR.R G v2 (i : Int) := h2
  exact st_ret e (ev_cat (by rw [List.length_take, List.length_drop]; omega) (ev_sliceTo (n := i) rfl (ev_var rfl h1) (ev_var rfl h2')) (ev_sliceFrom (n := i + 1) (by omega) (ev_var rfl h1) (ev_add (ev_var rfl h2') ev_int))) k
/-- a table: so many rows, so long, so small -/
structure Tab (b w n : Nat) (rows : List (List Int)) : Prop where
  bn : LF.BnT b rows
  len : ∀ r ∈ rows, r.length = w
  few : rows.length ≤ n
  b40 : b ≤ 40
  w9 : w ≤ 9
  n32 : n ≤ 32
theorem Tab.step {b w n k many : Nat} {rows : List (List Int)} (t : Tab b w n rows) (hk : k < many) (hm : many ≤ 8) : LF.Step b w k n (LF.leadsOf rows k) ∧ LF.bits b k ≤ 10495 :=
  ⟨LF.step_take t.bn t.len t.few k, LF.bits_8 t.b40 k (by omega)⟩
theorem Tab.ok {b w n k many : Nat} {rows : List (List Int)} (t : Tab b w n rows) (hk : k < many) (hm : many ≤ 8) (hw : many ≤ w) {row lead : List Int} (h1 : row.length = w) (h2 : LF.Bn (LF.bits b k) row) (h3 : lead.length = w) (h4 : LF.Bn (LF.bits b k) lead) : RowsOk row lead k := by
  have := LF.bits_8 t.b40 k (by omega)
  have := t.w9
  exact ⟨by rw [h1, h3], by omega, by omega, h2.mono (by omega), h4.mono (by omega)⟩
theorem sc_rank_of : FnScope ["rows", "many", "found", "left", "place", "at", "lead", "row"] ["rows", "many"] (defScope (top 42)) := ⟨rfl, rfl, rfl, by decide +kernel, rfl, by decide +kernel, by decide +kernel⟩
theorem kn_rank_of (T : Wd P w K mg base a) : Kn P w K mg base 44 "rank_of" (FnS NatR (Pre2 TabR NatR (fun rows many => ∃ b w n, Tab b w n rows ∧ many ≤ 8 ∧ many ≤ w) LF.rankOf)) := by
  refine T.d_rank_of.kn sc_rank_of (fun _ _ _ _ _ _ us hl => match us, hl with | [_, _], _ => rfl) (fun G vs y ⟨v, w, _, _, h, _⟩ => by rw [h]; rfl) fun cdv f A outer s H E hr => ⟨_, (pss_cons (ps_set (i := 2) sc_rank_of.nd rfl (Or.inl rfl) pe_int) (pss_cons (ps_set (i := 3) sc_rank_of.nd rfl (Or.inl rfl) (pv 0)) (pss_cons (ps_for PassesOwn.never rfl (pi_range1 rfl T.b_range (pa_cons (pv 1) pa_nil)) (pg_name (i := 4) sc_rank_of.nd rfl (Or.inr rfl)) (pss_cons (ps_set (i := 5) sc_rank_of.nd rfl (Or.inl rfl) (pe_kn (kn_first_with T) (hr.mono (by decide)) rfl (pa_cons (pv 3) (pa_cons (pv 4) pa_nil)))) (pss_one (ps_if (pt_cmpR op_notNone (pv 5) pe_non (nomark _)) (pss_cons (ps_set (i := 6) sc_rank_of.nd rfl (Or.inr rfl) (pe_ix (ix_listK (K := K) rfl) (pv 3) (pv 5) (fun _ _ => rfl))) (pss_cons (ps_setLc (i := 3) (own := [("row", 7)]) rfl sc_rank_of.nd rfl rfl (sw_true rfl rfl rfl (by decide +kernel)) (pi_listK (K := K) rfl (pe_kn (kn_without T) (hr.mono (by decide)) rfl (pa_cons (pv 3) (pa_cons (pv 5) pa_nil)))) (blkOk_by (N := ["rows", "many", "found", "left", "place", "at", "lead", "row"]) (sc := (defScope (top 42))) (by decide +kernel)) (fun _ _ _ _ _ => (pg_name (i := 7) sc_rank_of.nd rfl (Or.inl rfl))) (fun _ _ _ _ _ => pts_nil) (fun _ _ _ _ _ => (pe_kn (kn_cleared T) (hr.mono (by decide)) rfl (pa_cons (pv 7) (pa_cons (pv 6) (pa_cons (pv 4) pa_nil)))))) (pss_one (ps_set (i := 2) sc_rank_of.nd rfl (Or.inl rfl) (pe_op op_add (pv 2) pe_int))))) pss_nil)))) (pss_one (ps_ret (pv 2)))))), fun vs G y D e h k => ?_⟩
  obtain ⟨v1, v2, rows, many, rfl, h1, h2, ⟨b, w', n, tb, m8, mw⟩, rfl⟩ := h
  refine st_set (A := NatR) (x := 0) e (ev_c (A := NatR) rfl) fun u1 H1 G1 o1 r1 => ?_
  refine st_set (A := TabR) (x := rows) o1.kn (ev_var rfl (TabR.st o1.up h1)) fun u2 H2 G2 o2 r2 => ?_
  have o12 := o1.trans o2
  refine st_for o2.kn (src_rng1 (k := many) rfl (by omega) (ev_var rfl (show IntR.R G2 v2 (many : Int) from h2))) fun H3 G3 o3 => ⟨fun i σ' G' H' => Ok G H H' G' ∧ Ex G3 G' ∧ Agr [2, 3, 4, 5, 6, 7] (start ["rows", "many", "found", "left", "place", "at", "lead", "row"] [v1, v2]) σ' ∧
    At NatR 2 G' σ' (LF.leadsOf rows i).1.length ∧ At TabR 3 G' σ' (LF.leadsOf rows i).2, ?_, ?_, ?_⟩
  · exact ⟨o12.trans o3, Ex.refl _, ⟨rfl, fun i hi => by
      rw [List.getElem?_set_ne (fun z => hi (by rw [← z]; decide)), List.getElem?_set_ne (fun z => hi (by rw [← z]; decide))]⟩, ⟨u1, rfl, r1⟩, ⟨u2, rfl, TabR.st o3.up r2⟩⟩
  · rintro i z σ' G' H' hz ⟨o', e', ag, hf, hl⟩
    have hi : i < many := by
      have := (List.getElem?_eq_some_iff.mp hz).1
      rwa [List.length_range] at this
    have ez : z = i := by
      obtain ⟨h1, h2⟩ := List.getElem?_eq_some_iff.mp hz
      rw [List.getElem_range] at h2
      exact h2.symm
    subst ez
    obtain ⟨S, b8⟩ := tb.step hi m8
    refine ⟨e', o'.kn, fun v G4 H4 o4 rz => ?_⟩
    obtain ⟨σ2, kk, a2, f1⟩ := tg_name (A := NatR) 4 G4 v z rz σ' fun j hj => by
      rw [ag.1]
      exact (inb_of (vs := [4]) rfl) j hj
    have a3 := ag.trans (a2.sub (ks := [2, 3, 4, 5, 6, 7]) (by decide))
    have hf4 := (hf.mono o4.up).agr a2 (by decide)
    have hl4 := (hl.mono o4.up).agr a2 (by decide)
    have hlen2 : ∀ r ∈ (LF.leadsOf rows z).2, z < r.length := fun r hr => by rw [S.rl r hr]; omega
    refine kk H4 _ o4.kn (st_set (A := OptR NatR) (x := LF.firstWith (LF.leadsOf rows z).2 z) o4.kn (ev_call2 hl4.ev f1.ev hlen2) fun u5 H5 G5 o5 r5 => ?_)
    have o45 := (o'.trans o4).trans o5
    have a5 : Agr [2, 3, 4, 5, 6, 7] (start ["rows", "many", "found", "left", "place", "at", "lead", "row"] [v1, v2]) (σ2.set 5 (some u5)) := a3.trans (Agr.set (by decide))
    have ls : (σ2.set 5 (some u5)).length = 8 := a5.1
    have hat : At (OptR NatR) 5 G5 (σ2.set 5 (some u5)) (LF.firstWith (LF.leadsOf rows z).2 z) := At.set (by rw [a3.1]; show 5 < 8; decide) r5
    have hf5 := (hf4.mono o5.up).agr (Agr.set (js := [5]) (k := 5) (v := some u5) (by decide)) (by decide)
    have hl5 := (hl4.mono o5.up).agr (Agr.set (js := [5]) (k := 5) (v := some u5) (by decide)) (by decide)
    have hp5 := (f1.mono o5.up).agr (Agr.set (js := [5]) (k := 5) (v := some u5) (by decide)) (by decide)
    generalize hσ : σ2.set 5 (some u5) = σ5 at a5 ls hat hf5 hl5 hp5 ⊢
    have hs : LF.leadsOf rows (z + 1) = LF.leadsStep (LF.leadsOf rows z) z := LF.leadsOf_succ rows z
    have run : LF.leadsStep (LF.leadsOf rows z) z = LF.leadsOf rows (z + 1) := hs.symm
    refine st_if o5.kn (et_test (ev_notN hat.ev)) (fun hb H6 e6 => ?_) (fun hb H6 e6 => ?_)
    · obtain ⟨at_, hat_⟩ := Option.isSome_iff_exists.mp hb
      obtain ⟨lead, hi', hd, _⟩ := LF.first_some hat_
      have hm := List.mem_of_getElem? hi'
      have o6 := o45.trans (Ok.grow o5.kn e6)
      have hat' : EV (tVar 5) σ5 G5 IntR (at_ : Int) := by
        refine hat.ev.as fun v H2 _ r => ?_
        rw [hat_] at r
        exact r.2
      refine st_set (A := RowR) (x := lead) (o5.kn.trans e6) (ev_ix (n := at_) rfl hi' hl5.ev hat') fun u7 H7 G7 o7 r7 => ?_
      have a7 : Agr [6] σ5 (σ5.set 6 (some u7)) := Agr.set (by decide)
      have hl7 := (hl5.mono o7.up).agr a7 (by decide)
      have hf7 := (hf5.mono o7.up).agr a7 (by decide)
      have hp7 := (hp5.mono o7.up).agr a7 (by decide)
      have hat7 : EV (tVar 5) (σ5.set 6 (some u7)) G7 NatR at_ := by
        obtain ⟨vv, q1, q2⟩ := (hat.mono o7.up).agr a7 (by decide)
        rw [hat_] at q2
        exact ev_var q1 q2.2
      have hld7 : At RowR 6 G7 (σ5.set 6 (some u7)) lead := At.set (by omega) r7
      have ls7 : (σ5.set 6 (some u7)).length = 8 := by rw [List.length_set]; exact ls
      have a57 : Agr [2, 3, 4, 5, 6, 7] (start ["rows", "many", "found", "left", "place", "at", "lead", "row"] [v1, v2]) (σ5.set 6 (some u7)) := a5.trans (Agr.set (by decide))
      generalize σ5.set 6 (some u7) = σ7 at hl7 hf7 hp7 hat7 hld7 ls7 a57 ⊢
      have wl := LF.without_len (LF.leadsOf rows z).2 at_
      have t32 := tb.n32
      have few := S.rows
      refine st_set (A := TabR) (x := (LF.without (LF.leadsOf rows z).2 at_).map fun row => LF.cleared row lead z) o7.kn (ev_lc (B := RowR) (fun row => LF.cleared row lead z) (src_list (ev_call2 hl7.ev hat7 (by show (LF.leadsOf rows z).2.length ≤ 1000; omega))) (tg_name 7) (by unfold inb; rw [ls7]; rfl) (by omega) (fun i' row G8 σ8 hi8 e8 ag8 hrow => ?_)) fun u8 H8 G8 o8 r8 => ?_
      · have hmr := LF.mem_without (List.mem_of_getElem? hi8)
        exact ev_call3 hrow.ev ((hld7.mono e8).agr ag8 (by decide)).ev ((hp7.mono e8).agr ag8 (by decide)).ev (tb.ok hi m8 mw (S.rl row hmr) (S.rb row hmr) (S.rl lead hm) (S.rb lead hm))
      · have a8 : Agr [3] σ7 (σ7.set 3 (some u8)) := Agr.set (by decide)
        refine st_setL (A := IntR) (x := ((LF.leadsOf rows z).1.length : Int) + 1) o8.kn (ev_add (((hf7.mono o8.up).agr a8 (by decide)).ev.as fun v H2 _ r => r) ev_int) fun u9 H9 G9 o9 r9 => ?_
        refine ⟨G9, ((o6.trans o7).trans o8).trans o9, ((((e'.trans o4.up).trans o5.up).trans o7.up).trans o8.up).trans o9.up, (a57.trans (a8.sub (by decide))).trans (Agr.set (by decide)), ?_, ?_⟩
        · refine At.set (by rw [List.length_set]; omega) ?_
          show u9 = .int (((LF.leadsOf rows (z + 1)).1.length : Nat) : Int)
          rw [← run]
          unfold LF.leadsStep
          rw [hat_]
          have r9 : u9 = .int (((LF.leadsOf rows z).1.length : Int) + 1) := r9
          rw [r9]
          simp
        · refine (At.set (A := TabR) (x := (LF.leadsOf rows (z + 1)).2) (by omega) ?_).agr (Agr.set (js := [2]) (k := 2) (v := some u9) (by decide)) (by decide)
          rw [← run]
          unfold LF.leadsStep
          rw [hat_]
          simp only [hd]
          exact TabR.st o9.up r8
    · have hn : LF.firstWith (LF.leadsOf rows z).2 z = none := by simpa using hb
      have e1 : LF.leadsOf rows (z + 1) = LF.leadsOf rows z := by
        rw [← run]
        unfold LF.leadsStep
        rw [hn]
      refine ⟨G5, o45.trans (Ok.grow o5.kn e6), (e'.trans o4.up).trans o5.up, a5, ?_, ?_⟩
      · rw [e1]; exact hf5
      · rw [e1]; exact hl5
  · rintro σ' G' H' ⟨o', e', ag, hf, hl⟩
    rw [List.length_range] at hf
    refine ⟨e', o'.kn, st_ret (A := NatR) o'.kn hf.ev fun u H4 G4 o4 ru => k u H4 G4 (o'.trans o4) ?_⟩
    have er : LF.rankOf rows many = (LF.leadsOf rows many).1.length := by
      unfold LF.rankOf
      rw [LF.rank_run]
    rw [er]
    exact ru
end
end LW

set_option linter.all false
set_option Elab.async false
set_option maxRecDepth 100000
set_option maxHeartbeats 4000000
namespace LW
open PySem PySem.Spec PyProof.Rows L2
open Evl (Ex)
section
variable {P : Program} {w : World} {K : PySem.W.Frag} {mg : Str → Option Value} {base : Heap} {a : Ad}
abbrev LeadR (K : PySem.W.Frag) : RelS (Nat × List Int) := PairR K NatR RowR
theorem At.put {α : Type} {A : RelS α} {σ : L2.St} {G : Hp} {j k : Nat} {x : α} {v : Option V} (h : At A j G σ x) (hjk : j ≠ k) : At A j G (σ.set k v) x :=
  h.agr (Agr.set (js := [k]) (by simp)) (by simpa using hjk)
theorem sc_leads_of : FnScope ["rows", "many", "leads", "left", "place", "at", "lead", "row", "other"] ["rows", "many"] (defScope (top 43)) := ⟨rfl, rfl, rfl, by decide +kernel, rfl, by decide +kernel, by decide +kernel⟩
theorem kn_leads_of (T : Wd P w K mg base a) : Kn P w K mg base 44 "leads_of" (FnS (PairR K (ListR (LeadR K)) TabR) (Pre2 TabR NatR (fun rows many => ∃ b w n, Tab b w n rows ∧ many ≤ 8 ∧ many ≤ w) LF.leadsOf)) := by
  refine T.d_leads_of.kn sc_leads_of (fun _ _ _ _ _ _ us hl => match us, hl with | [_, _], _ => rfl) (fun G vs y ⟨v, w, _, _, h, _⟩ => by rw [h]; rfl) fun cdv f A outer s H E hr => ⟨_, (pss_cons (ps_set (i := 2) sc_leads_of.nd rfl (Or.inl rfl) (pe_lst pa_nil)) (pss_cons (ps_set (i := 3) sc_leads_of.nd rfl (Or.inl rfl) (pv 0)) (pss_cons (ps_for PassesOwn.never rfl (pi_range1 rfl T.b_range (pa_cons (pv 1) pa_nil)) (pg_name (i := 4) sc_leads_of.nd rfl (Or.inr rfl)) (pss_cons (ps_set (i := 5) sc_leads_of.nd rfl (Or.inl rfl) (pe_kn (kn_first_with T) (hr.mono (by decide)) rfl (pa_cons (pv 3) (pa_cons (pv 4) pa_nil)))) (pss_one (ps_if (pt_cmpR op_notNone (pv 5) pe_non (nomark _)) (pss_cons (ps_set (i := 6) sc_leads_of.nd rfl (Or.inr rfl) (pe_ix (ix_listK (K := K) rfl) (pv 3) (pv 5) (fun _ _ => rfl))) (pss_cons (ps_setLc (i := 3) (own := [("row", 7)]) rfl sc_leads_of.nd rfl rfl (sw_true rfl rfl rfl (by decide +kernel)) (pi_listK (K := K) rfl (pe_kn (kn_without T) (hr.mono (by decide)) rfl (pa_cons (pv 3) (pa_cons (pv 5) pa_nil)))) (blkOk_by (N := ["rows", "many", "leads", "left", "place", "at", "lead", "row", "other"]) (sc := (defScope (top 43))) (by decide +kernel)) (fun _ _ _ _ _ => (pg_name (i := 7) sc_leads_of.nd rfl (Or.inl rfl))) (fun _ _ _ _ _ => pts_nil) (fun _ _ _ _ _ => (pe_kn (kn_cleared T) (hr.mono (by decide)) rfl (pa_cons (pv 7) (pa_cons (pv 6) (pa_cons (pv 4) pa_nil)))))) (pss_one (ps_set (i := 2) sc_leads_of.nd rfl (Or.inl rfl) (pe_op op_cat (pe_lc (own := [("other", 8), ("row", 7)]) rfl sc_leads_of.nd (pi_listK (K := K) rfl (pv 2)) (blkOk_by (N := ["rows", "many", "leads", "left", "place", "at", "lead", "row", "other"]) (sc := (defScope (top 43))) (by decide +kernel)) (fun _ _ _ _ _ => (pg_tupK (K := K) (n := 2) rfl rfl (pgs_cons (pg_name (i := 8) sc_leads_of.nd rfl (Or.inl rfl)) (pgs_cons (pg_name (i := 7) sc_leads_of.nd rfl (Or.inl rfl)) pgs_nil)))) (fun _ _ _ _ _ => pts_nil) (fun _ _ _ _ _ => (pe_tup (pa_cons (pv 8) (pa_cons (pe_kn (kn_cleared T) (hr.mono (by decide)) rfl (pa_cons (pv 7) (pa_cons (pv 6) (pa_cons (pv 4) pa_nil)))) pa_nil))))) (pe_lst (pa_cons (pe_tup (pa_cons (pv 4) (pa_cons (pv 6) pa_nil))) pa_nil))))))) pss_nil)))) (pss_one (ps_ret (pe_tup (pa_cons (pv 2) (pa_cons (pv 3) pa_nil)))))))), fun vs G y D e h k => ?_⟩
  obtain ⟨v1, v2, rows, many, rfl, h1, h2, ⟨b, w', n, tb, m8, mw⟩, rfl⟩ := h
  refine st_set (A := ListR (LeadR K)) (x := []) e (ev_lst el_nil (by decide)) fun u1 H1 G1 o1 r1 => ?_
  refine st_set (A := TabR) (x := rows) o1.kn (ev_var rfl (TabR.st o1.up h1)) fun u2 H2 G2 o2 r2 => ?_
  have o12 := o1.trans o2
  refine st_for o2.kn (src_rng1 (k := many) rfl (by omega) (ev_var rfl (show IntR.R G2 v2 (many : Int) from h2))) fun H3 G3 o3 => ⟨fun i σ' G' H' => Ok G H H' G' ∧ Ex G3 G' ∧ Agr [2, 3, 4, 5, 6, 7, 8] (start ["rows", "many", "leads", "left", "place", "at", "lead", "row", "other"] [v1, v2]) σ' ∧
    At (ListR (LeadR K)) 2 G' σ' (LF.leadsOf rows i).1 ∧ At TabR 3 G' σ' (LF.leadsOf rows i).2, ?_, ?_, ?_⟩
  · exact ⟨o12.trans o3, Ex.refl _, ⟨rfl, fun i hi => by
      rw [List.getElem?_set_ne (fun z => hi (by rw [← z]; decide)), List.getElem?_set_ne (fun z => hi (by rw [← z]; decide))]⟩, ⟨u1, rfl, (ListR (LeadR K)).st (o2.up.trans o3.up) r1⟩, ⟨u2, rfl, TabR.st o3.up r2⟩⟩
  · rintro i z σ' G' H' hz ⟨o', e', ag, hf, hl⟩
    have hi : i < many := by
      have := (List.getElem?_eq_some_iff.mp hz).1
      rwa [List.length_range] at this
    have ez : z = i := by
      obtain ⟨h1, h2⟩ := List.getElem?_eq_some_iff.mp hz
      rw [List.getElem_range] at h2
      exact h2.symm
    subst ez
    obtain ⟨S, b8⟩ := tb.step hi m8
    refine ⟨e', o'.kn, fun v G4 H4 o4 rz => ?_⟩
    obtain ⟨σ2, kk, a2, f1⟩ := tg_name (A := NatR) 4 G4 v z rz σ' fun j hj => by
      rw [ag.1]
      exact (inb_of (vs := [4]) rfl) j hj
    have a3 := ag.trans (a2.sub (ks := [2, 3, 4, 5, 6, 7, 8]) (by decide))
    have hf4 := (hf.mono o4.up).agr a2 (by decide)
    have hl4 := (hl.mono o4.up).agr a2 (by decide)
    have hlen2 : ∀ r ∈ (LF.leadsOf rows z).2, z < r.length := fun r hr => by rw [S.rl r hr]; omega
    refine kk H4 _ o4.kn (st_set (A := OptR NatR) (x := LF.firstWith (LF.leadsOf rows z).2 z) o4.kn (ev_call2 hl4.ev f1.ev hlen2) fun u5 H5 G5 o5 r5 => ?_)
    have o45 := (o'.trans o4).trans o5
    have a5 : Agr [2, 3, 4, 5, 6, 7, 8] (start ["rows", "many", "leads", "left", "place", "at", "lead", "row", "other"] [v1, v2]) (σ2.set 5 (some u5)) := a3.trans (Agr.set (by decide))
    have ls : (σ2.set 5 (some u5)).length = 9 := a5.1
    have hat : At (OptR NatR) 5 G5 (σ2.set 5 (some u5)) (LF.firstWith (LF.leadsOf rows z).2 z) := At.set (by rw [a3.1]; show 5 < 9; decide) r5
    have hf5 := (hf4.mono o5.up).put (k := 5) (v := some u5) (by decide)
    have hl5 := (hl4.mono o5.up).put (k := 5) (v := some u5) (by decide)
    have hp5 := (f1.mono o5.up).put (k := 5) (v := some u5) (by decide)
    generalize hσ : σ2.set 5 (some u5) = σ5 at a5 ls hat hf5 hl5 hp5 ⊢
    have run : LF.leadsStep (LF.leadsOf rows z) z = LF.leadsOf rows (z + 1) := (LF.leadsOf_succ rows z).symm
    refine st_if o5.kn (et_test (ev_notN hat.ev)) (fun hb H6 e6 => ?_) (fun hb H6 e6 => ?_)
    · obtain ⟨at_, hat_⟩ := Option.isSome_iff_exists.mp hb
      obtain ⟨lead, hi', hd, _⟩ := LF.first_some hat_
      have hm := List.mem_of_getElem? hi'
      have o6 := o45.trans (Ok.grow o5.kn e6)
      have hat' : EV (tVar 5) σ5 G5 IntR (at_ : Int) := by
        refine hat.ev.as fun v H2 _ r => ?_
        rw [hat_] at r
        exact r.2
      refine st_set (A := RowR) (x := lead) (o5.kn.trans e6) (ev_ix (n := at_) rfl hi' hl5.ev hat') fun u7 H7 G7 o7 r7 => ?_
      have hl7 := (hl5.mono o7.up).put (k := 6) (v := some u7) (by decide)
      have hf7 := (hf5.mono o7.up).put (k := 6) (v := some u7) (by decide)
      have hp7 := (hp5.mono o7.up).put (k := 6) (v := some u7) (by decide)
      have hat7 : EV (tVar 5) (σ5.set 6 (some u7)) G7 NatR at_ := by
        obtain ⟨vv, q1, q2⟩ := (hat.mono o7.up).put (k := 6) (v := some u7) (by decide)
        rw [hat_] at q2
        exact ev_var q1 q2.2
      have hld7 : At RowR 6 G7 (σ5.set 6 (some u7)) lead := At.set (by omega) r7
      have ls7 : (σ5.set 6 (some u7)).length = 9 := by rw [List.length_set]; exact ls
      have a57 : Agr [2, 3, 4, 5, 6, 7, 8] (start ["rows", "many", "leads", "left", "place", "at", "lead", "row", "other"] [v1, v2]) (σ5.set 6 (some u7)) := a5.trans (Agr.set (by decide))
      generalize σ5.set 6 (some u7) = σ7 at hl7 hf7 hp7 hat7 hld7 ls7 a57 ⊢
      have wl := LF.without_len (LF.leadsOf rows z).2 at_
      have t32 := tb.n32
      have few := S.rows
      have fewl := S.few
      refine st_set (A := TabR) (x := (LF.without (LF.leadsOf rows z).2 at_).map fun row => LF.cleared row lead z) o7.kn (ev_lc (B := RowR) (fun row => LF.cleared row lead z) (src_list (ev_call2 hl7.ev hat7 (by show (LF.leadsOf rows z).2.length ≤ 1000; omega))) (tg_name 7) (by unfold inb; rw [ls7]; rfl) (by omega) (fun i' row G8 σ8 hi8 e8 ag8 hrow => ?_)) fun u8 H8 G8 o8 r8 => ?_
      · have hmr := LF.mem_without (List.mem_of_getElem? hi8)
        exact ev_call3 hrow.ev ((hld7.mono e8).agr ag8 (by decide)).ev ((hp7.mono e8).agr ag8 (by decide)).ev (tb.ok hi m8 mw (S.rl row hmr) (S.rb row hmr) (S.rl lead hm) (S.rb lead hm))
      · have hf8 := (hf7.mono o8.up).put (k := 3) (v := some u8) (by decide)
        have hp8 := (hp7.mono o8.up).put (k := 3) (v := some u8) (by decide)
        have hld8 := (hld7.mono o8.up).put (k := 3) (v := some u8) (by decide)
        have hl8 : At TabR 3 G8 (σ7.set 3 (some u8)) ((LF.without (LF.leadsOf rows z).2 at_).map fun row => LF.cleared row lead z) := At.set (by omega) r8
        have ls8 : (σ7.set 3 (some u8)).length = 9 := by rw [List.length_set]; exact ls7
        have a58 : Agr [2, 3, 4, 5, 6, 7, 8] (start ["rows", "many", "leads", "left", "place", "at", "lead", "row", "other"] [v1, v2]) (σ7.set 3 (some u8)) := a57.trans (Agr.set (by decide))
        generalize σ7.set 3 (some u8) = σ8 at hf8 hp8 hld8 hl8 ls8 a58 ⊢
        refine st_setL (A := ListR (LeadR K)) (x := (LF.leadsOf rows z).1.map (fun e => (e.1, LF.cleared e.2 lead z)) ++ [(z, lead)]) o8.kn (ev_cat (by rw [List.length_map]; show _ + 1 ≤ _; omega)
          (ev_lc (B := LeadR K) (fun e => (e.1, LF.cleared e.2 lead z)) (src_list hf8.ev) (tg_pair 8 7 (by decide)) (by unfold inb; rw [ls8]; rfl) (by omega) fun i' ee G9 σ9 hi9 e9 ag9 hee => ?_)
          (ev_lst (el_cons (ev_pair hp8.ev hld8.ev) el_nil) (by show 1 ≤ _; decide))) fun u9 H9 G9 o9 r9 => ?_
        · have hme := List.mem_of_getElem? hi9
          exact ev_pair hee.1.ev (ev_call3 hee.2.ev ((hld8.mono e9).agr ag9 (by decide)).ev ((hp8.mono e9).agr ag9 (by decide)).ev (tb.ok hi m8 mw (S.ll ee hme) (S.lb ee hme) (S.rl lead hm) (S.rb lead hm)))
        · refine ⟨G9, ((o6.trans o7).trans o8).trans o9, ((((e'.trans o4.up).trans o5.up).trans o7.up).trans o8.up).trans o9.up, a58.trans (Agr.set (by decide)), ?_, ?_⟩
          · refine At.set (by omega) ?_
            rw [← run]
            unfold LF.leadsStep
            rw [hat_]
            simp only [hd]
            exact r9
          · rw [← run]
            unfold LF.leadsStep
            rw [hat_]
            simp only [hd]
            exact (hl8.mono o9.up).put (by decide)
    · have hn : LF.firstWith (LF.leadsOf rows z).2 z = none := by simpa using hb
      have e1 : LF.leadsOf rows (z + 1) = LF.leadsOf rows z := by
        rw [← run]
        unfold LF.leadsStep
        rw [hn]
      refine ⟨G5, o45.trans (Ok.grow o5.kn e6), (e'.trans o4.up).trans o5.up, a5, ?_, ?_⟩
      · rw [e1]; exact hf5
      · rw [e1]; exact hl5
  · rintro σ' G' H' ⟨o', e', ag, hf, hl⟩
    rw [List.length_range] at hf hl
    exact ⟨e', o'.kn, st_ret (A := PairR K (ListR (LeadR K)) TabR) o'.kn (ev_pair hf.ev hl.ev) fun u H4 G4 o4 ru => k u H4 G4 (o'.trans o4) ru⟩
theorem bottom_take (leads : LF.Leads) {B : Nat} (hb : ∀ e ∈ leads, LF.Bn B e.2) (hn : ∀ e ∈ leads, e.2.getD e.1 0 ≠ 0) (i : Nat) :
    0 < (leads.take i).foldl (fun b e => LF.multiple b (e.2.getD e.1 0)) 1 ∧ ((leads.take i).foldl (fun b e => LF.multiple b (e.2.getD e.1 0)) 1).natAbs < 2 ^ (1 + leads.length * B) := by
  refine ⟨(LF.bottom_go _ 1 (by decide) fun e he => hn e (List.mem_of_mem_take he)).1, ?_⟩
  refine Nat.lt_of_lt_of_le (LF.bottom_bn (leads.take i) 1 1 (by decide) fun e he => hb e (List.mem_of_mem_take he)) (LF.pow_le ?_)
  have := Nat.mul_le_mul_right B (show (leads.take i).length ≤ leads.length by rw [List.length_take]; omega)
  omega
abbrev SolR (K : PySem.W.Frag) : RelS (Option (List Int × Int)) := OptR (PairR K RowR IntR)
theorem sc_solved : FnScope ["rows", "many", "leads", "left", "bottom", "place", "row", "tops"] ["rows", "many"] (defScope (top 44)) := ⟨rfl, rfl, rfl, by decide +kernel, rfl, by decide +kernel, by decide +kernel⟩
theorem kn_solved (T : Wd P w K mg base a) : Kn P w K mg base 45 "solved" (FnS (SolR K) (Pre2 TabR NatR (fun rows many => ∃ b n, Tab b (many + 1) n rows ∧ many ≤ 8) LF.solved)) := by
  refine T.d_solved.kn sc_solved (fun _ _ _ _ _ _ us hl => match us, hl with | [_, _], _ => rfl) (fun G vs y ⟨v, w, _, _, h, _⟩ => by rw [h]; rfl) fun cdv f A outer s H E hr => ⟨_, (pss_cons (ps_asg (pe_kn (kn_leads_of T) (hr.mono (by decide)) rfl (pa_cons (pv 0) (pa_cons (pv 1) pa_nil))) (pg_tupK (K := K) (n := 2) rfl rfl (pgs_cons (pg_name (i := 2) sc_solved.nd rfl (Or.inl rfl)) (pgs_cons (pg_name (i := 3) sc_solved.nd rfl (Or.inl rfl)) pgs_nil)))) (pss_cons (ps_if (pt_val (pe_callB (cr_anyK (K := K) rfl rfl) rfl T.b_any (by decide +kernel) (pa_cons (pe_lc (own := [("row", 6)]) rfl sc_solved.nd (pi_listK (K := K) rfl (pv 3)) (blkOk_by (N := ["rows", "many", "leads", "left", "bottom", "place", "row", "tops"]) (sc := (defScope (top 44))) (by decide +kernel)) (fun _ _ _ _ _ => (pg_name (i := 6) sc_solved.nd rfl (Or.inl rfl))) (fun _ _ _ _ _ => pts_nil) (fun _ _ _ _ _ => (pe_cmpR op_ne (pe_ix (ix_listK (K := K) rfl) (pv 6) (pv 1) (fun _ _ => rfl)) pe_int (nomark _)))) pa_nil))) (pss_one (ps_ret pe_non)) pss_nil) (pss_cons (ps_set (i := 4) sc_solved.nd rfl (Or.inl rfl) pe_int) (pss_cons (ps_for PassesOwn.never rfl (pi_listK (K := K) rfl (pv 2)) (pg_tupK (K := K) (n := 2) rfl rfl (pgs_cons (pg_name (i := 5) sc_solved.nd rfl (Or.inl rfl)) (pgs_cons (pg_name (i := 6) sc_solved.nd rfl (Or.inl rfl)) pgs_nil))) (pss_one (ps_set (i := 4) sc_solved.nd rfl (Or.inl rfl) (pe_kn (kn_multiple T) (hr.mono (by decide)) rfl (pa_cons (pv 4) (pa_cons (pe_ix (ix_listK (K := K) rfl) (pv 6) (pv 5) (fun _ _ => rfl)) pa_nil)))))) (pss_cons (ps_set (i := 7) sc_solved.nd rfl (Or.inl rfl) (pe_op op_rep (pe_lst (pa_cons pe_int pa_nil)) (pv 1))) (pss_cons (ps_for PassesOwn.never rfl (pi_listK (K := K) rfl (pv 2)) (pg_tupK (K := K) (n := 2) rfl rfl (pgs_cons (pg_name (i := 5) sc_solved.nd rfl (Or.inl rfl)) (pgs_cons (pg_name (i := 6) sc_solved.nd rfl (Or.inl rfl)) pgs_nil))) (pss_one (ps_asg (pe_op op_mulW (pe_ix (ix_listK (K := K) rfl) (pv 6) (pv 1) (fun _ _ => rfl)) (pe_op (op_fdivP T.ns T.tr (hr.mono (by decide)) rfl sc_solved.gen sc_solved.co rfl rfl) (pv 4) (pe_ix (ix_listK (K := K) rfl) (pv 6) (pv 5) (fun _ _ => rfl)))) (pg_sub (pv 7) (pv 5) set_list)))) (pss_one (ps_ret (pe_tup (pa_cons (pv 7) (pa_cons (pv 4) pa_nil))))))))))), fun vs G y D e h k => ?_⟩
  obtain ⟨v1, v2, rows, many, rfl, h1, h2, ⟨b, n, tb, m8⟩, rfl⟩ := h
  have h2' : IntR.R G v2 (many : Int) := h2
  have S := LF.step_take tb.bn tb.len tb.few many
  have b8 := LF.bits_8 tb.b40 many m8
  have EE := LF.elim_ok tb.len many
  have nz : ∀ e ∈ (LF.leadsOf rows many).1, e.2.getD e.1 0 ≠ 0 := fun e he => LF.vi_ne (EE.nz e he)
  have t32 := tb.n32
  have few := S.rows
  have fewl := S.few
  have hbk : 1 + (LF.leadsOf rows many).1.length * LF.bits b many ≤ 84000 := by
    have : (LF.leadsOf rows many).1.length * LF.bits b many ≤ 8 * 10495 := Nat.mul_le_mul (by omega) b8
    omega
  refine st_unp (A := PairR K (ListR (LeadR K)) TabR) (x := LF.leadsOf rows many) e (tg_pair 2 3 (by decide)) rfl (ev_call2 (ev_var rfl h1) (ev_var rfl h2) ⟨b, many + 1, n, tb, m8, by omega⟩) fun σ2 H2 G2 o2 a2 ⟨f1, f2⟩ => ?_
  have l2 : σ2.length = 8 := a2.1
  have g2 : EV (tVar 1) σ2 G2 IntR (many : Int) := ev_var ((a2.2 1 (by decide)).trans rfl) (IntR.st o2.up h2')
  have hg2 : At IntR 1 G2 σ2 (many : Int) := ⟨v2, (a2.2 1 (by decide)).trans rfl, IntR.st o2.up h2'⟩
  clear a2
  refine st_when o2.kn (et_B (ev_any (ev_lc (B := BoolR) (fun r => !decide (r.getD many 0 = 0)) (src_list f2.ev) (tg_name 6) (by unfold inb; rw [l2]; rfl) (by omega) fun i r G3 σ3 hi e3 ag hrr => ?_))) (fun hb H3 e3 => ?_) (fun hb H3 e3 => ?_)
  · have hw := S.rl r (List.mem_of_getElem? hi)
    exact ev_neI (ev_ix (n := many) rfl (get_D (by omega)) hrr.ev ((hg2.mono e3).agr ag (by decide)).ev) ev_int
  · refine st_ret (A := SolR K) (x := none) (o2.kn.trans e3) ev_none fun u H4 G4 o4 ru => k u H4 G4 ((o2.trans (Ok.grow o2.kn e3)).trans o4) ?_
    have : LF.solved rows many = none := by
      unfold LF.solved
      rw [if_pos]
      rw [List.any_map] at hb
      rw [List.any_eq_true] at hb ⊢
      obtain ⟨r, hr, hh⟩ := hb
      exact ⟨r, hr, by simpa using hh⟩
    rw [this]
    exact ru
  · have hsol : LF.solved rows many = some (LF.topsOf (LF.leadsOf rows many).1 (LF.bottomOf (LF.leadsOf rows many).1) many, LF.bottomOf (LF.leadsOf rows many).1) := by
      unfold LF.solved
      rw [if_neg]
      intro hh
      rw [List.any_map, List.any_eq_false] at hb
      rw [List.any_eq_true] at hh
      obtain ⟨r, hr, q⟩ := hh
      exact hb r hr (by simpa using q)
    have o3 := o2.trans (Ok.grow o2.kn e3)
    have l3 : ∀ e ∈ (LF.leadsOf rows many).1, e.1 < many ∧ e.2.length = many + 1 := fun e he => ⟨S.below e he, S.ll e he⟩
    have lb : ∀ e ∈ (LF.leadsOf rows many).1, LF.Bn (LF.bits b many) e.2 := S.lb
    generalize hL : (LF.leadsOf rows many).1 = leads at *
    refine st_set (A := IntR) (x := 1) (o2.kn.trans e3) ev_int fun u4 H4 G4 o4 r4 => ?_
    have f4 := (f1.mono o4.up).put (k := 4) (v := some u4) (by decide)
    have m4 := (hg2.mono o4.up).put (k := 4) (v := some u4) (by decide)
    have c4 : At IntR 4 G4 (σ2.set 4 (some u4)) 1 := At.set (by omega) r4
    have l4 : (σ2.set 4 (some u4)).length = 8 := by rw [List.length_set]; exact l2
    generalize σ2.set 4 (some u4) = σ4 at f4 m4 c4 l4 ⊢
    refine st_fold (C := IntR) (k := 4) (acc0 := 1) (fun b (e : Nat × List Int) => LF.multiple b (e.2.getD e.1 0)) o4.kn (src_list f4.ev) (tg_pair 5 6 (by decide)) (by decide) (by unfold inb; rw [l4]; rfl) c4 (fun i z σ5 G5 hz e5 ag hc hn => ?_) fun σ5 H5 G5 o5 ag hc => ?_
    · have hm := List.mem_of_getElem? hz
      obtain ⟨b1, b2⟩ := bottom_take leads lb nz i
      refine ev_call2 hc.ev (ev_ix (n := z.1) rfl (get_D (by have := l3 z hm; omega)) hn.2.ev (hn.1.ev.as fun v H2 _ r => r)) ⟨nz z hm, sm_of b2 (by omega), sm_get (lb z hm) (by omega) _⟩
    · have hc : At IntR 4 G5 σ5 (LF.bottomOf leads) := hc
      have f5 := (f4.mono o5.up).agr ag (by decide)
      have m5 := (m4.mono o5.up).agr ag (by decide)
      have l5 : σ5.length = 8 := ag.1.trans l4
      obtain ⟨b1, b2⟩ := bottom_take leads lb nz leads.length
      rw [List.take_length] at b1 b2
      have b1 : 0 < LF.bottomOf leads := b1
      have b2 : (LF.bottomOf leads).natAbs < 2 ^ 84000 := Nat.lt_of_lt_of_le b2 (LF.pow_le hbk)
      have o05 := (o3.trans o4).trans o5
      refine st_newE (A := IntR) o5.kn (en_rep (k := many) rfl (by omega) (ev_lst (el_cons ev_int el_nil) (by decide)) m5.ev) fun p H6 G6 o6 hp mu => ?_
      have hp0 : H p = none := Evl.fresh_back o05.ex hp
      have f6 := (f5.mono o6.up).put (k := 7) (v := some (.ref p)) (by decide)
      have m6 := (m5.mono o6.up).put (k := 7) (v := some (.ref p)) (by decide)
      have c6 := (hc.mono o6.up).put (k := 7) (v := some (.ref p)) (by decide)
      have p6 : (σ5.set 7 (some (.ref p)))[7]? = some (some (.ref p)) := List.getElem?_set_self (by omega)
      have l6 : (σ5.set 7 (some (.ref p))).length = 8 := by rw [List.length_set]; exact l5
      generalize σ5.set 7 (some (.ref p)) = σ6 at f6 m6 c6 p6 l6 ⊢
      have o06 := o05.trans o6
      refine st_for o6.kn (src_list f6.ev) fun H7 G7 o7 => ⟨fun i σ' G' H' => Ok G H H' G' ∧ Ex G7 G' ∧ Agr [5, 6] σ6 σ' ∧ Mu G' H' p IntR ((leads.take i).foldl (fun t e => t.set e.1 (e.2.getD many 0 * (LF.bottomOf leads).fdiv (e.2.getD e.1 0))) (List.replicate many 0)),
        ⟨o06.trans o7, Ex.refl _, Agr.refl _ _, mu.ok o7⟩, ?_, ?_⟩
      · rintro i z σ' G' H' hz ⟨o', e', ag', mm⟩
        have hm := List.mem_of_getElem? hz
        obtain ⟨q1, q2⟩ := l3 z hm
        refine ⟨e', o'.kn, fun v G8 H8 o8 rz => ?_⟩
        obtain ⟨σ8, kk, a8, f81, f82⟩ := tg_pair (K := K) (A := NatR) (B := RowR) 5 6 (by decide) G8 v z rz σ' fun j hj => by
          rw [ag'.1, l6]
          exact of_decide_eq_true (List.all_eq_true.mp (show ([5, 6].all fun j => decide (j < 8)) = true from rfl) j hj)
        have a3 := ag'.trans a8
        have e08 : Ex G6 G8 := (o7.up.trans e').trans o8.up
        have hz1 : EV (tVar 5) σ8 G8 IntR (z.1 : Int) := f81.ev.as fun v H2 _ r => r
        have len8 : ∀ (l : LF.Leads) (t : List Int), (l.foldl (fun t e => t.set e.1 (e.2.getD many 0 * (LF.bottomOf leads).fdiv (e.2.getD e.1 0))) t).length = t.length := by
          intro l
          induction l with
          | nil => intro t; rfl
          | cons e l ih => intro t; rw [List.foldl_cons, ih, List.length_set]
        have dv : z.2.getD z.1 0 ∣ LF.bottomOf leads := (LF.bottom_go leads 1 (by decide) nz).2.2 z hm
        refine kk H8 _ o8.kn (st_setAt (A := IntR) (n := z.1) (o'.trans o8) hp0 (mm.ok o8) ((a3.2 7 (by decide)).trans p6) (ev_mulW ?_ (ev_ix (n := many) rfl (get_D (by omega)) f82.ev ((m6.mono e08).agr a3 (by decide)).ev)
          (ev_div (nz z hm) ((c6.mono e08).agr a3 (by decide)).ev (ev_ix (n := z.1) rfl (get_D (by omega)) f82.ev hz1))) (fun G9 e9 => hz1.mono e9) rfl (by rw [len8, List.length_replicate]; exact q1) fun H9 G9 o9 e9 _ _ mu9 => ⟨G9, o9, (e'.trans o8.up).trans e9, a3, ?_⟩)
        · exact Sm.mul (sm_get (lb z hm) (by omega) _) (sm_of (Nat.lt_of_le_of_lt (LF.fdiv_le dv) b2) (by decide))
        · rw [take_next hz, List.foldl_append]
          exact mu9
      · rintro σ' G' H' ⟨o', e', ag', mm⟩
        rw [List.take_length] at mm
        refine ⟨e', o'.kn, ?_⟩
        obtain ⟨G8, o8, e8, r8⟩ := mm.know o' hp0
        have c8 := (c6.mono ((o7.up.trans e').trans e8)).agr ag' (by decide)
        refine st_ret (A := SolR K) o8.kn (ev_someP (ev_pair (ev_var ((ag'.2 7 (by decide)).trans p6) r8) c8.ev)) fun u H9 G9 o9 ru => k u H9 G9 (o8.trans o9) ?_
        rw [hsol]
        exact ru
end
end LW

set_option linter.all false
set_option Elab.async false
set_option maxRecDepth 100000
set_option maxHeartbeats 4000000
namespace LW
open PySem PySem.Spec PyProof.Rows L2
open Evl (Ex)
section
variable {P : Program} {w : World} {K : PySem.W.Frag} {mg : Str → Option Value} {base : Heap} {a : Ad}
/-- entries as the program has them -/
structure Ents (many : Nat) (rows : List (List Int)) : Prop where
  len : ∀ r ∈ rows, r.length = many
  bn : LF.BnT 10 rows
  few : rows.length ≤ 32
  m8 : many ≤ 8
theorem lt_pow {x a b : Nat} (h : x < 2 ^ a) (l : a ≤ b) : x < 2 ^ b := Nat.lt_of_lt_of_le h (LF.pow_le l)
def Sms (x : List Int) : Prop := ∀ n ∈ x, Sm n
theorem sms_of {b : Nat} {x : List Int} (h : LF.Bn b x) (hb : b ≤ 499999) : Sms x := fun n hn => sm_of (h n hn) hb
theorem Ents.col {many : Nat} {rows : List (List Int)} (E : Ents many rows) (p : Nat) : LF.Bn 10 (LF.column rows p) ∧ (LF.column rows p).length ≤ 32 := ⟨LF.column_bn E.bn p, by rw [LF.column_len]; exact E.few⟩
theorem sc_product : FnScope ["one", "other", "number", "more"] ["one", "other"] (defScope (top 46)) := ⟨rfl, rfl, rfl, by decide +kernel, rfl, by decide +kernel, by decide +kernel⟩
theorem kn_product (T : Wd P w K mg base a) : Kn P w K mg base 41 "product" (FnS IntR (Pre2 RowR RowR (fun x y => x.length = y.length ∧ x.length ≤ 1000 ∧ Sms x ∧ Sms y) LF.product)) := by
  refine T.d_product.kn sc_product (fun _ _ _ _ _ _ us hl => match us, hl with | [_, _], _ => rfl) (fun G vs y ⟨v, w, _, _, h, _⟩ => by rw [h]; rfl) fun cdv f A outer s H E hr => ⟨_, (pss_one (ps_ret (pe_callB (cr_sumK (K := K) rfl rfl) rfl T.b_sum (by decide +kernel) (pa_cons (pe_lc (own := [("number", 2), ("more", 3)]) rfl sc_product.nd (pi_zipK (K := K) rfl rfl T.b_zip (pa_cons (pv 0) (pa_cons (pv 1) pa_nil))) (blkOk_by (N := ["one", "other", "number", "more"]) (sc := (defScope (top 46))) (by decide +kernel)) (fun _ _ _ _ _ => (pg_tupK (K := K) (n := 2) rfl rfl (pgs_cons (pg_name (i := 2) sc_product.nd rfl (Or.inl rfl)) (pgs_cons (pg_name (i := 3) sc_product.nd rfl (Or.inl rfl)) pgs_nil)))) (fun _ _ _ _ _ => pts_nil) (fun _ _ _ _ _ => (pe_op op_mulW (pv 2) (pv 3)))) pa_nil)))), fun vs G y D e h k => ?_⟩
  obtain ⟨v, w, x, z, rfl, h1, h2, ⟨hl, hk, s1, s2⟩, rfl⟩ := h
  refine st_ret e (ev_sum ((ev_lc (B := IntR) (fun q : Int × Int => q.1 * q.2) (src_zip hl (ev_var rfl h1) (ev_var rfl h2)) (tg_pair 2 3 (by decide)) rfl (by rw [List.length_zip]; omega) fun i q G1 σ2 hi e1 ag hq => ?_).to (zip_map (fun n o => n * o) x z))) k
  have hm := List.of_mem_zip (List.mem_of_getElem? hi)
  exact ev_mulW ((s1 _ hm.1).mul (s2 _ hm.2)) hq.1.ev hq.2.ev
theorem sc_column : FnScope ["entries", "place", "row"] ["entries", "place"] (defScope (top 47)) := ⟨rfl, rfl, rfl, by decide +kernel, rfl, by decide +kernel, by decide +kernel⟩
theorem kn_column (T : Wd P w K mg base a) : Kn P w K mg base 41 "column" (FnS RowR (Pre2 TabR NatR (fun rows p => rows.length ≤ 1000 ∧ ∀ r ∈ rows, p < r.length) LF.column)) := by
  refine T.d_column.kn sc_column (fun _ _ _ _ _ _ us hl => match us, hl with | [_, _], _ => rfl) (fun G vs y ⟨v, w, _, _, h, _⟩ => by rw [h]; rfl) fun cdv f A outer s H E hr => ⟨_, (pss_one (ps_ret (pe_lc (own := [("row", 2)]) rfl sc_column.nd (pi_listK (K := K) rfl (pv 0)) (blkOk_by (N := ["entries", "place", "row"]) (sc := (defScope (top 47))) (by decide +kernel)) (fun _ _ _ _ _ => (pg_name (i := 2) sc_column.nd rfl (Or.inl rfl))) (fun _ _ _ _ _ => pts_nil) (fun _ _ _ _ _ => (pe_ix (ix_listK (K := K) rfl) (pv 2) (pv 1) (fun _ _ => rfl)))))), fun vs G y D e h k => ?_⟩
  obtain ⟨v, w, x, p, rfl, h1, h2, ⟨hk, hp⟩, rfl⟩ := h
  have h2' : IntR.R G w (p : Int) := h2
  refine st_ret e (ev_lc (B := IntR) (fun r : List Int => r.getD p 0) (src_list (ev_var rfl h1)) (tg_name 2) rfl (by omega) fun i r G1 σ2 hi e1 ag hq => ?_) k
  exact ev_ix (n := p) rfl (get_D (hp r (List.mem_of_getElem? hi))) hq.ev (ev_var ((ag.2 1 (by decide)).trans rfl) (IntR.st e1 h2'))
theorem sc_products : FnScope ["entries", "many", "columns", "place", "one", "other"] ["entries", "many"] (defScope (top 48)) := ⟨rfl, rfl, rfl, by decide +kernel, rfl, by decide +kernel, by decide +kernel⟩
theorem kn_products (T : Wd P w K mg base a) : Kn P w K mg base 42 "products" (FnS TabR (Pre2 TabR NatR (fun rows many => Ents many rows) LF.products)) := by
  refine T.d_products.kn sc_products (fun _ _ _ _ _ _ us hl => match us, hl with | [_, _], _ => rfl) (fun G vs y ⟨v, w, _, _, h, _⟩ => by rw [h]; rfl) fun cdv f A outer s H E hr => ⟨_, (pss_cons (ps_set (i := 2) sc_products.nd rfl (Or.inr rfl) (pe_lc (own := [("place", 3)]) rfl sc_products.nd (pi_range1 rfl T.b_range (pa_cons (pv 1) pa_nil)) (blkOk_by (N := ["entries", "many", "columns", "place", "one", "other"]) (sc := (defScope (top 48))) (by decide +kernel)) (fun _ _ _ _ _ => (pg_name (i := 3) sc_products.nd rfl (Or.inl rfl))) (fun _ _ _ _ _ => pts_nil) (fun _ _ _ _ _ => (pe_kn (kn_column T) (hr.mono (by decide)) rfl (pa_cons (pv 0) (pa_cons (pv 3) pa_nil)))))) (pss_one (ps_ret (pe_lc (own := [("one", 4)]) rfl sc_products.nd (pi_listK (K := K) rfl (pv 2)) (blkOk_by (N := ["entries", "many", "columns", "place", "one", "other"]) (sc := (defScope (top 48))) (by decide +kernel)) (fun _ _ _ _ _ => (pg_name (i := 4) sc_products.nd rfl (Or.inr rfl))) (fun _ _ _ _ _ => pts_nil) (fun _ _ _ _ _ => (pe_lc (own := [("other", 5)]) rfl sc_products.nd (pi_listK (K := K) rfl (pv 2)) (blkOk_by (N := ["entries", "many", "columns", "place", "one", "other"]) (sc := (relS _ (defScope (top 48)))) (by decide +kernel)) (fun _ _ _ _ _ => (pg_name (i := 5) sc_products.nd rfl (Or.inl rfl))) (fun _ _ _ _ _ => pts_nil) (fun _ _ _ _ _ => (pe_kn (kn_product T) (hr.mono (by decide)) rfl (pa_cons (pv 4) (pa_cons (pv 5) pa_nil)))))))))), fun vs G y D e h k => ?_⟩
  obtain ⟨v, w, x, m, rfl, h1, h2, E, rfl⟩ := h
  have h2' : IntR.R G w (m : Int) := h2
  have few := E.few
  have m8 := E.m8
  have lc : (LF.columns x m).length = m := by unfold LF.columns; rw [List.length_map, List.length_range]
  have mc : ∀ c ∈ LF.columns x m, LF.Bn 10 c ∧ c.length = x.length := fun c hc => by
    obtain ⟨p, _, rfl⟩ := List.mem_map.mp hc
    exact ⟨(E.col p).1, LF.column_len x p⟩
  refine st_set (A := TabR) (x := LF.columns x m) e (ev_lc (B := RowR) (fun p => LF.column x p) (src_rng1 (k := m) rfl (by omega) (ev_var rfl h2')) (tg_name 3) rfl (by rw [List.length_range]; omega) fun i p G1 σ2 hi e1 ag hq => ?_) fun u1 H1 G1 o1 r1 => ?_
  · have hpm : p < m := List.mem_range.mp (List.mem_of_getElem? hi)
    exact ev_call2 (ev_var ((ag.2 0 (by decide)).trans rfl) (TabR.st e1 h1)) hq.ev ⟨by omega, fun r hr => by rw [E.len r hr]; exact hpm⟩
  · refine st_ret o1.kn (ev_lc (B := RowR) (fun one => (LF.columns x m).map fun other => LF.product one other) (src_list (ev_var rfl r1)) (tg_name 4) rfl (by omega) fun i c G2 σ2 hi e2 ag hq => ?_) fun u H3 G3 o3 ru => k u H3 G3 (o1.trans o3) ru
    refine ev_lc (B := IntR) (fun other => LF.product c other) (src_list (ev_var ((ag.2 2 (by decide)).trans rfl) (TabR.st e2 r1))) (tg_name 5) ?_ (by omega) fun i' d G3 σ3 hi' e3 ag' hd => ?_
    · unfold inb
      rw [ag.1]
      rfl
    · obtain ⟨c1, c2⟩ := mc c (List.mem_of_getElem? hi)
      obtain ⟨d1, d2⟩ := mc d (List.mem_of_getElem? hi')
      exact ev_call2 ((hq.mono e3).agr ag' (by decide)).ev hd.ev ⟨by rw [c2, d2], by omega, sms_of c1 (by decide), sms_of d1 (by decide)⟩
theorem sc_right_sides : FnScope ["entries", "responses", "many", "place"] ["entries", "responses", "many"] (defScope (top 49)) := ⟨rfl, rfl, rfl, by decide +kernel, rfl, by decide +kernel, by decide +kernel⟩
theorem kn_right_sides (T : Wd P w K mg base a) : Kn P w K mg base 42 "right_sides" (FnS RowR (Pre3 TabR RowR NatR (fun rows ys many => Ents many rows ∧ ys.length = rows.length ∧ LF.Bn 20 ys) LF.rightSides)) := by
  refine T.d_right_sides.kn sc_right_sides (fun _ _ _ _ _ _ us hl => match us, hl with | [_, _, _], _ => rfl) (fun G vs y ⟨_, _, _, _, _, _, h, _⟩ => by rw [h]; rfl) fun cdv f A outer s H E hr => ⟨_, (pss_one (ps_ret (pe_lc (own := [("place", 3)]) rfl sc_right_sides.nd (pi_range1 rfl T.b_range (pa_cons (pv 2) pa_nil)) (blkOk_by (N := ["entries", "responses", "many", "place"]) (sc := (defScope (top 49))) (by decide +kernel)) (fun _ _ _ _ _ => (pg_name (i := 3) sc_right_sides.nd rfl (Or.inl rfl))) (fun _ _ _ _ _ => pts_nil) (fun _ _ _ _ _ => (pe_kn (kn_product T) (hr.mono (by decide)) rfl (pa_cons (pe_kn (kn_column T) (hr.mono (by decide)) rfl (pa_cons (pv 0) (pa_cons (pv 3) pa_nil))) (pa_cons (pv 1) pa_nil))))))), fun vs G y D e h k => ?_⟩
  obtain ⟨v, w, u, x, ys, m, rfl, h1, h2, h3, ⟨E, hl, hb⟩, rfl⟩ := h
  have h3' : IntR.R G u (m : Int) := h3
  have few := E.few
  have m8 := E.m8
  refine st_ret e (ev_lc (B := IntR) (fun p => LF.product (LF.column x p) ys) (src_rng1 (k := m) rfl (by omega) (ev_var rfl h3')) (tg_name 3) rfl (by rw [List.length_range]; omega) fun i p G1 σ2 hi e1 ag hq => ?_) k
  have hpm : p < m := List.mem_range.mp (List.mem_of_getElem? hi)
  exact ev_call2 (ev_call2 (ev_var ((ag.2 0 (by decide)).trans rfl) (TabR.st e1 h1)) hq.ev ⟨by omega, fun r hr => by rw [E.len r hr]; exact hpm⟩) (ev_var ((ag.2 1 (by decide)).trans rfl) (RowR.st e1 h2))
    ⟨by rw [LF.column_len, hl], Nat.le_trans (E.col p).2 (by decide), sms_of (E.col p).1 (by decide), sms_of hb (by decide)⟩
theorem products_len (x : List (List Int)) (m : Nat) : (LF.products x m).length = m := by
  unfold LF.products LF.columns
  rw [List.length_map, List.length_map, List.length_range]
theorem products_row {x : List (List Int)} {m : Nat} : ∀ r ∈ LF.products x m, r.length = m := fun r hr => by
  unfold LF.products at hr
  obtain ⟨c, _, rfl⟩ := List.mem_map.mp hr
  unfold LF.columns
  rw [List.length_map, List.length_map, List.length_range]
theorem sc_solved_for : FnScope ["entries", "many", "right", "rows", "row", "number"] ["entries", "many", "right"] (defScope (top 50)) := ⟨rfl, rfl, rfl, by decide +kernel, rfl, by decide +kernel, by decide +kernel⟩
theorem kn_solved_for (T : Wd P w K mg base a) : Kn P w K mg base 46 "solved_for" (FnS (SolR K) (Pre3 TabR NatR RowR (fun rows many right => Ents many rows ∧ right.length = many ∧ LF.Bn 35 right) LF.solvedFor)) := by
  refine T.d_solved_for.kn sc_solved_for (fun _ _ _ _ _ _ us hl => match us, hl with | [_, _, _], _ => rfl) (fun G vs y ⟨_, _, _, _, _, _, h, _⟩ => by rw [h]; rfl) fun cdv f A outer s H E hr => ⟨_, (pss_cons (ps_setLc (i := 3) (own := [("row", 4), ("number", 5)]) rfl sc_solved_for.nd rfl rfl (sw_true rfl rfl rfl (by decide +kernel)) (pi_zipK (K := K) rfl rfl T.b_zip (pa_cons (pe_kn (kn_products T) (hr.mono (by decide)) rfl (pa_cons (pv 0) (pa_cons (pv 1) pa_nil))) (pa_cons (pv 2) pa_nil))) (blkOk_by (N := ["entries", "many", "right", "rows", "row", "number"]) (sc := (defScope (top 50))) (by decide +kernel)) (fun _ _ _ _ _ => (pg_tupK (K := K) (n := 2) rfl rfl (pgs_cons (pg_name (i := 4) sc_solved_for.nd rfl (Or.inl rfl)) (pgs_cons (pg_name (i := 5) sc_solved_for.nd rfl (Or.inl rfl)) pgs_nil)))) (fun _ _ _ _ _ => pts_nil) (fun _ _ _ _ _ => (pe_op op_cat (pv 4) (pe_lst (pa_cons (pv 5) pa_nil))))) (pss_one (ps_ret (pe_kn (kn_solved T) (hr.mono (by decide)) rfl (pa_cons (pv 3) (pa_cons (pv 1) pa_nil)))))), fun vs G y D e h k => ?_⟩
  obtain ⟨v, w, u, x, m, c, rfl, h1, h2, h3, ⟨E, hl, hb⟩, rfl⟩ := h
  have few := E.few
  have m8 := E.m8
  have lp := products_len x m
  refine st_set (A := TabR) (x := LF.augmented x m c) e ((ev_lc (B := RowR) (fun q : List Int × Int => q.1 ++ [q.2]) (src_zip (by rw [lp, hl]) (ev_call2 (ev_var rfl h1) (ev_var rfl h2) E) (ev_var rfl h3)) (tg_pair 4 5 (by decide)) rfl (by rw [List.length_zip]; omega) fun i q G1 σ2 hi e1 ag hq => ?_).to (zip_map (fun r n => r ++ [n]) _ _)) fun u1 H1 G1 o1 r1 => ?_
  · have hm := List.of_mem_zip (List.mem_of_getElem? hi)
    exact ev_cat (by rw [products_row _ hm.1]; show m + 1 ≤ _; omega) hq.1.ev (ev_lst (el_cons hq.2.ev el_nil) (by show 1 ≤ _; decide))
  · have la : (LF.augmented x m c).length ≤ 8 := by
      rw [LF.augmented_eq hl, List.length_map, List.length_range]
      exact m8
    refine st_ret o1.kn (ev_call2 (ev_var rfl r1) (ev_var (A := NatR) rfl (NatR.st o1.up h2)) ⟨35, 8, ⟨LF.augmented_bn hl E.bn E.few hb (by decide), LF.augmented_len hl, la, by decide, by omega, by decide⟩, m8⟩) fun u H3 G3 o3 ru => k u H3 G3 (o1.trans o3) ru
theorem sc_best_fit : FnScope ["entries", "responses", "many"] ["entries", "responses", "many"] (defScope (top 51)) := ⟨rfl, rfl, rfl, by decide +kernel, rfl, by decide +kernel, by decide +kernel⟩
theorem kn_best_fit (T : Wd P w K mg base a) : Kn P w K mg base 47 "best_fit" (FnS (SolR K) (Pre3 TabR RowR NatR (fun rows ys many => Ents many rows ∧ ys.length = rows.length ∧ LF.Bn 20 ys) LF.bestFit)) := by
  refine T.d_best_fit.kn sc_best_fit (fun _ _ _ _ _ _ us hl => match us, hl with | [_, _, _], _ => rfl) (fun G vs y ⟨_, _, _, _, _, _, h, _⟩ => by rw [h]; rfl) fun cdv f A outer s H E hr => ⟨_, (pss_one (ps_ret (pe_kn (kn_solved_for T) (hr.mono (by decide)) rfl (pa_cons (pv 0) (pa_cons (pv 2) (pa_cons (pe_kn (kn_right_sides T) (hr.mono (by decide)) rfl (pa_cons (pv 0) (pa_cons (pv 1) (pa_cons (pv 2) pa_nil)))) pa_nil)))))), fun vs G y D e h k => ?_⟩
  obtain ⟨v, w, u, x, ys, m, rfl, h1, h2, h3, ⟨E, hl, hb⟩, rfl⟩ := h
  exact st_ret e (ev_call3 (ev_var rfl h1) (ev_var rfl h3) (ev_call3 (ev_var rfl h1) (ev_var rfl h2) (ev_var rfl h3) ⟨E, hl, hb⟩) ⟨E, LF.right_len .., LF.right_bn E.bn E.few hb⟩) k
/-- a solution as the program has it -/
structure Sol (many : Nat) (f : List Int × Int) : Prop where
  len : f.1.length = many
  ne : f.2 ≠ 0
  bt : LF.Bn 94500 f.1
  bb : f.2.natAbs < 2 ^ 84000
  m8 : many ≤ 8
theorem Ents.solved {many : Nat} {rows : List (List Int)} {c : List Int} {f : List Int × Int} (E : Ents many rows) (hl : c.length = many) (hb : LF.Bn 35 c) (h : LF.solvedFor rows many c = some f) : Sol many f := by
  obtain ⟨tops, bottom⟩ := f
  obtain ⟨q1, q2⟩ := LF.solved_bottom (LF.augmented_len hl) h
  obtain ⟨q3, q4⟩ := LF.solved_bn (LF.augmented_bn hl E.bn E.few hb (by decide)) (by decide) E.m8 (LF.augmented_len hl) h
  exact ⟨q2, by show bottom ≠ 0; omega, q4, q3, E.m8⟩
theorem Ents.best {many : Nat} {rows : List (List Int)} {ys : List Int} {f : List Int × Int} (E : Ents many rows) (hb : LF.Bn 20 ys) (h : LF.bestFit rows ys many = some f) : Sol many f :=
  E.solved (LF.right_len ..) (LF.right_bn E.bn E.few hb) h
/-- so many bits above, so many below -/
structure FrB (b c : Nat) (p : Int × Int) : Prop where
  up : p.1.natAbs < 2 ^ b
  dn : p.2.natAbs < 2 ^ c
  ne : p.2 ≠ 0
theorem FrB.fr {b c : Nat} {p : Int × Int} (h : FrB b c p) (hb : b ≤ 499999) (hc : c ≤ 499999) : Fr p := ⟨sm_of h.up hb, sm_of h.dn hc, h.ne⟩
theorem FrB.mono {b c b' c' : Nat} {p : Int × Int} (h : FrB b c p) (hb : b ≤ b') (hc : c ≤ c') : FrB b' c' p := ⟨Nat.lt_of_lt_of_le h.up (LF.pow_le hb), Nat.lt_of_lt_of_le h.dn (LF.pow_le hc), h.ne⟩
theorem part_dvd (t b : Int) : LF.part t b ∣ t ∧ LF.part t b ∣ b := by
  obtain ⟨h1, h2⟩ := LF.common_dvd t b
  unfold LF.part
  split
  · rw [Int.zero_sub]
    exact ⟨Int.neg_dvd.mpr h1, Int.neg_dvd.mpr h2⟩
  · exact ⟨h1, h2⟩
theorem ratio_frb {t d : Int} {b c : Nat} (ht : t.natAbs < 2 ^ b) (hd : d.natAbs < 2 ^ c) (h0 : d ≠ 0) : FrB b c (LF.ratio t d) := by
  obtain ⟨h1, h2⟩ := part_dvd t d
  refine ⟨Nat.lt_of_le_of_lt (LF.fdiv_le h1) ht, Nat.lt_of_le_of_lt (LF.fdiv_le h2) hd, ?_⟩
  show d.fdiv (LF.part t d) ≠ 0
  obtain ⟨q, hq⟩ := h2
  intro z
  have hp : LF.part t d ≠ 0 := fun z => h0 (by rw [hq, z, Int.zero_mul])
  have zz : (LF.part t d * q).fdiv (LF.part t d) = q := Int.mul_fdiv_cancel_left _ hp
  rw [← hq, z] at zz
  exact h0 (by rw [hq, ← zz, Int.mul_zero])
theorem plus_frb {p q : Int × Int} {b c b' c' n : Nat} (hp : FrB b c p) (hq : FrB b' c' q) (h1 : b + c' ≤ n) (h2 : b' + c ≤ n) : FrB (n + 1) (c + c') (LF.plusP p q) :=
  ratio_frb (LF.bn_add (Nat.lt_of_lt_of_le (LF.bn_mul hp.up hq.dn) (LF.pow_le h1)) (Nat.lt_of_lt_of_le (LF.bn_mul hq.up hp.dn) (LF.pow_le h2))) (LF.bn_mul hp.dn hq.dn) (Int.mul_ne_zero hp.ne hq.ne)
theorem minus_frb {p q : Int × Int} {b c b' c' n : Nat} (hp : FrB b c p) (hq : FrB b' c' q) (h1 : b + c' ≤ n) (h2 : b' + c ≤ n) : FrB (n + 1) (c + c') (LF.minusP p q) :=
  ratio_frb (LF.bn_sub (Nat.lt_of_lt_of_le (LF.bn_mul hp.up hq.dn) (LF.pow_le h1)) (Nat.lt_of_lt_of_le (LF.bn_mul hq.up hp.dn) (LF.pow_le h2))) (LF.bn_mul hp.dn hq.dn) (Int.mul_ne_zero hp.ne hq.ne)
theorem times_frb {p q : Int × Int} {b c b' c' : Nat} (hp : FrB b c p) (hq : FrB b' c' q) : FrB (b + b') (c + c') (LF.timesP p q) :=
  ratio_frb (LF.bn_mul hp.up hq.up) (LF.bn_mul hp.dn hq.dn) (Int.mul_ne_zero hp.ne hq.ne)
theorem over_frb {p q : Int × Int} {b c b' c' : Nat} (hp : FrB b c p) (hq : FrB b' c' q) (h0 : q.1 ≠ 0) : FrB (b + c') (c + b') (LF.overP p q) :=
  ratio_frb (LF.bn_mul hp.up hq.dn) (LF.bn_mul hp.dn hq.up) (Int.mul_ne_zero hp.ne h0)
theorem Sol.prod {many : Nat} {f : List Int × Int} (S : Sol many f) {v : List Int} (hl : v.length = many) (hv : LF.Bn 10 v) : (LF.product v f.1).natAbs < 2 ^ 94513 :=
  lt_pow (LF.product_bn (n := 3) hv S.bt (by rw [hl]; exact S.m8)) (by decide)
theorem Sol.weighed {many : Nat} {f : List Int × Int} (S : Sol many f) {v : List Int} (hl : v.length = many) (hv : LF.Bn 10 v) : FrB 94513 84000 (LF.weighed v f) := ratio_frb (S.prod hl hv) S.bb S.ne
theorem sc_weighed : FnScope ["vector", "found", "tops", "bottom"] ["vector", "found"] (defScope (top 52)) := ⟨rfl, rfl, rfl, by decide +kernel, rfl, by decide +kernel, by decide +kernel⟩
theorem kn_weighed (T : Wd P w K mg base a) : Kn P w K mg base 43 "weighed" (FnS (PrR K) (Pre2 RowR (PairR K RowR IntR) (fun v f => ∃ many, Sol many f ∧ v.length = many ∧ LF.Bn 10 v) LF.weighed)) := by
  refine T.d_weighed.kn sc_weighed (fun _ _ _ _ _ _ us hl => match us, hl with | [_, _], _ => rfl) (fun G vs y ⟨v, w, _, _, h, _⟩ => by rw [h]; rfl) fun cdv f A outer s H E hr => ⟨_, (pss_cons (ps_asg (pv 1) (pg_tupK (K := K) (n := 2) rfl rfl (pgs_cons (pg_name (i := 2) sc_weighed.nd rfl (Or.inl rfl)) (pgs_cons (pg_name (i := 3) sc_weighed.nd rfl (Or.inl rfl)) pgs_nil)))) (pss_one (ps_ret (pe_kn (kn_ratio T) (hr.mono (by decide)) rfl (pa_cons (pe_kn (kn_product T) (hr.mono (by decide)) rfl (pa_cons (pv 0) (pa_cons (pv 2) pa_nil))) (pa_cons (pv 3) pa_nil)))))), fun vs G y D e h k => ?_⟩
  obtain ⟨v1, v2, v, f, rfl, h1, h2, ⟨m, S, hl, hb⟩, rfl⟩ := h
  have m8 := S.m8
  refine st_unp e (tg_pair 2 3 (by decide)) rfl (ev_var rfl h2) fun σ2 H2 G2 o2 a2 ⟨f1, f2⟩ => ?_
  exact st_ret o2.kn (ev_call2 (ev_call2 (ev_var ((a2.2 0 (by decide)).trans rfl) (RowR.st o2.up h1)) f1.ev ⟨by rw [hl, S.len], by omega, sms_of hb (by decide), sms_of S.bt (by decide)⟩) f2.ev S.ne) fun u H3 G3 o3 ru => k u H3 G3 (o2.trans o3) ru
theorem resid_term {many : Nat} {f : List Int × Int} (S : Sol many f) {r : List Int} {y : Int} (hl : r.length = many) (hr : LF.Bn 10 r) (hy : y.natAbs < 2 ^ 20) : (y * f.2 - LF.product r f.1).natAbs < 2 ^ 94514 :=
  lt_pow (LF.bn_sub (lt_pow (LF.bn_mul hy S.bb) (by decide)) (S.prod hl hr)) (by decide)
theorem resid_sum {many : Nat} {rows : List (List Int)} {ys : List Int} {f : List Int × Int} (E : Ents many rows) (S : Sol many f) (hb : LF.Bn 20 ys) : (LF.residSum rows ys f).natAbs < 2 ^ 189033 := by
  have e : LF.residSum rows ys f = ((rows.zip ys).map fun e => LF.square (e.2 * f.2 - LF.product e.1 f.1)).sum := by
    unfold LF.residSum
    have go : ∀ (l : List (List Int × Int)) (t : Int), l.foldl (fun t e => t + LF.square (e.2 * f.2 - LF.product e.1 f.1)) t = t + (l.map fun e => LF.square (e.2 * f.2 - LF.product e.1 f.1)).sum := by
      intro l
      induction l with
      | nil => intro t; simp
      | cons e l ih => intro t; rw [List.foldl_cons, ih, List.map_cons, List.sum_cons, Int.add_assoc]
    rw [go, Int.zero_add]
  rw [e]
  refine lt_pow (LF.sum_bn (b := 189028) (n := 5) ?_ fun z hz => ?_) (by decide)
  · rw [List.length_map, List.length_zip]
    have := E.few
    omega
  · obtain ⟨⟨r, y⟩, hm, rfl⟩ := List.mem_map.mp hz
    obtain ⟨q1, q2⟩ := List.of_mem_zip hm
    have t := resid_term S (E.len r q1) (E.bn r q1) (hb y q2)
    exact lt_pow (LF.bn_mul t t) (by decide)
theorem Ents.resid {many : Nat} {rows : List (List Int)} {ys : List Int} (E : Ents many rows) (hb : LF.Bn 20 ys) : FrB 189033 168000 (LF.residualSumOf rows ys many) := by
  unfold LF.residualSumOf
  cases q : LF.bestFit rows ys many with
  | none => exact ⟨Nat.pow_pos (by decide), by show 1 < 2 ^ 168000; exact Nat.one_lt_two_pow (by decide), by show (1 : Int) ≠ 0; decide⟩
  | some f =>
    have S := E.best hb q
    exact ratio_frb (resid_sum E S hb) (lt_pow (LF.bn_mul S.bb S.bb) (by decide)) (Int.mul_ne_zero S.ne S.ne)
theorem sc_residual_sum_of : FnScope ["entries", "responses", "many", "tops", "bottom", "total", "row", "response"] ["entries", "responses", "many"] (defScope (top 53)) := ⟨rfl, rfl, rfl, by decide +kernel, rfl, by decide +kernel, by decide +kernel⟩
theorem kn_residual_sum_of (T : Wd P w K mg base a) : Kn P w K mg base 48 "residual_sum_of" (FnS (PrR K) (Pre3 TabR RowR NatR (fun rows ys many => Ents many rows ∧ ys.length = rows.length ∧ LF.Bn 20 ys) LF.residualSumOf)) := by
  refine T.d_residual_sum_of.kn sc_residual_sum_of (fun _ _ _ _ _ _ us hl => match us, hl with | [_, _, _], _ => rfl) (fun G vs y ⟨_, _, _, _, _, _, h, _⟩ => by rw [h]; rfl) fun cdv f A outer s H E hr => ⟨_, (pss_cons (ps_asg (pe_kn (kn_best_fit T) (hr.mono (by decide)) rfl (pa_cons (pv 0) (pa_cons (pv 1) (pa_cons (pv 2) pa_nil)))) (pg_tupK (K := K) (n := 2) rfl rfl (pgs_cons (pg_name (i := 3) sc_residual_sum_of.nd rfl (Or.inl rfl)) (pgs_cons (pg_name (i := 4) sc_residual_sum_of.nd rfl (Or.inl rfl)) pgs_nil)))) (pss_cons (ps_set (i := 5) sc_residual_sum_of.nd rfl (Or.inl rfl) pe_int) (pss_cons (ps_for PassesOwn.never rfl (pi_zipK (K := K) rfl rfl T.b_zip (pa_cons (pv 0) (pa_cons (pv 1) pa_nil))) (pg_tupK (K := K) (n := 2) rfl rfl (pgs_cons (pg_name (i := 6) sc_residual_sum_of.nd rfl (Or.inl rfl)) (pgs_cons (pg_name (i := 7) sc_residual_sum_of.nd rfl (Or.inl rfl)) pgs_nil))) (pss_one (ps_set (i := 5) sc_residual_sum_of.nd rfl (Or.inl rfl) (pe_op op_add (pv 5) (pe_kn (kn_square T) (hr.mono (by decide)) rfl (pa_cons (pe_op op_sub (pe_op op_mulW (pv 7) (pv 4)) (pe_kn (kn_product T) (hr.mono (by decide)) rfl (pa_cons (pv 6) (pa_cons (pv 3) pa_nil)))) pa_nil)))))) (pss_one (ps_ret (pe_kn (kn_ratio T) (hr.mono (by decide)) rfl (pa_cons (pv 5) (pa_cons (pe_kn (kn_square T) (hr.mono (by decide)) rfl (pa_cons (pv 4) pa_nil)) pa_nil)))))))), fun vs G y D e h k => ?_⟩
  obtain ⟨v, w, u, x, ys, m, rfl, h1, h2, h3, ⟨E, hl, hb⟩, rfl⟩ := h
  have few := E.few
  obtain ⟨tops, bottom, hf⟩ := LF.bestFit_some E.len hl
  have S := E.best hb hf
  have m8 := S.m8
  refine st_unp (x := (tops, bottom)) e (tg_pair 3 4 (by decide)) rfl ((ev_call3 (ev_var rfl h1) (ev_var rfl h2) (ev_var rfl h3) ⟨E, hl, hb⟩).as (B := PairR K RowR IntR) fun v H2 _ r => by rw [hf] at r; exact r.2) fun σ2 H2 G2 o2 a2 ⟨f1, f2⟩ => ?_
  have l2 : σ2.length = 8 := a2.1
  have g0 : At TabR 0 G2 σ2 x := ⟨v, (a2.2 0 (by decide)).trans rfl, TabR.st o2.up h1⟩
  have g1 : At RowR 1 G2 σ2 ys := ⟨w, (a2.2 1 (by decide)).trans rfl, RowR.st o2.up h2⟩
  clear a2
  refine st_set (A := IntR) (x := 0) o2.kn ev_int fun u4 H4 G4 o4 r4 => ?_
  have t4 := (f1.mono o4.up).put (k := 5) (v := some u4) (by decide)
  have b4 := (f2.mono o4.up).put (k := 5) (v := some u4) (by decide)
  have x4 := (g0.mono o4.up).put (k := 5) (v := some u4) (by decide)
  have y4 := (g1.mono o4.up).put (k := 5) (v := some u4) (by decide)
  have c4 : At IntR 5 G4 (σ2.set 5 (some u4)) 0 := At.set (by omega) r4
  have l4 : (σ2.set 5 (some u4)).length = 8 := by rw [List.length_set]; exact l2
  generalize σ2.set 5 (some u4) = σ4 at t4 b4 x4 y4 c4 l4 ⊢
  refine st_fold (C := IntR) (k := 5) (acc0 := 0) (fun t (e : List Int × Int) => t + LF.square (e.2 * bottom - LF.product e.1 tops)) o4.kn (src_zip hl.symm x4.ev y4.ev) (tg_pair 6 7 (by decide)) (by decide) (by unfold inb; rw [l4]; rfl) c4 (fun i z σ5 G5 hz e5 ag hc hn => ?_) fun σ5 H5 G5 o5 ag hc => ?_
  · have hm := List.of_mem_zip (List.mem_of_getElem? hz)
    have hr := E.len _ hm.1
    have br := E.bn _ hm.1
    have by' := hb _ hm.2
    refine ev_add hc.ev (ev_call1 (ev_sub (ev_mulW ((sm_of by' (by decide)).mul (sm_of S.bb (by decide))) hn.2.ev ((b4.mono e5).agr ag (by decide)).ev) (ev_call2 hn.1.ev ((t4.mono e5).agr ag (by decide)).ev ⟨by rw [hr]; exact S.len.symm, by omega, sms_of br (by decide), sms_of S.bt (by decide)⟩)) ?_)
    exact sm_of (resid_term S hr br by') (by decide)
  · refine st_ret o5.kn (ev_call2 hc.ev (ev_call1 ((b4.mono o5.up).agr ag (by decide)).ev (sm_of S.bb (by decide))) (Int.mul_ne_zero S.ne S.ne)) fun u H6 G6 o6 ru => k u H6 G6 (((o2.trans o4).trans o5).trans o6) ?_
    unfold LF.residualSumOf
    rw [hf]
    exact ru
end
end LW

set_option linter.all false
set_option Elab.async false
set_option maxRecDepth 100000
set_option maxHeartbeats 4000000
namespace LW
open PySem PySem.Spec PyProof.Rows L2
open Evl (Ex)
/-! ## == of pairs, of tables with [] -/
section
variable {K : PySem.W.Frag} {σ : L2.St} {H : Hp} {ta : TE}
theorem dp_ints {G : Hp} : ∀ {vs : List V} {xs : List Int}, All2 (IntR.R G) vs xs → DpAll K H vs (xs.map PyData.int)
  | [], [], _ => .nil
  | v :: vs, x :: xs, h => by
    have e : v = .int x := h.1
    subst e
    exact .cons (.int x) (dp_ints h.2)
theorem can_ints : ∀ xs : List Int, PyData.canLayAll0 (xs.map PyData.int) = true
  | [] => rfl
  | x :: xs => by
    show (PyData.canLay0 (.int x) && PyData.canLayAll0 (xs.map PyData.int)) = true
    rw [can_ints xs]
    rfl
theorem depth_ints : ∀ xs : List Int, PyData.depthAll (xs.map PyData.int) = 0
  | [] => rfl
  | x :: xs => by
    show max (PyData.depth (.int x)) (PyData.depthAll (xs.map PyData.int)) = 0
    rw [depth_ints xs]
    rfl
def tabD (t : List (List Int)) : List PyData := t.map fun r => .list (r.map PyData.int)
theorem can_tab : ∀ t : List (List Int), PyData.canLayAll0 (tabD t) = true
  | [] => rfl
  | r :: t => by
    show (PyData.canLayAll0 (r.map PyData.int) && PyData.canLayAll0 (tabD t)) = true
    rw [can_tab t, can_ints]
    rfl
theorem depth_tab : ∀ t : List (List Int), PyData.depthAll (tabD t) ≤ 1
  | [] => by decide
  | r :: t => by
    show max (PyData.depthAll (r.map PyData.int) + 1) (PyData.depthAll (tabD t)) ≤ 1
    rw [depth_ints]
    have := depth_tab t
    omega
theorem shaped_tab (t : List (List Int)) : SeqAt.shaped (.list (tabD t)) = true := by
  show (PyData.canLayAll0 (tabD t) && decide (PyData.depthAll (tabD t) + 1 ≤ 64)) = true
  rw [can_tab, decide_eq_true (by have := depth_tab t; omega)]
  rfl
theorem dp_tab {G : Hp} (e : Ex G H) : ∀ {vs : List V} {t : List (List Int)}, All2 (RowR.R G) vs t → DpAll K H vs (tabD t)
  | [], [], _ => .nil
  | v :: vs, r :: t, h => by
    obtain ⟨⟨a, ws, rfl, h2, h3⟩, hr⟩ := h
    exact .cons (.lst (Evl.sq_of (e _ _ h2)) (dp_ints h3)) (dp_tab e hr)
theorem ev_eqNil {t : List (List Int)} (ha : EV ta σ H TabR t) : EV (tOp (rEqD K) ta (tLst tNil)) σ H BoolR (decide (t = [])) := fun G H1 e e1 Q q =>
  ha G H1 e e1 _ fun u H2 G2 o2 hu => ⟨by show 0 ≤ sizeLine; exact Nat.zero_le _, fun p hp => by
    obtain ⟨a, vs, rfl, h2, h3⟩ := hu
    have e2 : Ex G2 (upd H2 p (.lst [])) := o2.kn.trans (Ex.new hp)
    refine ⟨.list (tabD t), .list [], .lst (Evl.sq_of (e2 _ _ h2)) (dp_tab e2 h3), .lst (Evl.sq_of upd_same) .nil, shaped_tab t, rfl, q _ _ _ (o2.trans (Ok.grow o2.kn (Ex.new hp))) ?_⟩
    show V.bl _ = V.bl _
    congr 1
    cases t with
    | nil => rfl
    | cons r t => rfl⟩
theorem ev_eqPair {p q : Int × Int} {b : Addr} (hc : ∀ H, SqT K H b [.int q.1, .int q.2]) (ha : EV ta σ H (PrR K) p) : EV (tOp (rEqD K) ta (tC (.ref b))) σ H BoolR (decide (p = q)) := fun G H1 e e1 Q k =>
  ha G H1 e e1 _ fun u H2 G2 o2 ⟨a, u1, u2, h1, h2, h3, h4⟩ => by
    have h3 : u1 = .int p.1 := h3
    have h4 : u2 = .int p.2 := h4
    subst h1 h3 h4
    refine ⟨.tuple [.int p.1, .int p.2], .tuple [.int q.1, .int q.2], .tup (Evl.ex_t o2.kn h2) (.cons (.int _) (.cons (.int _) .nil)), .tup (hc _) (.cons (.int _) (.cons (.int _) .nil)), rfl, rfl, k _ _ _ o2 ?_⟩
    show V.bl (p.1 == q.1 && (p.2 == q.2 && true)) = V.bl _
    congr 1
    rw [Bool.and_true]
    obtain ⟨p1, p2⟩ := p
    obtain ⟨q1, q2⟩ := q
    by_cases h1 : p1 = q1
    · by_cases h2 : p2 = q2
      · subst h1 h2; simp
      · rw [decide_eq_false (fun z => h2 (congrArg Prod.snd z))]; simp [h2]
    · rw [decide_eq_false (fun z => h1 (congrArg Prod.fst z))]; simp [h1]
end
/-! ## tables whose rows may change -/
theorem map_ref_inj : ∀ {l m : List Addr}, l.map V.ref = m.map V.ref → l = m
  | [], [], _ => rfl
  | [], _ :: _, h => by cases h
  | _ :: _, [], h => by cases h
  | a :: l, b :: m, h => by
    rw [List.map_cons, List.map_cons] at h
    rw [V.ref.inj (List.cons.inj h).1, map_ref_inj (List.cons.inj h).2]
structure MuT (H0 G H : Hp) (p : Addr) (t : List (List Int)) : Prop where
  ex : ∃ rs : List Addr, H p = some (.lst (rs.map V.ref)) ∧ rs.length = t.length ∧ (p :: rs).Nodup ∧ (∀ b ∈ p :: rs, G b = none ∧ H0 b = none) ∧ ∀ (i : Nat) (r : Addr) (row : List Int), rs[i]? = some r → t[i]? = some row → H r = some (.lst (row.map V.int))
section
variable {K : PySem.W.Frag} {α β γ ζ : Type} {A : RelS α} {B : RelS β} {C : RelS γ} {Z : RelS ζ} {σ : L2.St} {H G H0 G0 : Hp} {te : TE} {tz : TS} {D : Ends}
theorem MuT.there {p : Addr} {t : List (List Int)} {rs : List Addr} (h1 : H p = some (.lst (rs.map V.ref))) (h2 : rs.length = t.length) (h5 : ∀ (i : Nat) (r : Addr) (row : List Int), rs[i]? = some r → t[i]? = some row → H r = some (.lst (row.map V.int))) : ∀ b ∈ p :: rs, H b ≠ none := fun b hb => by
  rcases List.mem_cons.mp hb with rfl | hb
  · rw [h1]; exact fun z => by cases z
  · obtain ⟨i, hi, e⟩ := List.mem_iff_getElem.mp hb
    rw [h5 i b t[i] (by rw [List.getElem?_eq_getElem hi, e]) (List.getElem?_eq_getElem (by omega))]
    exact fun z => by cases z
theorem MuT.ok {H2 G2 : Hp} {p : Addr} {t : List (List Int)} (o : Ok G H H2 G2) (m : MuT H0 G H p t) : MuT H0 G2 H2 p t := by
  obtain ⟨rs, h1, h2, h3, h4, h5⟩ := m.ex
  have th := MuT.there h1 h2 h5
  exact ⟨rs, o.ex _ _ h1, h2, h3, fun b hb => ⟨o.no b (h4 b hb).1 (th b hb), (h4 b hb).2⟩, fun i r row q1 q2 => o.ex _ _ (h5 i r row q1 q2)⟩
theorem MuT.know {p : Addr} {t : List (List Int)} (o : Ok G0 H0 H G) (m : MuT H0 G H p t) : ∃ G2, Ok G0 H0 H G2 ∧ Ex G G2 ∧ TabR.R G2 (.ref p) t := by
  obtain ⟨rs, h1, h2, h3, h4, h5⟩ := m.ex
  refine ⟨fun b => if b ∈ p :: rs then H b else G b, ⟨o.ex, fun b u hb => ?_, o.up.trans fun b u hb => ?_, fun b q1 q2 => ?_⟩, fun b u hb => ?_, p, rs.map V.ref, rfl, ?_, ?_⟩
  · by_cases c : b ∈ p :: rs
    · simp only [if_pos c] at hb; exact hb
    · simp only [if_neg c] at hb; exact o.kn b u hb
  · by_cases c : b ∈ p :: rs
    · rw [(h4 b c).1] at hb; cases hb
    · simp only [if_neg c]; exact hb
  · by_cases c : b ∈ p :: rs
    · exact absurd (h4 b c).2 q2
    · simp only [if_neg c]; exact o.no b q1 q2
  · by_cases c : b ∈ p :: rs
    · rw [(h4 b c).1] at hb; cases hb
    · simp only [if_neg c]; exact hb
  · simp only [if_pos (List.mem_cons_self (a := p) (l := rs))]; exact h1
  · have go : ∀ (rs' : List Addr) (t' : List (List Int)), rs'.length = t'.length → (∀ b ∈ rs', b ∈ p :: rs) → (∀ (i : Nat) (r : Addr) (row : List Int), rs'[i]? = some r → t'[i]? = some row → H r = some (.lst (row.map V.int))) →
        All2 (RowR.R fun b => if b ∈ p :: rs then H b else G b) (rs'.map V.ref) t' := by
      intro rs'
      induction rs' with
      | nil =>
        intro t' hl _ _
        cases t' with
        | nil => trivial
        | cons _ _ => cases hl
      | cons r rs' ih =>
        intro t' hl hm hh
        cases t' with
        | nil => cases hl
        | cons row t' =>
          refine ⟨⟨r, row.map V.int, rfl, ?_, All2.ofI row⟩, ih t' (Nat.succ.inj hl) (fun b hb => hm b (List.mem_cons_of_mem _ hb)) fun i r row q1 q2 => hh (i + 1) r row q1 q2⟩
          show (if r ∈ p :: rs then H r else G r) = _
          rw [if_pos (hm r List.mem_cons_self)]
          exact hh 0 r row rfl rfl
    exact go rs t h2 (fun b hb => List.mem_cons_of_mem _ hb) h5
/-- table = [a new list for ..], whose rows will change -/
theorem st_newT {wi : TI} {g : TG} {vs : List Nat} {zs : List ζ} {F : Hp → L2.St → ζ → Prop} {slot : Nat} (f : ζ → List Int) (e : Ex G H) (S : Src wi σ G Z zs) (T : Tg g Z vs F) (hv0 : inb vs σ = true) (hz : zs.length ≤ 100000)
    (body : ∀ (i : Nat) (z : ζ) (G1 : Hp) (σ2 : L2.St), zs[i]? = some z → Ex G G1 → Agr vs σ σ2 → F G1 σ2 z → EN te σ2 G1 IntR (f z))
    (k : ∀ p H2 G2, Ok G H H2 G2 → MuT H G2 H2 p (zs.map f) → tz D (σ.set slot (some (.ref p))) H2) : tSeq (tAsg (tLc wi g tYes te vs) (gName slot)) tz D σ H :=
  S G H (Ex.refl _) e _ fun J H2 G2 o go yld stop D' hD => by
    have hv := inb_of hv0
    have nD := Evl.fresh_back o.kn hD
    have hD0 := Evl.fresh_back o.ex hD
    refine ⟨fun i m H' => m = zs.length - i ∧ i ≤ zs.length ∧ ∃ G', Ok G2 H2 H' G' ∧ MuT H G' H' D' ((zs.take i).map f),
      ⟨zs.length, rfl, Nat.zero_le _, G2, ⟨Ex.new hD, Ex.mut o.kn nD, Ex.refl _, fun _ h _ => h⟩, ⟨[], upd_same, rfl, by simp, fun b hb => ?_, fun i r row q1 q2 => by cases q1⟩⟩, ?_⟩
    · rw [List.mem_singleton.mp hb]; exact ⟨nD, hD0⟩
    rintro i m H' ⟨rfl, hi, G', o', mt⟩
    by_cases hlt : i < zs.length
    · refine .inr ⟨go i H' (o'.up.trans o'.kn) hlt, fun H'' => i + 1 ≤ zs.length ∧ ∃ G'', Ok G2 H2 H'' G'' ∧ MuT H G'' H'' D' ((zs.take (i + 1)).map f),
        fun H'' ⟨h1, h2⟩ => ⟨zs.length - (i + 1), by omega, rfl, h1, h2⟩, fun x H'' y => ?_⟩
      obtain ⟨G'', z, o2, hz', rz⟩ := yld i G' H' x H'' o'.up o'.kn hlt y
      obtain ⟨σ2, kk, a, fz⟩ := T G'' x z rz (wipe σ vs) fun j hj => by rw [wipe_length]; exact hv j hj
      have a' : Agr vs σ σ2 := ⟨a.1.trans (wipe_length _ _), fun i hi => (a.2 i hi).trans (wipe_get hi)⟩
      have bt := body i z G'' σ2 hz' ((o.up.trans o'.up).trans o2.up) a' fz
      refine kk H'' _ o2.kn ⟨wipe_agr a, et_yes G'' H'' (Ex.refl _) o2.kn _ fun H3 e3 => ?_⟩
      rw [if_pos rfl]
      refine bt G'' H3 (Ex.refl _) (o2.kn.trans e3) _ fun r H4 G4 o4 hr mr => ?_
      have o14 := (o2.trans (Ok.grow o2.kn e3)).trans o4
      obtain ⟨rs, q1, q2, q3, q4, q5⟩ := (mt.ok o14).ex
      have m3 := (mt.ok (o2.trans (Ok.grow o2.kn e3)))
      obtain ⟨⟨ws, w1, w2⟩, w3⟩ := mr
      have w2 := w2.eqI
      subst w2
      have hrn : r ∉ D' :: rs := fun hm => by
        obtain ⟨rs', p1, p2, p3, p4, p5⟩ := mt.ex
        have e1 : rs' = rs := by
          have := o14.ex _ _ p1
          rw [q1] at this
          have := HO.lst.inj (Option.some.inj this)
          exact (map_ref_inj this).symm
        subst e1
        have := MuT.there p1 p2 p5 r hm
        cases q : H' r with
        | none => exact this q
        | some u =>
          have := (o2.ex.trans e3) _ _ q
          rw [hr] at this
          cases this
      have hrD : r ≠ D' := fun z => hrn (by rw [z]; exact List.mem_cons_self)
      have hr0 : H r = none := Evl.fresh_back (((o.ex.trans o'.ex).trans o2.ex).trans e3) hr
      refine ⟨rs.map V.ref, q1, by rw [List.length_map, q2, List.length_map, List.length_take]; exact Evl.sz_lt (by omega), hlt, G4, (o'.trans o14).mut hD ((q4 D' List.mem_cons_self).1), rs ++ [r], ?_, ?_, ?_, ?_, ?_⟩
      · rw [upd_same, List.map_append]; rfl
      · rw [take_next hz', List.map_append, List.length_append, List.length_append, q2]; rfl
      · rw [← List.cons_append]
        rw [List.nodup_append]
        exact ⟨q3, by simp, fun b hb c hc => by rw [List.mem_singleton.mp hc]; exact fun z => hrn (z ▸ hb)⟩
      · intro b hb
        rw [← List.cons_append, List.mem_append, List.mem_singleton] at hb
        rcases hb with hb | rfl
        · exact q4 b hb
        · exact ⟨w3, hr0⟩
      · intro j r' row j1 j2
        have hne : r' ≠ D' := fun z => by
          have : r' ∈ rs ++ [r] := List.mem_of_getElem? j1
          rw [z, List.mem_append, List.mem_singleton] at this
          rcases this with h | h
          · exact (List.nodup_cons.mp q3).1 h
          · exact hrD h.symm
        rw [upd_ne hne]
        rw [take_next hz', List.map_append] at j2
        have hl : ((zs.take i).map f).length = rs.length := q2.symm
        by_cases c : j < rs.length
        · rw [List.getElem?_append_left c] at j1
          rw [List.getElem?_append_left (by omega)] at j2
          exact q5 j r' row j1 j2
        · rw [List.getElem?_append_right (by omega)] at j1
          rw [List.getElem?_append_right (by omega), hl] at j2
          have : j - rs.length = 0 := by
            have := (List.getElem?_eq_some_iff.mp j1).1
            simp at this
            omega
          rw [this] at j1 j2
          have j1 : r = r' := Option.some.inj j1
          have j2 : f z = row := Option.some.inj j2
          rw [← j1, ← j2]
          exact w1
    · have ei : i = zs.length := by omega
      subst ei
      rw [List.take_length] at mt
      exact .inl ⟨stop _ H' (o'.up.trans o'.kn) (Nat.le_refl _), k D' H' G' (o.trans o') mt⟩
/-- table[i][j] = table[i][j] + n -/
theorem st_bump {a b c d : Nat} {p : Addr} {t : List (List Int)} {i j : Nat} {n : Int} (o : Ok G0 H0 H G) (m : MuT H0 G H p t) (ha : σ[a]? = some (some (.ref p))) (hb : σ[b]? = some (some (.int (i : Int)))) (hc : σ[c]? = some (some (.int (j : Int)))) (hd : σ[d]? = some (some (.int n)))
    (hi : i < t.length) (hj : j < (t.getD i []).length) (k : ∀ H2, Ok G0 H0 H2 G → MuT H0 G H2 p (LF.bump t i j n) → D.nx σ H2) :
    tAsg (tOp rAddI (tOp (rIxL K) (tOp (rIxL K) (tVar a) (tVar b)) (tVar c)) (tVar d)) (gSub (tOp (rIxL K) (tVar a) (tVar b)) (tVar c) rSetL) D σ H := by
  obtain ⟨rs, h1, h2, h3, h4, h5⟩ := m.ex
  have hir : rs[i]? = some (rs[i]'(by omega)) := List.getElem?_eq_getElem (by omega)
  have hit : t[i]? = some (t.getD i []) := by rw [List.getD_eq_getElem?_getD, List.getElem?_eq_getElem hi]; rfl
  generalize hr : (rs[i]'(by omega)) = r at hir
  generalize hrow : t.getD i [] = row at hit hj
  have hh := h5 i r row hir hit
  have hrm : r ∈ rs := List.mem_of_getElem? hir
  have hrp : r ≠ p := fun z => (List.nodup_cons.mp h3).1 (z ▸ hrm)
  have g := h4 r (List.mem_cons_of_mem _ hrm)
  have ix1 : atI (rs.map V.ref) (i : Int) = some (V.ref r) := atI_nat (by rw [List.getElem?_map, hir]; rfl)
  have ix2 : atI (row.map V.int) (j : Int) = some (V.int (row.getD j 0)) := atI_nat (by rw [List.getElem?_map, List.getD_eq_getElem?_getD, List.getElem?_eq_getElem hj]; rfl)
  refine ⟨.ref p, ha, .int i, hb, p, _, _, _, rfl, rfl, Evl.sq_of h1, ix1, .int j, hc, r, _, _, _, rfl, rfl, Evl.sq_of hh, ix2, .int n, hd, row.getD j 0, n, rfl, rfl, ?_⟩
  refine ⟨.ref p, ha, .int i, hb, p, _, _, _, rfl, rfl, Evl.sq_of h1, ix1, .int j, hc, r, _, _, j, rfl, rfl, hh, ?_, ?_⟩
  · unfold ixN
    rw [if_pos (by omega), if_pos (by rw [List.length_map]; omega)]
    rfl
  · refine k _ (o.mut g.2 g.1) ⟨rs, by rw [upd_ne (Ne.symm hrp)]; exact h1, by unfold LF.bump; rw [List.length_set]; exact h2, h3, h4, fun i' r' row' q1 q2 => ?_⟩
    unfold LF.bump at q2
    rw [hrow] at q2
    have nd := (List.nodup_cons.mp h3).2
    by_cases c : i' = i
    · subst c
      rw [hir] at q1
      have q1 : r = r' := Option.some.inj q1
      rw [List.getElem?_set_self hi] at q2
      have q2 : row.set j (row.getD j 0 + n) = row' := Option.some.inj q2
      rw [← q1, ← q2, upd_same, List.map_set]
    · rw [List.getElem?_set_ne (Ne.symm c)] at q2
      have : r' ≠ r := fun z => by
        obtain ⟨k1, k2⟩ := List.getElem?_eq_some_iff.mp q1
        obtain ⟨k3, k4⟩ := List.getElem?_eq_some_iff.mp hir
        exact c ((List.getElem_inj nd).mp (by rw [k2, k4, z]))
      rw [upd_ne this]
      exact h5 i' r' row' q1 q2
end
end LW

set_option linter.all false
set_option Elab.async false
set_option maxRecDepth 100000
set_option maxHeartbeats 4000000
namespace LW
open PySem PySem.Spec PyProof.Rows L2
open Evl (Ex)
section
variable {P : Program} {w : World} {K : PySem.W.Frag} {mg : Str → Option Value} {base : Heap} {a : Ad}
theorem range_at {k i z : Nat} (h : (List.range k)[i]? = some z) : z = i ∧ i < k := by
  obtain ⟨h1, h2⟩ := List.getElem?_eq_some_iff.mp h
  rw [List.getElem_range] at h2
  rw [List.length_range] at h1
  exact ⟨h2.symm, h1⟩
theorem sc_pairs_of : FnScope ["many", "found", "one", "other"] ["many"] (defScope (top 58)) := ⟨rfl, rfl, rfl, by decide +kernel, rfl, by decide +kernel, by decide +kernel⟩
theorem kn_pairs_of (T : Wd P w K mg base a) : Kn P w K mg base 41 "pairs_of" (FnS (ListR (PairR K NatR NatR)) (Pre1 NatR (fun k => k ≤ 8) LF.pairsOf)) := by
  refine T.d_pairs_of.kn sc_pairs_of (fun _ _ _ _ _ _ us hl => match us, hl with | [_], _ => rfl) (fun G vs y ⟨v, _, h, _⟩ => by rw [h]; rfl) fun cdv f A outer s H E hr => ⟨_, (pss_cons (ps_set (i := 1) sc_pairs_of.nd rfl (Or.inl rfl) (pe_lst pa_nil)) (pss_cons (ps_for PassesOwn.never rfl (pi_range1 rfl T.b_range (pa_cons (pv 0) pa_nil)) (pg_name (i := 2) sc_pairs_of.nd rfl (Or.inr rfl)) (pss_one (ps_expr (pe_bmK (K := K) rfl PySem.F.plainAttrs_list PySem.F.slot_list_extend PySem.F.type_list_extend mt_extend (pv 1) (pa_cons (pe_lc (own := [("other", 3)]) rfl sc_pairs_of.nd (pi_range2 rfl T.b_range (pa_cons (pv 2) (pa_cons (pv 0) pa_nil))) (blkOk_by (N := ["many", "found", "one", "other"]) (sc := (defScope (top 58))) (by decide +kernel)) (fun _ _ _ _ _ => (pg_name (i := 3) sc_pairs_of.nd rfl (Or.inl rfl))) (fun _ _ _ _ _ => pts_nil) (fun _ _ _ _ _ => (pe_tup (pa_cons (pv 2) (pa_cons (pv 3) pa_nil))))) pa_nil))))) (pss_one (ps_ret (pv 1))))), fun vs G y D e h k => ?_⟩
  obtain ⟨v, n, rfl, h1, h8, rfl⟩ := h
  have h1' : IntR.R G v (n : Int) := h1
  refine st_new (A := PairR K NatR NatR) (xs := []) e el_nil (by decide) fun p H1 G1 o1 hp m1 => ?_
  refine st_exts (k := 1) (fun i => (List.range' i (n - i)).map fun j => (i, j)) o1 hp m1 rfl (src_rng1 (k := n) rfl (by omega) (ev_var rfl (IntR.st o1.up h1'))) (tg_name 2) (by decide) rfl (fun z hz => ?_) (by rw [List.length_range]; omega) (by decide) (fun i z σ2 G2 hz e2 ag hz1 => ?_) fun σ2 H2 G2 o2 e2 ag m2 => ?_
  · rw [List.length_map, List.length_range']; omega
  · obtain ⟨rfl, hi⟩ := range_at hz
    refine ev_lc (B := PairR K NatR NatR) (fun j => (z, j)) (src_rng2 (lo := z) (hi := n) rfl rfl (by omega) (by omega) (hz1.ev.as fun v H2 _ r => r) (ev_var ((ag.2 0 (by decide)).trans rfl) (IntR.st (o1.up.trans e2) h1'))) (tg_name 3) (by unfold inb; rw [ag.1]; rfl) (by rw [List.length_range']; omega) fun i' j G3 σ3 hi' e3 ag' hj => ?_
    exact ev_pair ((hz1.mono e3).agr ag' (by decide)).ev hj.ev
  · obtain ⟨G3, o3, e3, r3⟩ := m2.know o2 hp
    exact st_ret o3.kn (ev_var ((ag.2 1 (by decide)).trans rfl) r3) fun u H4 G4 o4 ru => k u H4 G4 (o3.trans o4) ru
/-- so many rows, each so long -/
def Shape (k : Nat) (t : List (List Int)) : Prop := t.length = k ∧ ∀ r ∈ t, r.length = k
theorem Shape.get {k i : Nat} {t : List (List Int)} (h : Shape k t) (hi : i < k) : (t.getD i []).length = k := by
  rw [List.getD_eq_getElem?_getD, List.getElem?_eq_getElem (by rw [h.1]; exact hi)]
  exact h.2 _ (List.getElem_mem _)
theorem Shape.bump {k i j : Nat} {t : List (List Int)} {n : Int} (h : Shape k t) (hi : i < k) : Shape k (LF.bump t i j n) := by
  unfold LF.bump
  refine ⟨by rw [List.length_set]; exact h.1, fun r hr => ?_⟩
  rcases List.mem_or_eq_of_mem_set hr with hr | rfl
  · exact h.2 r hr
  · rw [List.length_set]; exact h.get hi
theorem pairs_lt {k : Nat} {z : Nat × Nat} (h : z ∈ LF.pairsOf k) : z.1 < k ∧ z.2 < k := by
  unfold LF.pairsOf at h
  obtain ⟨i, hi, h⟩ := List.mem_flatMap.mp h
  obtain ⟨j, hj, rfl⟩ := List.mem_map.mp h
  have h1 := List.mem_range.mp hi
  have h2 := List.mem_range'_1.mp hj
  exact ⟨h1, by show j < k; omega⟩
theorem pairs_len {k : Nat} (h1 : 1 ≤ k) (h3 : k ≤ 3) : (LF.pairsOf k).length = k * (k + 1) / 2 := by
  match k, h1, h3 with
  | 1, _, _ => rfl
  | 2, _, _ => rfl
  | 3, _, _ => rfl
theorem sc_hessian : FnScope ["many", "quadratic", "table", "one", "other", "number"] ["many", "quadratic"] (defScope (top 59)) := ⟨rfl, rfl, rfl, by decide +kernel, rfl, by decide +kernel, by decide +kernel⟩
theorem kn_hessian (T : Wd P w K mg base a) : Kn P w K mg base 42 "hessian" (FnS TabR (Pre2 NatR RowR (fun k q => 1 ≤ k ∧ k ≤ 3 ∧ q.length = k * (k + 1) / 2) LF.hessianM)) := by
  refine T.d_hessian.kn sc_hessian (fun _ _ _ _ _ _ us hl => match us, hl with | [_, _], _ => rfl) (fun G vs y ⟨v, w, _, _, h, _⟩ => by rw [h]; rfl) fun cdv f A outer s H E hr => ⟨_, (pss_cons (ps_setLc (i := 2) (own := [("one", 3)]) rfl sc_hessian.nd rfl rfl (sw_true rfl rfl rfl (by decide +kernel)) (pi_range1 rfl T.b_range (pa_cons (pv 0) pa_nil)) (blkOk_by (N := ["many", "quadratic", "table", "one", "other", "number"]) (sc := (defScope (top 59))) (by decide +kernel)) (fun _ _ _ _ _ => (pg_name (i := 3) sc_hessian.nd rfl (Or.inl rfl))) (fun _ _ _ _ _ => pts_nil) (fun _ _ _ _ _ => (pe_op op_rep (pe_lst (pa_cons pe_int pa_nil)) (pv 0)))) (pss_cons (ps_for PassesOwn.never rfl (pi_zipK (K := K) rfl rfl T.b_zip (pa_cons (pe_kn (kn_pairs_of T) (hr.mono (by decide)) rfl (pa_cons (pv 0) pa_nil)) (pa_cons (pv 1) pa_nil))) (pg_tupK (K := K) (n := 2) rfl rfl (pgs_cons (pg_tupK (K := K) (n := 2) rfl rfl (pgs_cons (pg_name (i := 3) sc_hessian.nd rfl (Or.inl rfl)) (pgs_cons (pg_name (i := 4) sc_hessian.nd rfl (Or.inl rfl)) pgs_nil))) (pgs_cons (pg_name (i := 5) sc_hessian.nd rfl (Or.inl rfl)) pgs_nil))) (pss_cons (ps_asg (pe_op op_add (pe_ix (ix_listK (K := K) rfl) (pe_ix (ix_listK (K := K) rfl) (pv 2) (pv 3) (fun _ _ => rfl)) (pv 4) (fun _ _ => rfl)) (pv 5)) (pg_sub (pe_ix (ix_listK (K := K) rfl) (pv 2) (pv 3) (fun _ _ => rfl)) (pv 4) set_list)) (pss_one (ps_asg (pe_op op_add (pe_ix (ix_listK (K := K) rfl) (pe_ix (ix_listK (K := K) rfl) (pv 2) (pv 4) (fun _ _ => rfl)) (pv 3) (fun _ _ => rfl)) (pv 5)) (pg_sub (pe_ix (ix_listK (K := K) rfl) (pv 2) (pv 4) (fun _ _ => rfl)) (pv 3) set_list))))) (pss_one (ps_ret (pv 2))))), fun vs G y D e h k => ?_⟩
  obtain ⟨v1, v2, n, q, rfl, h1, h2, ⟨n1, n3, hq⟩, rfl⟩ := h
  have h1' : IntR.R G v1 (n : Int) := h1
  have hpl := pairs_len n1 n3
  have hql : q.length ≤ 6 := by
    rw [hq]
    have : n * (n + 1) ≤ 3 * 4 := Nat.mul_le_mul n3 (by omega)
    omega
  refine st_newT (fun _ => List.replicate n 0) e (src_rng1 (k := n) rfl (by omega) (ev_var rfl h1')) (tg_name 3) rfl (by rw [List.length_range]; omega) (fun i z G1 σ2 hi e1 ag hz => ?_) fun p H1 G1 o1 m1 => ?_
  · exact en_rep (k := n) rfl (by omega) (ev_lst (el_cons ev_int el_nil) (by decide)) (ev_var ((ag.2 0 (by decide)).trans rfl) (IntR.st e1 h1'))
  · have e0 : (List.range n).map (fun _ => List.replicate n (0 : Int)) = List.replicate n (List.replicate n 0) := by
      rw [List.map_const', List.length_range]
    rw [e0] at m1
    refine st_for o1.kn (src_zip (hpl.trans hq.symm) (ev_call1 (ev_var (A := NatR) rfl (NatR.st o1.up h1)) (by show n ≤ 8; omega)) (ev_var rfl (RowR.st o1.up h2))) fun H2 G2 o2 => ⟨fun i σ' G' H' => Ok G H H' G' ∧ Ex G2 G' ∧ Agr [3, 4, 5] [some v1, some v2, some (.ref p), none, none, none] σ' ∧
      MuT H G' H' p ((((LF.pairsOf n).zip q).take i).foldl (fun t e => LF.bump (LF.bump t e.1.1 e.1.2 e.2) e.1.2 e.1.1 e.2) (List.replicate n (List.replicate n 0))), ⟨o1.trans o2, Ex.refl _, Agr.refl _ _, m1.ok o2⟩, ?_, ?_⟩
    · rintro i z σ' G' H' hz ⟨o', e', ag, mt⟩
      refine ⟨e', o'.kn, fun v G3 H3 o3 rz => ?_⟩
      obtain ⟨σ2, kk, a2, ⟨f1, f2⟩, f3⟩ := tg_nest (K := K) (A := NatR) (B := NatR) (C := IntR) 3 4 5 (by decide) (by decide) (by decide) G3 v z rz σ' fun j hj => by
        rw [ag.1]
        exact of_decide_eq_true (List.all_eq_true.mp (show ([3, 4, 5].all fun j => decide (j < 6)) = true from rfl) j hj)
      have a3 := ag.trans a2
      obtain ⟨w1, p1, q1⟩ := f1
      obtain ⟨w2, p2, q2⟩ := f2
      obtain ⟨w3, p3, q3⟩ := f3
      have q1 : w1 = .int (z.1.1 : Int) := q1
      have q2 : w2 = .int (z.1.2 : Int) := q2
      have q3 : w3 = .int z.2 := q3
      subst q1 q2 q3
      have pp : σ2[2]? = some (some (.ref p)) := (a3.2 2 (by decide)).trans rfl
      have hm := List.of_mem_zip (List.mem_of_getElem? hz)
      obtain ⟨z1, z2⟩ := pairs_lt hm.1
      have sh : ∀ (l : List ((Nat × Nat) × Int)) (t : List (List Int)), (∀ e ∈ l, e.1 ∈ LF.pairsOf n) → Shape n t → Shape n (l.foldl (fun t e => LF.bump (LF.bump t e.1.1 e.1.2 e.2) e.1.2 e.1.1 e.2) t) := by
        intro l
        induction l with
        | nil => intro t _ h; exact h
        | cons x l ih =>
          intro t hl h
          obtain ⟨x1, x2⟩ := pairs_lt (hl x List.mem_cons_self)
          exact ih _ (fun e he => hl e (List.mem_cons_of_mem _ he)) ((h.bump x1).bump x2)
      have s1 : Shape n ((((LF.pairsOf n).zip q).take i).foldl (fun t e => LF.bump (LF.bump t e.1.1 e.1.2 e.2) e.1.2 e.1.1 e.2) (List.replicate n (List.replicate n 0))) :=
        sh _ _ (fun e he => (List.of_mem_zip (List.mem_of_mem_take he)).1) ⟨List.length_replicate, fun r hr => by rw [List.eq_of_mem_replicate hr, List.length_replicate]⟩
      generalize ht : (((LF.pairsOf n).zip q).take i).foldl (fun t e => LF.bump (LF.bump t e.1.1 e.1.2 e.2) e.1.2 e.1.1 e.2) (List.replicate n (List.replicate n 0)) = t at mt s1
      have s2 := s1.bump (j := z.1.2) (n := z.2) z1
      refine kk H3 _ o3.kn (st_bump (D := { D with nx := _, ct := _, bk := _ }) (o'.trans o3) (mt.ok o3) pp p1 p2 p3 (by rw [s1.1]; exact z1) (by rw [s1.get z1]; exact z2) fun H4 o4 m4 => ?_)
      refine st_bump o4 m4 pp p2 p1 p3 (by rw [s2.1]; exact z2) (by rw [s2.get z2]; exact z1) fun H5 o5 m5 => ⟨G3, o5, e'.trans o3.up, a3, by
        rw [take_next hz, List.foldl_append, ht]
        exact m5⟩
    · rintro σ' G' H' ⟨o', e', ag, mt⟩
      rw [List.take_length] at mt
      obtain ⟨G3, o3, e3, r3⟩ := mt.know o'
      exact ⟨e', o'.kn, st_ret o3.kn (ev_var ((ag.2 2 (by decide)).trans rfl) r3) fun u H4 G4 o4 ru => k u H4 G4 (o3.trans o4) ru⟩
/-! ## determinants -/
theorem zipIdx_enum (r : List Int) : r.zipIdx = (enumL r).map fun e => (e.2, e.1) := by
  unfold enumL
  exact List.ext_getElem (by simp) fun i h1 h2 => by simp
def small (rest : List (List Int)) (p : Nat) : List (List Int) := rest.map fun row => row.take p ++ row.drop (p + 1)
def detStep (n : Nat) (rest : List (List Int)) (s : Int × Int) (e : Nat × Int) : Int × Int := (s.1 + s.2 * e.2 * LF.detM n (small rest e.1), 0 - s.2)
theorem detM_enum (n : Nat) (r : List Int) (rest : List (List Int)) : LF.detM (n + 1) (r :: rest) = ((enumL r).foldl (detStep n rest) (0, 1)).1 := by
  unfold LF.detM
  rw [zipIdx_enum, List.foldl_map]
  rfl
theorem small_shape {n p : Nat} {r : List Int} {rest : List (List Int)} (h : Shape (n + 1) (r :: rest)) (hp : p < n + 1) : Shape n (small rest p) := by
  refine ⟨by unfold small; rw [List.length_map]; exact Nat.succ.inj h.1, fun x hx => ?_⟩
  obtain ⟨y, hy, rfl⟩ := List.mem_map.mp hx
  have := h.2 y (List.mem_cons_of_mem _ hy)
  rw [List.length_append, List.length_take, List.length_drop, this]
  omega
theorem small_bn {b p : Nat} {r : List Int} {rest : List (List Int)} (h : LF.BnT b (r :: rest)) : LF.BnT b (small rest p) := fun x hx z hz => by
  obtain ⟨y, hy, rfl⟩ := List.mem_map.mp hx
  have := h y (List.mem_cons_of_mem _ hy)
  rcases List.mem_append.mp hz with hz | hz
  · exact this z (List.mem_of_mem_take hz)
  · exact this z (List.mem_of_mem_drop hz)
theorem enum_mem {α : Type} {r : List α} {e : Nat × α} (h : e ∈ enumL r) : e.1 < r.length ∧ e.2 ∈ r := by
  have := List.of_mem_zip h
  exact ⟨List.mem_range.mp this.1, this.2⟩
theorem det_go {n M : Nat} {rest : List (List Int)} : ∀ (l : List (Nat × Int)) (s : Int × Int), s.2.natAbs = 1 → (∀ e ∈ l, (e.2 * LF.detM n (small rest e.1)).natAbs < M) → (l.foldl (detStep n rest) s).2.natAbs = 1 ∧ (l.foldl (detStep n rest) s).1.natAbs ≤ s.1.natAbs + l.length * M := by
  intro l
  induction l with
  | nil => intro s h _; exact ⟨h, by simp⟩
  | cons x l ih =>
    intro s h hl
    have hx := hl x List.mem_cons_self
    rw [List.foldl_cons]
    obtain ⟨i1, i2⟩ := ih (detStep n rest s x) (by show (0 - s.2).natAbs = 1; omega) fun e he => hl e (List.mem_cons_of_mem _ he)
    refine ⟨i1, Nat.le_trans i2 ?_⟩
    have e1 : (s.2 * x.2 * LF.detM n (small rest x.1)).natAbs = (x.2 * LF.detM n (small rest x.1)).natAbs := by
      rw [Int.mul_assoc, Int.natAbs_mul, h, Nat.one_mul]
    have e2 : (detStep n rest s x).1 = s.1 + s.2 * x.2 * LF.detM n (small rest x.1) := rfl
    rw [e2, List.length_cons, Nat.succ_mul]
    generalize s.2 * x.2 * LF.detM n (small rest x.1) = y at e1
    omega
theorem det_bn {b : Nat} : ∀ (n : Nat) (t : List (List Int)), n ≤ 3 → Shape n t → LF.BnT b t → (LF.detM n t).natAbs < 2 ^ (n * (b + 2) + 1)
  | 0, t, _, _, _ => by
    show (1 : Int).natAbs < _
    exact Nat.one_lt_two_pow (by omega)
  | n + 1, [], _, h, _ => by cases h.1
  | n + 1, r :: rest, h4, h, hb => by
    rw [detM_enum]
    have hr : r.length = n + 1 := h.2 r List.mem_cons_self
    have le : (enumL r).length = n + 1 := by unfold enumL; rw [List.length_zip, List.length_range, Nat.min_self, hr]
    have q := (det_go (n := n) (M := 2 ^ (b + (n * (b + 2) + 1))) (rest := rest) (enumL r) (0, 1) rfl fun e he => by
      obtain ⟨e1, e2⟩ := enum_mem he
      exact LF.bn_mul (hb r List.mem_cons_self _ e2) (det_bn n _ (by omega) (small_shape h (by omega)) (small_bn hb))).2
    refine Nat.lt_of_le_of_lt q ?_
    rw [le]
    have : (n + 1) * (b + 2) + 1 = (b + (n * (b + 2) + 1)) + 2 := by rw [Nat.succ_mul]; omega
    have e4 : 2 ^ ((n + 1) * (b + 2) + 1) = 2 ^ (b + (n * (b + 2) + 1)) * 4 := by rw [this]; exact Nat.pow_add 2 (b + (n * (b + 2) + 1)) 2
    rw [e4]
    have : (n + 1) * 2 ^ (b + (n * (b + 2) + 1)) ≤ 3 * 2 ^ (b + (n * (b + 2) + 1)) := Nat.mul_le_mul_right _ h4
    have hp : 0 < 2 ^ (b + (n * (b + 2) + 1)) := Nat.pow_pos (by decide)
    have z0 : (((0 : Int), (1 : Int)).1).natAbs = 0 := rfl
    rw [z0]
    generalize 2 ^ (b + (n * (b + 2) + 1)) = M at *
    omega
/-- a table that a determinant is asked of -/
structure Sq (n : Nat) (t : List (List Int)) : Prop where
  sh : Shape t.length t
  lt : t.length < n
  n4 : n ≤ 4
  bn : LF.BnT 30 t
abbrev DetP (n : Nat) : Hp → List V → Int → Prop := Pre1 TabR (Sq n) fun t => LF.detM t.length t
theorem sc_determinant : FnScope ["table", "total", "sign", "place", "number", "smaller", "row"] ["table"] (defScope (top 60)) := ⟨rfl, rfl, rfl, by decide +kernel, rfl, by decide +kernel, by decide +kernel⟩
theorem det_step (T : Wd P w K mg base a) {kk n : Nat} (F : Kn P w K mg base kk "determinant" (FnS IntR (DetP n))) (h41 : 40 ≤ kk) : Kn P w K mg base (kk + 1) "determinant" (FnS IntR (DetP (n + 1))) := by
  refine T.d_determinant.kn sc_determinant (fun _ _ _ _ _ _ us hl => match us, hl with | [_], _ => rfl) (fun G vs y ⟨v, _, h, _⟩ => by rw [h]; rfl) fun cdv f A outer s H E hr => ⟨_, (pss_cons (ps_if (pt_cmpR (op_eqDK (K := K) rfl hr.units) (pv 0) (pe_lst pa_nil) (nomark _)) (pss_one (ps_ret pe_int)) pss_nil) (pss_cons (ps_set (i := 1) sc_determinant.nd rfl (Or.inl rfl) pe_int) (pss_cons (ps_set (i := 2) sc_determinant.nd rfl (Or.inl rfl) pe_int) (pss_cons (ps_for PassesOwn.never rfl (pi_enumK (K := K) rfl rfl T.b_enumerate (pa_cons (pe_ix (ix_listK (K := K) rfl) (pv 0) pe_int (fun _ _ => rfl)) pa_nil)) (pg_tupK (K := K) (n := 2) rfl rfl (pgs_cons (pg_name (i := 3) sc_determinant.nd rfl (Or.inr rfl)) (pgs_cons (pg_name (i := 4) sc_determinant.nd rfl (Or.inl rfl)) pgs_nil))) (pss_cons (ps_setLc (i := 5) (own := [("row", 6)]) rfl sc_determinant.nd rfl rfl (sw_true rfl rfl rfl (by decide +kernel)) (pi_listK (K := K) rfl (pe_slice (sl_listK (K := K) rfl) (pv 0) (po_some pe_int) po_none)) (blkOk_by (N := ["table", "total", "sign", "place", "number", "smaller", "row"]) (sc := (defScope (top 60))) (by decide +kernel)) (fun _ _ _ _ _ => (pg_name (i := 6) sc_determinant.nd rfl (Or.inl rfl))) (fun _ _ _ _ _ => pts_nil) (fun _ _ _ _ _ => (pe_op op_cat (pe_slice (sl_listK (K := K) rfl) (pv 6) po_none (po_some (pv 3))) (pe_slice (sl_listK (K := K) rfl) (pv 6) (po_some (pe_op op_add (pv 3) pe_int)) po_none)))) (pss_cons (ps_set (i := 1) sc_determinant.nd rfl (Or.inl rfl) (pe_op op_add (pv 1) (pe_op op_mulW (pe_op op_mulW (pv 2) (pv 4)) (pe_kn F (hr.mono (by omega)) rfl (pa_cons (pv 5) pa_nil))))) (pss_one (ps_set (i := 2) sc_determinant.nd rfl (Or.inl rfl) (pe_op op_sub pe_int (pv 2))))))) (pss_one (ps_ret (pv 1))))))), fun vs G y D e h k => ?_⟩
  obtain ⟨v, t, rfl, h1, S, rfl⟩ := h
  have sh := S.sh
  have lt := S.lt
  have n4 := S.n4
  refine st_when e (et_test (ev_eqNil (ev_var rfl h1))) (fun hb H2 e2 => ?_) (fun hb H2 e2 => ?_)
  · have hb := of_decide_eq_true hb
    subst hb
    exact st_ret (A := IntR) (x := 1) (e.trans e2) ev_int fun u H3 G3 o3 ru => k u H3 G3 ((Ok.grow e e2).trans o3) ru
  · have hb := of_decide_eq_false hb
    obtain ⟨r, rest, rfl⟩ : ∃ r rest, t = r :: rest := match t, hb with
      | [], h => absurd rfl h
      | r :: rest, _ => ⟨r, rest, rfl⟩
    have lr : r.length = rest.length + 1 := sh.2 r List.mem_cons_self
    have lt' : rest.length + 1 < n + 1 := lt
    have le : (enumL r).length = r.length := by unfold enumL; rw [List.length_zip, List.length_range, Nat.min_self]
    refine st_set (A := IntR) (x := 0) (e.trans e2) ev_int fun u3 H3 G3 o3 r3 => ?_
    refine st_set (A := IntR) (x := 1) o3.kn ev_int fun u4 H4 G4 o4 r4 => ?_
    have o04 := ((Ok.grow e e2).trans o3).trans o4
    have t4 : At TabR 0 G4 (((start ["table", "total", "sign", "place", "number", "smaller", "row"] [v]).set 1 (some u3)).set 2 (some u4)) (r :: rest) := ⟨v, rfl, TabR.st o04.up h1⟩
    have c4 : At IntR 1 G4 (((start ["table", "total", "sign", "place", "number", "smaller", "row"] [v]).set 1 (some u3)).set 2 (some u4)) 0 := ⟨u3, rfl, IntR.st o4.up r3⟩
    have s4 : At IntR 2 G4 (((start ["table", "total", "sign", "place", "number", "smaller", "row"] [v]).set 1 (some u3)).set 2 (some u4)) 1 := ⟨u4, rfl, r4⟩
    have l4 : (((start ["table", "total", "sign", "place", "number", "smaller", "row"] [v]).set 1 (some u3)).set 2 (some u4)).length = 7 := rfl
    have eσ : (((start ["table", "total", "sign", "place", "number", "smaller", "row"] [v]).set 1 (some u3)).set 2 (some u4)) = [some v, some u3, some u4, none, none, none, none] := rfl
    refine st_for o4.kn (src_enum (ev_ix (n := 0) rfl rfl t4.ev ev_int)) fun H5 G5 o5 => ⟨fun i σ' G' H' => Ok G H H' G' ∧ Ex G5 G' ∧ Agr [1, 2, 3, 4, 5, 6] [some v, some u3, some u4, none, none, none, none] σ' ∧
      At IntR 1 G' σ' (((enumL r).take i).foldl (detStep rest.length rest) (0, 1)).1 ∧ At IntR 2 G' σ' (((enumL r).take i).foldl (detStep rest.length rest) (0, 1)).2, ⟨o04.trans o5, Ex.refl _, Agr.refl _ _, c4.mono o5.up, s4.mono o5.up⟩, ?_, ?_⟩
    · rintro i z σ' G' H' hz ⟨o', e', ag, hc, hs⟩
      refine ⟨e', o'.kn, fun v6 G6 H6 o6 rz => ?_⟩
      obtain ⟨σ2, q2, a2, f1, f2⟩ := tg_pair (K := K) (A := NatR) (B := IntR) 3 4 (by decide) G6 v6 z rz σ' fun j hj => by
        rw [ag.1]
        exact of_decide_eq_true (List.all_eq_true.mp (show ([3, 4].all fun j => decide (j < 7)) = true from rfl) j hj)
      have a3 := ag.trans (a2.sub (ks := [1, 2, 3, 4, 5, 6]) (by decide))
      obtain ⟨z1, z2⟩ := enum_mem (List.mem_of_getElem? hz)
      have e06 : Ex G4 G6 := (o5.up.trans e').trans o6.up
      have t6 : At TabR 0 G6 σ2 (r :: rest) := (t4.mono e06).agr (js := [1, 2, 3, 4, 5, 6]) (by rw [eσ]; exact a3) (by decide)
      have hc6 := (hc.mono o6.up).agr a2 (by decide)
      have hs6 := (hs.mono o6.up).agr a2 (by decide)
      have l6 : σ2.length = 7 := a3.1
      have hz1 : EV (tVar 3) σ2 G6 IntR (z.1 : Int) := f1.ev.as fun v H2 _ r => r
      have shS := small_shape (n := rest.length) (p := z.1) sh (by omega)
      have bnS := small_bn (p := z.1) S.bn
      have lS : (small rest z.1).length = rest.length := shS.1
      refine q2 H6 _ o6.kn (st_set (A := TabR) (x := small rest z.1) o6.kn (ev_lc (B := RowR) (fun row => row.take z.1 ++ row.drop (z.1 + 1)) (src_list (ev_sliceFrom (xs := r :: rest) (n := 1) rfl t6.ev ev_int)) (tg_name 6) (by unfold inb; rw [l6]; rfl) (by show rest.length ≤ _; omega) fun i' row G7 σ7 hi7 e7 ag7 hrow => ?_) fun u8 H8 G8 o8 r8 => ?_)
      · have hm : row ∈ rest := List.mem_of_getElem? hi7
        have lrow := sh.2 row (List.mem_cons_of_mem _ hm)
        have lrow : row.length = rest.length + 1 := lrow
        have zz := (hz1.mono e7)
        have zz7 : EV (tVar 3) σ7 G7 IntR (z.1 : Int) := ((f1.mono e7).agr ag7 (by decide)).ev.as fun v H2 _ r => r
        exact ev_cat (by rw [List.length_take, List.length_drop]; omega) (ev_sliceTo (n := z.1) rfl hrow.ev zz7) (ev_sliceFrom (n := z.1 + 1) (by omega) hrow.ev (ev_add zz7 ev_int))
      · have c8 := (hc6.mono o8.up).put (k := 5) (v := some u8) (by decide)
        have s8 := (hs6.mono o8.up).put (k := 5) (v := some u8) (by decide)
        have n8 := (f2.mono o8.up).put (k := 5) (v := some u8) (by decide)
        have m8 : At TabR 5 G8 (σ2.set 5 (some u8)) (small rest z.1) := At.set (by omega) r8
        have l8 : (σ2.set 5 (some u8)).length = 7 := by rw [List.length_set]; exact l6
        have a8 : Agr [1, 2, 3, 4, 5, 6] [some v, some u3, some u4, none, none, none, none] (σ2.set 5 (some u8)) := a3.trans (Agr.set (by decide))
        generalize σ2.set 5 (some u8) = σ8 at c8 s8 n8 m8 l8 a8 ⊢
        have gg := det_go (n := rest.length) (M := 2 ^ (30 + (rest.length * (30 + 2) + 1))) (rest := rest) ((enumL r).take i) (0, 1) rfl fun e he => by
          obtain ⟨e1, e2⟩ := enum_mem (List.mem_of_mem_take he)
          exact LF.bn_mul (S.bn r List.mem_cons_self _ e2) (det_bn _ _ (by omega) (small_shape sh (by omega)) (small_bn S.bn))
        have sg := gg.1
        have bnum := S.bn r List.mem_cons_self _ z2
        have bdet := det_bn (b := 30) rest.length (small rest z.1) (by omega) shS bnS
        generalize hst : ((enumL r).take i).foldl (detStep rest.length rest) (0, 1) = st at c8 s8 sg
        have ssm : Sm st.2 := by
          refine sm_of (n := 1) ?_ (by decide)
          show st.2.natAbs < 2
          omega
        have snum : (st.2 * z.2).natAbs < 2 ^ 30 := by rw [Int.natAbs_mul, sg, Nat.one_mul]; exact bnum
        have e49 : rest.length * (30 + 2) + 1 ≤ 499999 := by omega
        have dd : LF.detM (small rest z.1).length (small rest z.1) = LF.detM rest.length (small rest z.1) := by rw [lS]
        refine st_set (A := IntR) (x := st.1 + st.2 * z.2 * LF.detM rest.length (small rest z.1)) o8.kn (ev_add c8.ev (ev_mulW ((sm_of snum (by decide)).mul (sm_of bdet e49)) (ev_mulW (ssm.mul (sm_of bnum (by decide))) s8.ev n8.ev) ((ev_call1 m8.ev ⟨by rw [lS]; exact shS, by rw [lS]; omega, by omega, bnS⟩).to dd))) fun u9 H9 G9 o9 r9 => ?_
        have s9 := (s8.mono o9.up).put (k := 1) (v := some u9) (by decide)
        have c9 : At IntR 1 G9 (σ8.set 1 (some u9)) (st.1 + st.2 * z.2 * LF.detM rest.length (small rest z.1)) := At.set (by omega) r9
        refine st_setL (A := IntR) (x := 0 - st.2) o9.kn (ev_sub ev_int s9.ev) fun u10 H10 G10 o10 r10 => ?_
        have nx : ((enumL r).take (i + 1)).foldl (detStep rest.length rest) (0, 1) = (st.1 + st.2 * z.2 * LF.detM rest.length (small rest z.1), 0 - st.2) := by
          rw [take_next hz, List.foldl_append, hst]
          rfl
        refine ⟨G10, (((o'.trans o6).trans o8).trans o9).trans o10, (((e'.trans o6.up).trans o8.up).trans o9.up).trans o10.up, (a8.trans (Agr.set (by decide))).trans (Agr.set (by decide)), ?_, ?_⟩
        · rw [nx]; exact (c9.mono o10.up).put (by decide)
        · rw [nx]; exact At.set (by rw [List.length_set]; omega) r10
    · rintro σ' G' H' ⟨o', e', ag, hc, hs⟩
      rw [List.take_length] at hc
      refine ⟨e', o'.kn, st_ret (A := IntR) o'.kn hc.ev fun u H6 G6 o6 ru => k u H6 G6 (o'.trans o6) ?_⟩
      show IntR.R G6 u (LF.detM (rest.length + 1) (r :: rest))
      rw [detM_enum]
      exact ru
theorem kn_determinant (T : Wd P w K mg base a) : Kn P w K mg base 44 "determinant" (FnS IntR (DetP 4)) := by
  have F0 : Kn P w K mg base 40 "determinant" (FnS IntR (DetP 0)) := by
    obtain ⟨f, fd, h1, F⟩ := T.d_determinant.ex
    have no : ∀ vs H Q E, FnS IntR (DetP 0) vs H Q E → False := fun vs H Q E ⟨G, y, _, ⟨v, t, _, _, S, _⟩, _⟩ => absurd S.lt (Nat.not_lt_zero _)
    exact ⟨f, fd, ["table"], h1, F.kp, F.binds (fun _ _ _ _ _ _ us hl => match us, hl with | [_], _ => rfl), ⟨fun vs H Q E h => (no vs H Q E h).elim, fun A outer s H args us vs Q E _ _ _ _ h => (no vs H Q E h).elim⟩⟩
  exact det_step T (det_step T (det_step T (det_step T F0 (by decide)) (by decide)) (by decide)) (by decide)
end
end LW

set_option linter.all false
set_option Elab.async false
set_option maxRecDepth 100000
set_option maxHeartbeats 4000000
namespace LW
open PySem PySem.Spec PyProof.Rows L2
open Evl (Ex)
section
variable {P : Program} {w : World} {K : PySem.W.Frag} {mg : Str → Option Value} {base : Heap} {a : Ad}
theorem Shape.top {k n : Nat} {t : List (List Int)} (h : Shape k t) (hn : n ≤ k) : Shape n ((t.take n).map fun r => r.take n) := by
  refine ⟨by rw [List.length_map, List.length_take, h.1]; omega, fun r hr => ?_⟩
  obtain ⟨x, hx, rfl⟩ := List.mem_map.mp hr
  rw [List.length_take, h.2 x (List.mem_of_mem_take hx)]
  omega
theorem bn_top {b n : Nat} {t : List (List Int)} (h : LF.BnT b t) : LF.BnT b ((t.take n).map fun r => r.take n) := fun r hr z hz => by
  obtain ⟨x, hx, rfl⟩ := List.mem_map.mp hr
  exact h x (List.mem_of_mem_take hx) z (List.mem_of_mem_take hz)
theorem sc_leading_minors : FnScope ["table", "size", "row"] ["table"] (defScope (top 61)) := ⟨rfl, rfl, rfl, by decide +kernel, rfl, by decide +kernel, by decide +kernel⟩
theorem kn_leading_minors (T : Wd P w K mg base a) : Kn P w K mg base 45 "leading_minors" (FnS RowR (Pre1 TabR (Sq 4) LF.minorsM)) := by
  refine T.d_leading_minors.kn sc_leading_minors (fun _ _ _ _ _ _ us hl => match us, hl with | [_], _ => rfl) (fun G vs y ⟨v, _, h, _⟩ => by rw [h]; rfl) fun cdv f A outer s H E hr => ⟨_, (pss_one (ps_ret (pe_lc (own := [("size", 1)]) rfl sc_leading_minors.nd (pi_range2 rfl T.b_range (pa_cons pe_int (pa_cons (pe_op op_add (pe_callB (cr_lenK (K := K) rfl) rfl T.b_len PySem.boot_len (pa_cons (pv 0) pa_nil)) pe_int) pa_nil))) (blkOk_by (N := ["table", "size", "row"]) (sc := (defScope (top 61))) (by decide +kernel)) (fun _ _ _ _ _ => (pg_name (i := 1) sc_leading_minors.nd rfl (Or.inr rfl))) (fun _ _ _ _ _ => pts_nil) (fun _ _ _ _ _ => (pe_kn (kn_determinant T) (hr.mono (by decide)) rfl (pa_cons (pe_lc (own := [("row", 2)]) rfl sc_leading_minors.nd (pi_listK (K := K) rfl (pe_slice (sl_listK (K := K) rfl) (pv 0) po_none (po_some (pv 1)))) (blkOk_by (N := ["table", "size", "row"]) (sc := (relS _ (defScope (top 61)))) (by decide +kernel)) (fun _ _ _ _ _ => (pg_name (i := 2) sc_leading_minors.nd rfl (Or.inl rfl))) (fun _ _ _ _ _ => pts_nil) (fun _ _ _ _ _ => (pe_slice (sl_listK (K := K) rfl) (pv 2) po_none (po_some (pv 1))))) pa_nil)))))), fun vs G y D e h k => ?_⟩
  obtain ⟨v, t, rfl, h1, S, rfl⟩ := h
  have lt := S.lt
  refine st_ret e ((ev_lc (B := IntR) (fun n => LF.detM n ((t.take n).map fun r => r.take n)) (src_rng2 (lo := 1) (hi := t.length + 1) rfl (by omega) (by omega) (by omega) ev_int (ev_add (ev_len (ev_var rfl h1)) ev_int)) (tg_name 1) rfl (by rw [List.length_range']; omega) fun i n G1 σ2 hi e1 ag hn => ?_).to ?_) k
  · have hn' := List.mem_range'_1.mp (List.mem_of_getElem? hi)
    have hn1 : EV (tVar 1) σ2 G1 IntR (n : Int) := hn.ev.as fun v H2 _ r => r
    have sh := S.sh.top (n := n) (by omega)
    have hS : Sq 4 ((t.take n).map fun r => r.take n) := ⟨by rw [sh.1]; exact sh, by rw [sh.1]; omega, by omega, bn_top S.bn⟩
    have he : LF.detM ((t.take n).map fun r => r.take n).length ((t.take n).map fun r => r.take n) = LF.detM n ((t.take n).map fun r => r.take n) := by rw [sh.1]
    refine (ev_call1 (x := (t.take n).map fun r => r.take n) (ev_lc (B := RowR) (fun r => r.take n) (src_list (ev_sliceTo (n := n) rfl (ev_var ((ag.2 0 (by decide)).trans rfl) (TabR.st e1 h1)) hn1)) (tg_name 2) (by unfold inb; rw [ag.1]; rfl) (by rw [List.length_take]; omega) fun i' r G2 σ3 hi' e2 ag' hr => ?_) hS).to he
    exact ev_sliceTo (n := n) rfl hr.ev (((hn.mono e2).agr ag' (by decide)).ev.as fun v H2 _ r => r)
  · unfold LF.minorsM
    rw [Nat.add_sub_cancel, List.range'_eq_map_range, List.map_map]
    refine List.map_congr_left fun i _ => ?_
    simp only [Function.comp, Nat.add_comm 1 i]
theorem sc_is_turned : FnScope ["at", "minor"] ["at", "minor"] (defScope (top 62)) := ⟨rfl, rfl, rfl, by decide +kernel, rfl, by decide +kernel, by decide +kernel⟩
theorem kn_is_turned (T : Wd P w K mg base a) : Kn P w K mg base 41 "is_turned" (FnS BoolR (Pre2 NatR IntR (fun _ _ => True) fun n z => LF.turned (z, n))) := by
  refine T.d_is_turned.kn sc_is_turned (fun _ _ _ _ _ _ us hl => match us, hl with | [_, _], _ => rfl) (fun G vs y ⟨v, w, _, _, h, _⟩ => by rw [h]; rfl) fun cdv f A outer s H E hr => ⟨_, (pss_cons (ps_if (pt_cmpR op_eq (pe_op op_modN (pv 0) pe_int) pe_int (nomark _)) (pss_one (ps_ret (pe_cmpR op_lt (pv 1) pe_int (nomark _)))) pss_nil) (pss_one (ps_ret (pe_cmpR op_gt (pv 1) pe_int (nomark _))))), fun vs G y D e h k => ?_⟩
  obtain ⟨v, w, n, z, rfl, h1, h2, _, rfl⟩ := h
  have h1' : IntR.R G v (n : Int) := h1
  have em : ((n : Int).fmod 2 = 0) ↔ n % 2 = 0 := by
    rw [Int.fmod_eq_emod_of_nonneg _ (by decide)]
    omega
  refine st_when e (et_test (ev_eqI (ev_mod (by decide) (ev_var rfl h1') ev_int) ev_int)) (fun hb H2 e2 => ?_) (fun hb H2 e2 => ?_)
  · refine st_ret (A := BoolR) (x := decide (z < 0)) (e.trans e2) (ev_cmp (p := fun i j => decide (i < j)) (ev_var rfl h2) ev_int) fun u H3 G3 o3 ru => k u H3 G3 ((Ok.grow e e2).trans o3) ?_
    have e4 : LF.turned (z, n) = decide (z < 0) := if_pos (em.mp (of_decide_eq_true hb))
    show BoolR.R G3 u (LF.turned (z, n))
    rw [e4]
    exact ru
  · refine st_ret (A := BoolR) (x := decide (0 < z)) (e.trans e2) (ev_cmp (p := fun i j => decide (j < i)) (ev_var rfl h2) ev_int) fun u H3 G3 o3 ru => k u H3 G3 ((Ok.grow e e2).trans o3) ?_
    have e4 : LF.turned (z, n) = decide (0 < z) := if_neg (fun q => of_decide_eq_false hb (em.mpr q))
    show BoolR.R G3 u (LF.turned (z, n))
    rw [e4]
    exact ru
theorem sc_kind_of : FnScope ["table", "minors", "minor", "at"] ["table"] (defScope (top 63)) := ⟨rfl, rfl, rfl, by decide +kernel, rfl, by decide +kernel, by decide +kernel⟩
theorem kn_kind_of (T : Wd P w K mg base a) : Kn P w K mg base 46 "kind_of" (FnS IntR (Pre1 TabR (Sq 4) LF.kindM)) := by
  refine T.d_kind_of.kn sc_kind_of (fun _ _ _ _ _ _ us hl => match us, hl with | [_], _ => rfl) (fun G vs y ⟨v, _, h, _⟩ => by rw [h]; rfl) fun cdv f A outer s H E hr => ⟨_, (pss_cons (ps_set (i := 1) sc_kind_of.nd rfl (Or.inl rfl) (pe_kn (kn_leading_minors T) (hr.mono (by decide)) rfl (pa_cons (pv 0) pa_nil))) (pss_cons (ps_if (pt_val (pe_callB (cr_allK (K := K) rfl rfl) rfl T.b_all (by decide +kernel) (pa_cons (pe_lc (own := [("minor", 2)]) rfl sc_kind_of.nd (pi_listK (K := K) rfl (pv 1)) (blkOk_by (N := ["table", "minors", "minor", "at"]) (sc := (defScope (top 63))) (by decide +kernel)) (fun _ _ _ _ _ => (pg_name (i := 2) sc_kind_of.nd rfl (Or.inl rfl))) (fun _ _ _ _ _ => pts_nil) (fun _ _ _ _ _ => (pe_cmpR op_gt (pv 2) pe_int (nomark _)))) pa_nil))) (pss_one (ps_ret (pe_gint T.g_MINIMUM rfl))) pss_nil) (pss_cons (ps_if (pt_val (pe_callB (cr_allK (K := K) rfl rfl) rfl T.b_all (by decide +kernel) (pa_cons (pe_lc (own := [("at", 3), ("minor", 2)]) rfl sc_kind_of.nd (pi_enumK (K := K) rfl rfl T.b_enumerate (pa_cons (pv 1) pa_nil)) (blkOk_by (N := ["table", "minors", "minor", "at"]) (sc := (defScope (top 63))) (by decide +kernel)) (fun _ _ _ _ _ => (pg_tupK (K := K) (n := 2) rfl rfl (pgs_cons (pg_name (i := 3) sc_kind_of.nd rfl (Or.inl rfl)) (pgs_cons (pg_name (i := 2) sc_kind_of.nd rfl (Or.inl rfl)) pgs_nil)))) (fun _ _ _ _ _ => pts_nil) (fun _ _ _ _ _ => (pe_kn (kn_is_turned T) (hr.mono (by decide)) rfl (pa_cons (pv 3) (pa_cons (pv 2) pa_nil))))) pa_nil))) (pss_one (ps_ret (pe_gint T.g_MAXIMUM rfl))) pss_nil) (pss_one (ps_ret (pe_gint T.g_SADDLE rfl)))))), fun vs G y D e h k => ?_⟩
  obtain ⟨v, t, rfl, h1, S, rfl⟩ := h
  have lt := S.lt
  have ml : (LF.minorsM t).length ≤ 3 := by unfold LF.minorsM; rw [List.length_map, List.length_range]; omega
  have le : (enumL (LF.minorsM t)).length = (LF.minorsM t).length := by unfold enumL; rw [List.length_zip, List.length_range, Nat.min_self]
  refine st_set (A := RowR) (x := LF.minorsM t) e (ev_call1 (ev_var rfl h1) S) fun u1 H1 G1 o1 r1 => ?_
  refine st_when o1.kn (et_B (ev_all (ev_lc (B := BoolR) (fun x => decide (0 < x)) (src_list (ev_var rfl r1)) (tg_name 2) rfl (by omega) fun i z G2 σ2 hi e2 ag hz => ev_cmp (p := fun i j => decide (j < i)) hz.ev ev_int))) (fun hb H2 e2 => ?_) (fun hb H2 e2 => ?_)
  · rw [List.all_map] at hb
    refine st_ret (A := IntR) (x := 0) (o1.kn.trans e2) ev_int fun u H3 G3 o3 ru => k u H3 G3 ((o1.trans (Ok.grow o1.kn e2)).trans o3) ?_
    unfold LF.kindM
    rw [if_pos (by simpa using hb)]
    exact ru
  · rw [List.all_map] at hb
    have o2 := o1.trans (Ok.grow o1.kn e2)
    refine st_when o2.kn (et_B (ev_all (ev_lc (B := BoolR) (fun x : Nat × Int => LF.turned (x.2, x.1)) (src_enum (ev_var rfl r1)) (tg_pair 3 2 (by decide)) rfl (by omega) fun i z G2 σ2 hi e2 ag hz => ev_call2 hz.1.ev hz.2.ev trivial))) (fun hc H3 e3 => ?_) (fun hc H3 e3 => ?_)
    · refine st_ret (A := IntR) (x := 1) (o2.kn.trans e3) ev_int fun u H4 G4 o4 ru => k u H4 G4 ((o2.trans (Ok.grow o2.kn e3)).trans o4) ?_
      unfold LF.kindM
      rw [if_neg (by simpa using hb), if_pos ?_]
      · exact ru
      · rw [zipIdx_enum, List.all_map]
        rw [List.all_map] at hc
        exact hc
    · refine st_ret (A := IntR) (x := 2) (o2.kn.trans e3) ev_int fun u H4 G4 o4 ru => k u H4 G4 ((o2.trans (Ok.grow o2.kn e3)).trans o4) ?_
      unfold LF.kindM
      rw [if_neg (by simpa using hb), if_neg ?_]
      · exact ru
      · rw [zipIdx_enum, List.all_map]
        rw [List.all_map] at hc
        intro z
        have hc : (enumL (LF.minorsM t)).all ((LF.turned) ∘ fun e => (e.2, e.1)) = false := hc
        rw [z] at hc
        cases hc
/-- a point's equations -/
structure PtOk (t : List (List Int)) (l : List Int) : Prop where
  sh : Shape l.length t
  bt : LF.BnT 30 t
  bl : LF.Bn 20 l
  l3 : l.length ≤ 3
theorem PtOk.tab {t : List (List Int)} {l : List Int} (h : PtOk t l) : Tab 40 (l.length + 1) 8 (LF.pointRows t l) := by
  have l3 := h.l3
  have hs := h.sh.1
  refine ⟨fun r hr z hz => ?_, fun r hr => ?_, ?_, by decide, by omega, by decide⟩
  · unfold LF.pointRows at hr
    obtain ⟨i, hi, rfl⟩ := List.mem_iff_getElem.mp hr
    rw [List.getElem_zipWith] at hz
    rcases List.mem_append.mp hz with hz | hz
    · exact lt_pow (h.bt _ (List.getElem_mem _) z hz) (by decide)
    · rw [List.mem_singleton.mp hz]
      have hil : i < l.length := by rw [List.length_zipWith] at hi; omega
      have := h.bl _ (List.getElem_mem hil)
      refine lt_pow (a := 20) ?_ (by decide)
      omega
  · unfold LF.pointRows at hr
    obtain ⟨i, hi, rfl⟩ := List.mem_iff_getElem.mp hr
    rw [List.getElem_zipWith, List.length_append, h.sh.2 _ (List.getElem_mem _)]
    rfl
  · unfold LF.pointRows
    rw [List.length_zipWith]
    omega
theorem sc_point_of : FnScope ["table", "linear", "row", "number"] ["table", "linear"] (defScope (top 64)) := ⟨rfl, rfl, rfl, by decide +kernel, rfl, by decide +kernel, by decide +kernel⟩
theorem kn_point_of (T : Wd P w K mg base a) : Kn P w K mg base 46 "point_of" (FnS (SolR K) (Pre2 TabR RowR PtOk LF.pointM)) := by
  refine T.d_point_of.kn sc_point_of (fun _ _ _ _ _ _ us hl => match us, hl with | [_, _], _ => rfl) (fun G vs y ⟨v, w, _, _, h, _⟩ => by rw [h]; rfl) fun cdv f A outer s H E hr => ⟨_, (pss_one (ps_ret (pe_kn (kn_solved T) (hr.mono (by decide)) rfl (pa_cons (pe_lc (own := [("row", 2), ("number", 3)]) rfl sc_point_of.nd (pi_zipK (K := K) rfl rfl T.b_zip (pa_cons (pv 0) (pa_cons (pv 1) pa_nil))) (blkOk_by (N := ["table", "linear", "row", "number"]) (sc := (defScope (top 64))) (by decide +kernel)) (fun _ _ _ _ _ => (pg_tupK (K := K) (n := 2) rfl rfl (pgs_cons (pg_name (i := 2) sc_point_of.nd rfl (Or.inl rfl)) (pgs_cons (pg_name (i := 3) sc_point_of.nd rfl (Or.inl rfl)) pgs_nil)))) (fun _ _ _ _ _ => pts_nil) (fun _ _ _ _ _ => (pe_op op_cat (pv 2) (pe_lst (pa_cons (pe_op op_sub pe_int (pv 3)) pa_nil))))) (pa_cons (pe_callB (cr_lenK (K := K) rfl) rfl T.b_len PySem.boot_len (pa_cons (pv 1) pa_nil)) pa_nil))))), fun vs G y D e h k => ?_⟩
  obtain ⟨v, w, t, l, rfl, h1, h2, h, rfl⟩ := h
  have l3 := h.l3
  have hs := h.sh.1
  refine st_ret e (ev_call2 (A := TabR) (B := NatR) (x := LF.pointRows t l) (y := l.length) ((ev_lc (B := RowR) (fun q : List Int × Int => q.1 ++ [0 - q.2]) (src_zip hs (ev_var rfl h1) (ev_var rfl h2)) (tg_pair 2 3 (by decide)) rfl (by rw [List.length_zip]; omega) fun i q G1 σ2 hi e1 ag hq => ?_).to (zip_map (fun r n => r ++ [0 - n]) _ _)) ((ev_len (ev_var rfl h2)).as fun v H2 _ r => r) ⟨40, 8, h.tab, by omega⟩) k
  have hm := List.of_mem_zip (List.mem_of_getElem? hi)
  exact ev_cat (by rw [h.sh.2 _ hm.1]; show l.length + 1 ≤ _; omega) hq.1.ev (ev_lst (el_cons (ev_sub ev_int hq.2.ev) el_nil) (by show 1 ≤ _; decide))
theorem PtOk.sol {t : List (List Int)} {l : List Int} {f : List Int × Int} (h : PtOk t l) (hf : LF.pointM t l = some f) : Sol l.length f := by
  obtain ⟨tops, bottom⟩ := f
  have l3 := h.l3
  have T := h.tab
  obtain ⟨q1, q2⟩ := LF.solved_bottom T.len hf
  obtain ⟨q3, q4⟩ := LF.solved_bn T.bn T.b40 (by omega) T.len hf
  exact ⟨q2, by show bottom ≠ 0; omega, q4, q3, by omega⟩
/-- what value_at asks -/
structure ValOk (c : Int) (l q : List Int) (f : List Int × Int) : Prop where
  l1 : 1 ≤ l.length
  l3 : l.length ≤ 3
  lq : q.length = l.length * (l.length + 1) / 2
  sol : Sol l.length f
  bc : c.natAbs < 2 ^ 20
  bl : LF.Bn 20 l
  bq : LF.Bn 20 q
theorem sc_value_at : FnScope ["constant", "linear", "quadratic", "point", "tops", "bottom", "total", "one", "other", "number"] ["constant", "linear", "quadratic", "point"] (defScope (top 65)) := ⟨rfl, rfl, rfl, by decide +kernel, rfl, by decide +kernel, by decide +kernel⟩
theorem kn_value_at (T : Wd P w K mg base a) : Kn P w K mg base 44 "value_at" (FnS (PrR K) (Pre4 IntR RowR RowR (PairR K RowR IntR) ValOk LF.valueM)) := by
  refine T.d_value_at.kn sc_value_at (fun _ _ _ _ _ _ us hl => match us, hl with | [_, _, _, _], _ => rfl) (fun G vs y ⟨_, _, _, _, _, _, _, _, h, _⟩ => by rw [h]; rfl) fun cdv f A outer s H E hr => ⟨_, (pss_cons (ps_asg (pv 3) (pg_tupK (K := K) (n := 2) rfl rfl (pgs_cons (pg_name (i := 4) sc_value_at.nd rfl (Or.inl rfl)) (pgs_cons (pg_name (i := 5) sc_value_at.nd rfl (Or.inl rfl)) pgs_nil)))) (pss_cons (ps_set (i := 6) sc_value_at.nd rfl (Or.inl rfl) (pe_op op_add (pe_op op_mulW (pv 0) (pe_kn (kn_square T) (hr.mono (by decide)) rfl (pa_cons (pv 5) pa_nil))) (pe_op op_mulW (pe_kn (kn_product T) (hr.mono (by decide)) rfl (pa_cons (pv 1) (pa_cons (pv 4) pa_nil))) (pv 5)))) (pss_cons (ps_for PassesOwn.never rfl (pi_zipK (K := K) rfl rfl T.b_zip (pa_cons (pe_kn (kn_pairs_of T) (hr.mono (by decide)) rfl (pa_cons (pe_callB (cr_lenK (K := K) rfl) rfl T.b_len PySem.boot_len (pa_cons (pv 1) pa_nil)) pa_nil)) (pa_cons (pv 2) pa_nil))) (pg_tupK (K := K) (n := 2) rfl rfl (pgs_cons (pg_tupK (K := K) (n := 2) rfl rfl (pgs_cons (pg_name (i := 7) sc_value_at.nd rfl (Or.inl rfl)) (pgs_cons (pg_name (i := 8) sc_value_at.nd rfl (Or.inl rfl)) pgs_nil))) (pgs_cons (pg_name (i := 9) sc_value_at.nd rfl (Or.inl rfl)) pgs_nil))) (pss_one (ps_set (i := 6) sc_value_at.nd rfl (Or.inl rfl) (pe_op op_add (pv 6) (pe_op op_mulW (pe_op op_mulW (pv 9) (pe_ix (ix_listK (K := K) rfl) (pv 4) (pv 7) (fun _ _ => rfl))) (pe_ix (ix_listK (K := K) rfl) (pv 4) (pv 8) (fun _ _ => rfl))))))) (pss_one (ps_ret (pe_kn (kn_ratio T) (hr.mono (by decide)) rfl (pa_cons (pv 6) (pa_cons (pe_kn (kn_square T) (hr.mono (by decide)) rfl (pa_cons (pv 5) pa_nil)) pa_nil)))))))), fun vs G y D e h k => ?_⟩
  obtain ⟨v1, v2, v3, v4, c, l, q, f, rfl, h1, h2, h3, h4, h, rfl⟩ := h
  have l3 := h.l3
  have S := h.sol
  have hpl := pairs_len h.l1 l3
  have lq := h.lq
  have hql : q.length ≤ 6 := by
    rw [lq]
    have : l.length * (l.length + 1) ≤ 3 * 4 := Nat.mul_le_mul l3 (by omega)
    omega
  obtain ⟨tops, bottom⟩ := f
  have lt : tops.length = l.length := S.len
  refine st_unp (x := (tops, bottom)) e (tg_pair 4 5 (by decide)) rfl (ev_var rfl h4) fun σ2 H2 G2 o2 a2 ⟨f1, f2⟩ => ?_
  have l2 : σ2.length = 10 := a2.1
  have g0 : At IntR 0 G2 σ2 c := ⟨v1, (a2.2 0 (by decide)).trans rfl, IntR.st o2.up h1⟩
  have g1 : At RowR 1 G2 σ2 l := ⟨v2, (a2.2 1 (by decide)).trans rfl, RowR.st o2.up h2⟩
  have g2 : At RowR 2 G2 σ2 q := ⟨v3, (a2.2 2 (by decide)).trans rfl, RowR.st o2.up h3⟩
  clear a2
  have bb := S.bb
  have bt := S.bt
  have bp : (LF.product l tops).natAbs < 2 ^ 94523 := lt_pow (LF.product_bn (n := 3) h.bl bt (by show l.length ≤ 8; omega)) (by decide)
  refine st_set (A := IntR) (x := c * LF.square bottom + LF.product l tops * bottom) o2.kn (ev_add (ev_mulW ((sm_of h.bc (by decide)).mul (sm_of (LF.bn_mul bb bb) (by decide))) g0.ev (ev_call1 f2.ev (sm_of bb (by decide))))
    (ev_mulW ((sm_of bp (by decide)).mul (sm_of bb (by decide))) (ev_call2 g1.ev f1.ev ⟨lt.symm, by omega, sms_of h.bl (by decide), sms_of bt (by decide)⟩) f2.ev)) fun u4 H4 G4 o4 r4 => ?_
  have t4 := (f1.mono o4.up).put (k := 6) (v := some u4) (by decide)
  have b4 := (f2.mono o4.up).put (k := 6) (v := some u4) (by decide)
  have x4 := (g1.mono o4.up).put (k := 6) (v := some u4) (by decide)
  have y4 := (g2.mono o4.up).put (k := 6) (v := some u4) (by decide)
  have c4 : At IntR 6 G4 (σ2.set 6 (some u4)) (c * LF.square bottom + LF.product l tops * bottom) := At.set (by omega) r4
  have l4 : (σ2.set 6 (some u4)).length = 10 := by rw [List.length_set]; exact l2
  generalize σ2.set 6 (some u4) = σ4 at t4 b4 x4 y4 c4 l4 ⊢
  refine st_fold (C := IntR) (k := 6) (acc0 := c * LF.square bottom + LF.product l tops * bottom) (fun t (e : (Nat × Nat) × Int) => t + e.2 * tops.getD e.1.1 0 * tops.getD e.1.2 0) o4.kn (src_zip (hpl.trans lq.symm) (ev_call1 (A := NatR) (x := l.length) ((ev_len x4.ev).as fun v H2 _ r => r) (by show l.length ≤ 8; omega)) y4.ev) (tg_nest 7 8 9 (by decide) (by decide) (by decide)) (by decide) (by unfold inb; rw [l4]; rfl) c4 (fun i z σ5 G5 hz e5 ag hc hn => ?_) fun σ5 H5 G5 o5 ag hc => ?_
  · have hm := List.of_mem_zip (List.mem_of_getElem? hz)
    obtain ⟨z1, z2⟩ := pairs_lt hm.1
    have by' := h.bq _ hm.2
    have t5 := (t4.mono e5).agr ag (by decide)
    have bt1 := bt.get z.1.1
    have bt2 := bt.get z.1.2
    exact ev_add hc.ev (ev_mulW ((sm_of (LF.bn_mul by' bt1) (by decide)).mul (sm_of bt2 (by decide))) (ev_mulW ((sm_of by' (by decide)).mul (sm_of bt1 (by decide))) hn.2.ev (ev_ix (n := z.1.1) rfl (get_D (by omega)) t5.ev (hn.1.1.ev.as fun v H2 _ r => r))) (ev_ix (n := z.1.2) rfl (get_D (by omega)) t5.ev (hn.1.2.ev.as fun v H2 _ r => r)))
  · exact st_ret o5.kn (ev_call2 hc.ev (ev_call1 ((b4.mono o5.up).agr ag (by decide)).ev (sm_of bb (by decide))) (Int.mul_ne_zero S.ne S.ne)) fun u H6 G6 o6 ru => k u H6 G6 (((o2.trans o4).trans o5).trans o6) ru
end
end LW

set_option linter.all false
set_option Elab.async false
set_option maxRecDepth 100000
set_option maxHeartbeats 4000000
namespace LW
open PySem PySem.Spec PyProof.Rows L2
open Evl (Ex)
section
variable {P : Program} {w : World} {K : PySem.W.Frag} {mg : Str → Option Value} {base : Heap} {a : Ad}
/-! ## what a good model's numbers are -/
theorem bn10 {z : Int} (h : -1000 ≤ z ∧ z ≤ 1000) : z.natAbs < 2 ^ 10 := by
  show z.natAbs < 1024
  omega
theorem bn20 {z : Int} (h : -1000000 ≤ z ∧ z ≤ 1000000) : z.natAbs < 2 ^ 20 := by
  show z.natAbs < 1048576
  omega
theorem good_ents {m : Kxd4.Model} (g : LF.Good m) : Ents m.columns (LF.ents m) where
  len := g.elen
  bn := fun r hr z hz => by
    obtain ⟨o, ho, rfl⟩ := List.mem_map.mp hr
    exact bn10 (g.ent o ho z hz)
  few := by unfold LF.ents; rw [List.length_map]; exact Nat.le_trans g.n24 (by decide)
  m8 := g.c8
theorem good_resps {m : Kxd4.Model} (g : LF.Good m) : LF.Bn 20 (LF.resps m) := fun z hz => by
  obtain ⟨o, ho, rfl⟩ := List.mem_map.mp hz
  exact bn20 (g.resp o ho)
theorem good_at {m : Kxd4.Model} (g : LF.Good m) {ps : List Nat} (h : ps.length ≤ 8) : Ents ps.length (LF.entsAt m ps) where
  len := LF.entsAt_len m ps
  bn := fun r hr z hz => by
    obtain ⟨o, ho, rfl⟩ := List.mem_map.mp hr
    obtain ⟨p, _, rfl⟩ := List.mem_map.mp hz
    have hb : LF.Bn 10 o.row := fun z hz => bn10 (g.ent o ho z hz)
    exact hb.get p
  few := by unfold LF.entsAt; rw [List.length_map]; exact Nat.le_trans g.n24 (by decide)
  m8 := h
theorem at_len {m : Kxd4.Model} {ps : List Nat} : (LF.resps m).length = (LF.entsAt m ps).length := by unfold LF.resps LF.entsAt; rw [List.length_map, List.length_map]
theorem Ents.tab {many : Nat} {rows : List (List Int)} (E : Ents many rows) : Tab 10 many 32 rows := ⟨E.bn, E.len, E.few, by decide, Nat.le_trans E.m8 (by decide), by decide⟩
theorem good_le {m : Kxd4.Model} (g : LF.Good m) : ∀ i, i < m.columns → m.terms.getD i 0 ≤ i
  | 0, h => by
    have := g.t0
    rw [List.getD_eq_getElem?_getD] at this ⊢
    cases q : m.terms[0]? with
    | none => exact Nat.le_refl _
    | some x => rw [q] at this; show x ≤ 0; have : x = 0 := this; omega
  | i + 1, h => by
    have := good_le g i (by omega)
    rcases g.ts i h with e | e <;> omega
theorem good_ne {m : Kxd4.Model} (g : LF.Good m) : m.terms ≠ [] := fun z => by
  have h1 := g.tl
  have h2 := g.c1
  rw [z] at h1
  have : 0 = m.columns := h1
  omega
theorem good_count {m : Kxd4.Model} (g : LF.Good m) : LF.termCountN m ≤ 8 := by
  unfold LF.termCountN
  have h1 := g.tl
  have h2 := g.c1
  have h8 := g.c8
  have h3 := good_le g (m.columns - 1) (by omega)
  rw [List.getLastD_eq_getLast?, List.getLast?_eq_getElem?, h1]
  rw [List.getD_eq_getElem?_getD] at h3
  omega
/-- a vector that a model takes -/
structure Vec (m : Kxd4.Model) (v : List Int) : Prop where
  len : v.length = m.columns
  bn : LF.Bn 10 v
theorem vec_of {m : Kxd4.Model} {v : List Int} (h : Kxd4.isRow m v = true) : Vec m v := by
  unfold Kxd4.isRow at h
  rw [Bool.and_eq_true, beq_iff_eq, List.all_eq_true] at h
  refine ⟨h.1, fun z hz => ?_⟩
  have := h.2 z hz
  rw [Bool.and_eq_true, decide_eq_true_eq, decide_eq_true_eq] at this
  have e1 : Kxd4.maxEntry = 1000 := rfl
  rw [e1] at this
  exact bn10 ⟨by omega, this.2⟩
theorem vec_row {m : Kxd4.Model} (g : LF.Good m) {o : Kxd4.Observation} (ho : o ∈ m.data) : Vec m o.row := ⟨g.row o ho, fun z hz => bn10 (g.ent o ho z hz)⟩
theorem good_sol {m : Kxd4.Model} (g : LF.Good m) : LF.bestFit (LF.ents m) (LF.resps m) m.columns = some (LF.solP m) ∧ Sol m.columns (LF.solP m) := by
  obtain ⟨tops, bottom, h1, h2⟩ := g.sol
  rw [h2]
  exact ⟨h1, (good_ents g).best (good_resps g) h1⟩
theorem good_res {m : Kxd4.Model} (g : LF.Good m) : FrB 189033 168000 (LF.residM m) := (good_ents g).resid (good_resps g)
theorem good_free {m : Kxd4.Model} (g : LF.Good m) : (LF.freedomM m).natAbs < 2 ^ 5 := by
  have h1 := g.rank_le
  have h2 := g.n24
  unfold LF.freedomM
  show _ < 32
  omega
theorem good_d {m : Kxd4.Model} (g : LF.Good m) : m.data.length ≤ 100000 := Nat.le_trans g.n24 (by decide)
theorem sc_rank : FnScope ["model"] ["model"] (defScope (top 67)) := ⟨rfl, rfl, rfl, by decide +kernel, rfl, by decide +kernel, by decide +kernel⟩
theorem kn_rank (T : Wd P w K mg base a) : Kn P w K mg base 45 "rank" (FnS NatR (Pre1 (ModelR K a) LF.Good LF.rankM)) := by
  refine T.d_rank.kn sc_rank (fun _ _ _ _ _ _ us hl => match us, hl with | [_], _ => rfl) (fun G vs y ⟨v, _, h, _⟩ => by rw [h]; rfl) fun cdv f A outer s H E hr => ⟨_, (pss_one (ps_ret (pe_kn (kn_rank_of T) (hr.mono (by decide)) rfl (pa_cons (pe_kn (kn_entries_of T) (hr.mono (by decide)) rfl (pa_cons (pv 0) pa_nil)) (pa_cons (pe_fldK (K := K) rfl (pv 0) rfl) pa_nil))))), fun vs G y D e h k => ?_⟩
  obtain ⟨v, m, rfl, hm, g, rfl⟩ := h
  exact st_ret e (ev_call2 (B := NatR) (y := m.columns) (ev_call1 (ev_var rfl hm) (good_d g)) ((ev_many T (ev_var rfl hm)).as fun v H2 _ r => r) ⟨10, m.columns, 32, (good_ents g).tab, g.c8, Nat.le_refl _⟩) k
theorem sc_freedom : FnScope ["model"] ["model"] (defScope (top 68)) := ⟨rfl, rfl, rfl, by decide +kernel, rfl, by decide +kernel, by decide +kernel⟩
theorem kn_freedom (T : Wd P w K mg base a) : Kn P w K mg base 46 "freedom" (FnS IntR (Pre1 (ModelR K a) LF.Good LF.freedomM)) := by
  refine T.d_freedom.kn sc_freedom (fun _ _ _ _ _ _ us hl => match us, hl with | [_], _ => rfl) (fun G vs y ⟨v, _, h, _⟩ => by rw [h]; rfl) fun cdv f A outer s H E hr => ⟨_, (pss_one (ps_ret (pe_op op_sub (pe_callB (cr_lenK (K := K) rfl) rfl T.b_len PySem.boot_len (pa_cons (pe_fldK (K := K) rfl (pv 0) rfl) pa_nil)) (pe_kn (kn_rank T) (hr.mono (by decide)) rfl (pa_cons (pv 0) pa_nil))))), fun vs G y D e h k => ?_⟩
  obtain ⟨v, m, rfl, hm, g, rfl⟩ := h
  refine st_ret e ((ev_sub (ev_len (ev_rows T (ev_var rfl hm))) ((ev_call1 (ev_var rfl hm) g).as (B := IntR) (y := (LF.rankM m : Int)) fun v H2 _ r => r)).to ?_) k
  rw [List.length_map]
  rfl
theorem sc_solution : FnScope ["model"] ["model"] (defScope (top 69)) := ⟨rfl, rfl, rfl, by decide +kernel, rfl, by decide +kernel, by decide +kernel⟩
theorem kn_solution (T : Wd P w K mg base a) : Kn P w K mg base 48 "solution" (FnS (PairR K RowR IntR) (Pre1 (ModelR K a) LF.Good LF.solP)) := by
  refine T.d_solution.kn sc_solution (fun _ _ _ _ _ _ us hl => match us, hl with | [_], _ => rfl) (fun G vs y ⟨v, _, h, _⟩ => by rw [h]; rfl) fun cdv f A outer s H E hr => ⟨_, (pss_one (ps_ret (pe_kn (kn_best_fit T) (hr.mono (by decide)) rfl (pa_cons (pe_kn (kn_entries_of T) (hr.mono (by decide)) rfl (pa_cons (pv 0) pa_nil)) (pa_cons (pe_kn (kn_responses_of T) (hr.mono (by decide)) rfl (pa_cons (pv 0) pa_nil)) (pa_cons (pe_fldK (K := K) rfl (pv 0) rfl) pa_nil)))))), fun vs G y D e h k => ?_⟩
  obtain ⟨v, m, rfl, hm, g, rfl⟩ := h
  exact st_ret e ((ev_call3 (C := NatR) (z := m.columns) (ev_call1 (ev_var rfl hm) (good_d g)) (ev_call1 (ev_var rfl hm) (good_d g)) ((ev_many T (ev_var rfl hm)).as fun v H2 _ r => r) ⟨good_ents g, LF.resps_len, good_resps g⟩).as (B := PairR K RowR IntR) (y := LF.solP m) fun v H2 _ r => by
    rw [(good_sol g).1] at r
    exact r.2) k
theorem sc_estimate_of : FnScope ["model", "vector"] ["model", "vector"] (defScope (top 70)) := ⟨rfl, rfl, rfl, by decide +kernel, rfl, by decide +kernel, by decide +kernel⟩
theorem kn_estimate_of (T : Wd P w K mg base a) : Kn P w K mg base 49 "estimate_of" (FnS (PrR K) (Pre2 (ModelR K a) RowR (fun m v => LF.Good m ∧ Vec m v) LF.estimateM)) := by
  refine T.d_estimate_of.kn sc_estimate_of (fun _ _ _ _ _ _ us hl => match us, hl with | [_, _], _ => rfl) (fun G vs y ⟨v, w, _, _, h, _⟩ => by rw [h]; rfl) fun cdv f A outer s H E hr => ⟨_, (pss_one (ps_ret (pe_kn (kn_weighed T) (hr.mono (by decide)) rfl (pa_cons (pv 1) (pa_cons (pe_kn (kn_solution T) (hr.mono (by decide)) rfl (pa_cons (pv 0) pa_nil)) pa_nil))))), fun vs G y D e h k => ?_⟩
  obtain ⟨v1, v2, m, v, rfl, hm, hv, ⟨g, V⟩, rfl⟩ := h
  exact st_ret e (ev_call2 (ev_var rfl hv) (ev_call1 (ev_var rfl hm) g) ⟨m.columns, (good_sol g).2, V.len, V.bn⟩) k
theorem est_frb {m : Kxd4.Model} {v : List Int} (g : LF.Good m) (V : Vec m v) : FrB 94513 84000 (LF.estimateM m v) := (good_sol g).2.weighed V.len V.bn
theorem bn35 {v : List Int} (h : LF.Bn 10 v) : LF.Bn 35 v := h.mono (by decide)
theorem fac_frb {m : Kxd4.Model} {u v : List Int} {f : Int × Int} (g : LF.Good m) (U : Vec m u) (V : Vec m v) (h : LF.factorM m u v = some f) : FrB 94513 84000 f := by
  unfold LF.factorM at h
  obtain ⟨s, hs, rfl⟩ := Option.map_eq_some_iff.mp h
  exact ((good_ents g).solved V.len (bn35 V.bn) hs).weighed U.len U.bn
theorem sc_factor_of : FnScope ["model", "first", "second", "found"] ["model", "first", "second"] (defScope (top 71)) := ⟨rfl, rfl, rfl, by decide +kernel, rfl, by decide +kernel, by decide +kernel⟩
theorem kn_factor_of (T : Wd P w K mg base a) : Kn P w K mg base 47 "factor_of" (FnS (OptR (PrR K)) (Pre3 (ModelR K a) RowR RowR (fun m u v => LF.Good m ∧ Vec m u ∧ Vec m v) LF.factorM)) := by
  refine T.d_factor_of.kn sc_factor_of (fun _ _ _ _ _ _ us hl => match us, hl with | [_, _, _], _ => rfl) (fun G vs y ⟨_, _, _, _, _, _, h, _⟩ => by rw [h]; rfl) fun cdv f A outer s H E hr => ⟨_, (pss_cons (ps_set (i := 3) sc_factor_of.nd rfl (Or.inl rfl) (pe_kn (kn_solved_for T) (hr.mono (by decide)) rfl (pa_cons (pe_kn (kn_entries_of T) (hr.mono (by decide)) rfl (pa_cons (pv 0) pa_nil)) (pa_cons (pe_fldK (K := K) rfl (pv 0) rfl) (pa_cons (pv 2) pa_nil))))) (pss_one (ps_ret (pe_ifExp (pt_cmpR op_isNone (pv 3) pe_non (nomark _)) pe_non (pe_kn (kn_weighed T) (hr.mono (by decide)) rfl (pa_cons (pv 1) (pa_cons (pv 3) pa_nil))))))), fun vs G y D e h k => ?_⟩
  obtain ⟨v1, v2, v3, m, u, v, rfl, hm, hu, hv, ⟨g, U, V⟩, rfl⟩ := h
  refine st_set (A := SolR K) (x := LF.solvedFor (LF.ents m) m.columns v) e (ev_call3 (B := NatR) (y := m.columns) (ev_call1 (ev_var rfl hm) (good_d g)) ((ev_many T (ev_var rfl hm)).as fun v H2 _ r => r) (ev_var rfl hv) ⟨good_ents g, V.len, bn35 V.bn⟩) fun u1 H1 G1 o1 r1 => ?_
  refine st_ret (A := OptR (PrR K)) (x := LF.factorM m u v) o1.kn (ev_if (et_test (ev_isN (ev_var rfl r1))) (fun hb => ?_) fun hb => ?_) fun u2 H2 G2 o2 ru => k u2 H2 G2 (o1.trans o2) ru
  · have e1 : LF.factorM m u v = none := by
      unfold LF.factorM
      rw [Option.isNone_iff_eq_none.mp hb]
      rfl
    rw [e1]
    exact ev_none
  · obtain ⟨s, hs⟩ : ∃ s, LF.solvedFor (LF.ents m) m.columns v = some s := by
      cases q : LF.solvedFor (LF.ents m) m.columns v with
      | none => rw [q] at hb; cases hb
      | some s => exact ⟨s, rfl⟩
    have e1 : LF.factorM m u v = some (LF.weighed u s) := by
      unfold LF.factorM
      rw [hs]
      rfl
    rw [e1]
    rw [hs] at r1
    exact ev_someP (ev_call2 (ev_var rfl (RowR.st o1.up hu)) (ev_var (A := PairR K RowR IntR) rfl r1.2) ⟨m.columns, (good_ents g).solved V.len (bn35 V.bn) hs, U.len, U.bn⟩)
theorem sc_is_estimable : FnScope ["model", "vector"] ["model", "vector"] (defScope (top 72)) := ⟨rfl, rfl, rfl, by decide +kernel, rfl, by decide +kernel, by decide +kernel⟩
theorem kn_is_estimable (T : Wd P w K mg base a) : Kn P w K mg base 47 "is_estimable" (FnS BoolR (Pre2 (ModelR K a) RowR (fun m v => LF.Good m ∧ Vec m v) LF.estimableM)) := by
  refine T.d_is_estimable.kn sc_is_estimable (fun _ _ _ _ _ _ us hl => match us, hl with | [_, _], _ => rfl) (fun G vs y ⟨v, w, _, _, h, _⟩ => by rw [h]; rfl) fun cdv f A outer s H E hr => ⟨_, (pss_one (ps_ret (pe_cmpR op_notNone (pe_kn (kn_solved_for T) (hr.mono (by decide)) rfl (pa_cons (pe_kn (kn_entries_of T) (hr.mono (by decide)) rfl (pa_cons (pv 0) pa_nil)) (pa_cons (pe_fldK (K := K) rfl (pv 0) rfl) (pa_cons (pv 1) pa_nil)))) pe_non (nomark _)))), fun vs G y D e h k => ?_⟩
  obtain ⟨v1, v2, m, v, rfl, hm, hv, ⟨g, V⟩, rfl⟩ := h
  exact st_ret e (ev_notN (A := PairR K RowR IntR) (ev_call3 (B := NatR) (y := m.columns) (ev_call1 (ev_var rfl hm) (good_d g)) ((ev_many T (ev_var rfl hm)).as fun v H2 _ r => r) (ev_var rfl hv) ⟨good_ents g, V.len, bn35 V.bn⟩)) k
theorem sc_residual_sum : FnScope ["model"] ["model"] (defScope (top 73)) := ⟨rfl, rfl, rfl, by decide +kernel, rfl, by decide +kernel, by decide +kernel⟩
theorem kn_residual_sum (T : Wd P w K mg base a) : Kn P w K mg base 49 "residual_sum" (FnS (PrR K) (Pre1 (ModelR K a) LF.Good LF.residM)) := by
  refine T.d_residual_sum.kn sc_residual_sum (fun _ _ _ _ _ _ us hl => match us, hl with | [_], _ => rfl) (fun G vs y ⟨v, _, h, _⟩ => by rw [h]; rfl) fun cdv f A outer s H E hr => ⟨_, (pss_one (ps_ret (pe_kn (kn_residual_sum_of T) (hr.mono (by decide)) rfl (pa_cons (pe_kn (kn_entries_of T) (hr.mono (by decide)) rfl (pa_cons (pv 0) pa_nil)) (pa_cons (pe_kn (kn_responses_of T) (hr.mono (by decide)) rfl (pa_cons (pv 0) pa_nil)) (pa_cons (pe_fldK (K := K) rfl (pv 0) rfl) pa_nil)))))), fun vs G y D e h k => ?_⟩
  obtain ⟨v, m, rfl, hm, g, rfl⟩ := h
  exact st_ret e (ev_call3 (C := NatR) (z := m.columns) (ev_call1 (ev_var rfl hm) (good_d g)) (ev_call1 (ev_var rfl hm) (good_d g)) ((ev_many T (ev_var rfl hm)).as fun v H2 _ r => r) ⟨good_ents g, LF.resps_len, good_resps g⟩) k
theorem var_frb {m : Kxd4.Model} (g : LF.Good m) (h : LF.freedomM m ≠ 0) : FrB 189033 168005 (LF.varianceM m) :=
  ratio_frb (good_res g).up (lt_pow (LF.bn_mul (good_res g).dn (good_free g)) (by decide)) (Int.mul_ne_zero (good_res g).ne h)
theorem sc_variance_of : FnScope ["model", "top", "bottom"] ["model"] (defScope (top 74)) := ⟨rfl, rfl, rfl, by decide +kernel, rfl, by decide +kernel, by decide +kernel⟩
theorem kn_variance_of (T : Wd P w K mg base a) : Kn P w K mg base 50 "variance_of" (FnS (PrR K) (Pre1 (ModelR K a) (fun m => LF.Good m ∧ LF.freedomM m ≠ 0) LF.varianceM)) := by
  refine T.d_variance_of.kn sc_variance_of (fun _ _ _ _ _ _ us hl => match us, hl with | [_], _ => rfl) (fun G vs y ⟨v, _, h, _⟩ => by rw [h]; rfl) fun cdv f A outer s H E hr => ⟨_, (pss_cons (ps_asg (pe_kn (kn_residual_sum T) (hr.mono (by decide)) rfl (pa_cons (pv 0) pa_nil)) (pg_tupK (K := K) (n := 2) rfl rfl (pgs_cons (pg_name (i := 1) sc_variance_of.nd rfl (Or.inl rfl)) (pgs_cons (pg_name (i := 2) sc_variance_of.nd rfl (Or.inl rfl)) pgs_nil)))) (pss_one (ps_ret (pe_kn (kn_ratio T) (hr.mono (by decide)) rfl (pa_cons (pv 1) (pa_cons (pe_op op_mulW (pv 2) (pe_kn (kn_freedom T) (hr.mono (by decide)) rfl (pa_cons (pv 0) pa_nil))) pa_nil)))))), fun vs G y D e h k => ?_⟩
  obtain ⟨v, m, rfl, hm, ⟨g, h0⟩, rfl⟩ := h
  refine st_unp (A := PrR K) (x := LF.residM m) e (tg_pair 1 2 (by decide)) rfl (ev_call1 (ev_var rfl hm) g) fun σ2 H2 G2 o2 a2 ⟨f1, f2⟩ => ?_
  have hm2 : EV (tVar 0) σ2 G2 (ModelR K a) m := ev_var ((a2.2 0 (by decide)).trans rfl) ((ModelR K a).st o2.up hm)
  exact st_ret o2.kn (ev_call2 f1.ev (ev_mulW ((sm_of (good_res g).dn (by decide)).mul (sm_of (good_free g) (by decide))) f2.ev (ev_call1 hm2 g)) (Int.mul_ne_zero (good_res g).ne h0)) fun u H3 G3 o3 ru => k u H3 G3 (o2.trans o3) ru
abbrev LookR (K : PySem.W.Frag) := PairR K IntR (PrR K)
/-- places of a model -/
structure Places (m : Kxd4.Model) (ps : List Nat) : Prop where
  l8 : ps.length ≤ 8
  lt : ∀ p ∈ ps, p < m.columns
theorem look_frb {m : Kxd4.Model} {ps : List Nat} (g : LF.Good m) (h : Places m ps) : FrB 189033 168000 (LF.lookedM m ps).2 := (good_at g h.l8).resid (good_resps g)
theorem places_below_ok {m : Kxd4.Model} (g : LF.Good m) (t : Nat) : Places m (LF.placesBelow m t) := by
  refine ⟨?_, fun p hp => List.mem_range.mp (List.mem_filter.mp hp).1⟩
  have := List.length_filter_le (fun p => decide (m.terms.getD p 0 < t)) (List.range m.columns)
  rw [List.length_range] at this
  have h8 := g.c8
  unfold LF.placesBelow
  omega
theorem places_beside_ok {m : Kxd4.Model} (g : LF.Good m) (t : Nat) : Places m (LF.placesBeside m t) := by
  refine ⟨?_, fun p hp => List.mem_range.mp (List.mem_filter.mp hp).1⟩
  have := List.length_filter_le (fun p => decide (m.terms.getD p 0 ≠ t)) (List.range m.columns)
  rw [List.length_range] at this
  have h8 := g.c8
  unfold LF.placesBeside
  omega
theorem sc_looked_at : FnScope ["model", "places", "entries", "many"] ["model", "places"] (defScope (top 75)) := ⟨rfl, rfl, rfl, by decide +kernel, rfl, by decide +kernel, by decide +kernel⟩
theorem kn_looked_at (T : Wd P w K mg base a) : Kn P w K mg base 49 "looked_at" (FnS (LookR K) (Pre2 (ModelR K a) (ListR NatR) (fun m ps => LF.Good m ∧ Places m ps) LF.lookedM)) := by
  refine T.d_looked_at.kn sc_looked_at (fun _ _ _ _ _ _ us hl => match us, hl with | [_, _], _ => rfl) (fun G vs y ⟨v, w, _, _, h, _⟩ => by rw [h]; rfl) fun cdv f A outer s H E hr => ⟨_, (pss_cons (ps_set (i := 2) sc_looked_at.nd rfl (Or.inl rfl) (pe_kn (kn_entries_at T) (hr.mono (by decide)) rfl (pa_cons (pv 0) (pa_cons (pv 1) pa_nil)))) (pss_cons (ps_set (i := 3) sc_looked_at.nd rfl (Or.inl rfl) (pe_callB (cr_lenK (K := K) rfl) rfl T.b_len PySem.boot_len (pa_cons (pv 1) pa_nil))) (pss_one (ps_ret (pe_tup (pa_cons (pe_kn (kn_rank_of T) (hr.mono (by decide)) rfl (pa_cons (pv 2) (pa_cons (pv 3) pa_nil))) (pa_cons (pe_kn (kn_residual_sum_of T) (hr.mono (by decide)) rfl (pa_cons (pv 2) (pa_cons (pe_kn (kn_responses_of T) (hr.mono (by decide)) rfl (pa_cons (pv 0) pa_nil)) (pa_cons (pv 3) pa_nil)))) pa_nil))))))), fun vs G y D e h k => ?_⟩
  obtain ⟨v1, v2, m, ps, rfl, hm, hp, ⟨g, p⟩, rfl⟩ := h
  have l8 := p.l8
  refine st_set (A := TabR) (x := LF.entsAt m ps) e (ev_call2 (ev_var rfl hm) (ev_var rfl hp) ⟨good_d g, by omega, fun o ho q hq => by rw [g.row o ho]; exact p.lt q hq⟩) fun u1 H1 G1 o1 r1 => ?_
  refine st_set (A := NatR) (x := ps.length) o1.kn ((ev_len (ev_var rfl ((ListR NatR).st o1.up hp))).as fun v H2 _ r => r) fun u2 H2 G2 o2 r2 => ?_
  have E := good_at g l8
  exact st_ret o2.kn (ev_pair ((ev_call2 (ev_var rfl (TabR.st o2.up r1)) (ev_var rfl r2) ⟨10, ps.length, 32, E.tab, l8, Nat.le_refl _⟩).as (B := IntR) (y := (LF.rankOf (LF.entsAt m ps) ps.length : Int)) fun v H2 _ r => r)
    (ev_call3 (ev_var rfl (TabR.st o2.up r1)) (ev_call1 (ev_var rfl ((ModelR K a).st (o1.up.trans o2.up) hm)) (good_d g)) (ev_var rfl r2) ⟨E, at_len, good_resps g⟩)) fun u H3 G3 o3 ru => k u H3 G3 ((o1.trans o2).trans o3) ru
theorem sc_told_between : FnScope ["fewer", "more"] ["fewer", "more"] (defScope (top 76)) := ⟨rfl, rfl, rfl, by decide +kernel, rfl, by decide +kernel, by decide +kernel⟩
theorem kn_told_between (T : Wd P w K mg base a) : Kn P w K mg base 44 "told_between" (FnS (LookR K) (Pre2 (LookR K) (LookR K) (fun x y => Fr x.2 ∧ Fr y.2) LF.toldBetween)) := by
  refine T.d_told_between.kn sc_told_between (fun _ _ _ _ _ _ us hl => match us, hl with | [_, _], _ => rfl) (fun G vs y ⟨v, w, _, _, h, _⟩ => by rw [h]; rfl) fun cdv f A outer s H E hr => ⟨_, (pss_one (ps_ret (pe_tup (pa_cons (pe_op op_sub (pe_ix (ix_tupK (K := K) rfl) (pv 1) pe_int (fun _ _ => rfl)) (pe_ix (ix_tupK (K := K) rfl) (pv 0) pe_int (fun _ _ => rfl))) (pa_cons (pe_kn (kn_minus T) (hr.mono (by decide)) rfl (pa_cons (pe_ix (ix_tupK (K := K) rfl) (pv 0) pe_int (fun _ _ => rfl)) (pa_cons (pe_ix (ix_tupK (K := K) rfl) (pv 1) pe_int (fun _ _ => rfl)) pa_nil))) pa_nil))))), fun vs G y D e h k => ?_⟩
  obtain ⟨v1, v2, x, z, rfl, hx, hz, ⟨f1, f2⟩, rfl⟩ := h
  exact st_ret e (ev_pair (ev_sub (ev_fst (ev_var rfl hz)) (ev_fst (ev_var rfl hx))) (ev_call2 (ev_snd (ev_var rfl hx)) (ev_snd (ev_var rfl hz)) ⟨f1, f2⟩)) k
theorem frres {p : Int × Int} (h : FrB 189033 168000 p) : Fr p := h.fr (by decide) (by decide)
theorem sc_sequential_of : FnScope ["model", "many", "looks", "term"] ["model"] (defScope (top 77)) := ⟨rfl, rfl, rfl, by decide +kernel, rfl, by decide +kernel, by decide +kernel⟩
theorem kn_sequential_of (T : Wd P w K mg base a) : Kn P w K mg base 50 "sequential_of" (FnS (ListR (LookR K)) (Pre1 (ModelR K a) LF.Good LF.sequentialM)) := by
  refine T.d_sequential_of.kn sc_sequential_of (fun _ _ _ _ _ _ us hl => match us, hl with | [_], _ => rfl) (fun G vs y ⟨v, _, h, _⟩ => by rw [h]; rfl) fun cdv f A outer s H E hr => ⟨_, (pss_cons (ps_set (i := 1) sc_sequential_of.nd rfl (Or.inl rfl) (pe_kn (kn_term_count T) (hr.mono (by decide)) rfl (pa_cons (pv 0) pa_nil))) (pss_cons (ps_set (i := 2) sc_sequential_of.nd rfl (Or.inr rfl) (pe_lc (own := [("term", 3)]) rfl sc_sequential_of.nd (pi_range1 rfl T.b_range (pa_cons (pe_op op_add (pv 1) pe_int) pa_nil)) (blkOk_by (N := ["model", "many", "looks", "term"]) (sc := (defScope (top 77))) (by decide +kernel)) (fun _ _ _ _ _ => (pg_name (i := 3) sc_sequential_of.nd rfl (Or.inl rfl))) (fun _ _ _ _ _ => pts_nil) (fun _ _ _ _ _ => (pe_kn (kn_looked_at T) (hr.mono (by decide)) rfl (pa_cons (pv 0) (pa_cons (pe_kn (kn_places_below T) (hr.mono (by decide)) rfl (pa_cons (pv 0) (pa_cons (pv 3) pa_nil))) pa_nil)))))) (pss_one (ps_ret (pe_lc (own := [("term", 3)]) rfl sc_sequential_of.nd (pi_range1 rfl T.b_range (pa_cons (pv 1) pa_nil)) (blkOk_by (N := ["model", "many", "looks", "term"]) (sc := (defScope (top 77))) (by decide +kernel)) (fun _ _ _ _ _ => (pg_name (i := 3) sc_sequential_of.nd rfl (Or.inl rfl))) (fun _ _ _ _ _ => pts_nil) (fun _ _ _ _ _ => (pe_kn (kn_told_between T) (hr.mono (by decide)) rfl (pa_cons (pe_ix (ix_listK (K := K) rfl) (pv 2) (pv 3) (fun _ _ => rfl)) (pa_cons (pe_ix (ix_listK (K := K) rfl) (pv 2) (pe_op op_add (pv 3) pe_int) (fun _ _ => rfl)) pa_nil))))))))), fun vs G y D e h k => ?_⟩
  obtain ⟨v, m, rfl, hm, g, rfl⟩ := h
  have tc := good_count g
  refine st_set (A := IntR) (x := ((LF.termCountN m : Nat) : Int)) e (ev_call1 (ev_var rfl hm) (good_ne g)) fun u1 H1 G1 o1 r1 => ?_
  have hm1 := (ModelR K a).st o1.up hm
  refine st_set (A := ListR (LookR K)) (x := (List.range (LF.termCountN m + 1)).map fun t => LF.lookedM m (LF.placesBelow m t)) o1.kn (ev_lc (B := LookR K) (fun t => LF.lookedM m (LF.placesBelow m t)) (src_rng1 (k := LF.termCountN m + 1) rfl (by omega) (ev_add (ev_var rfl r1) ev_int)) (tg_name 3) rfl (by rw [List.length_range]; omega) fun i t G2 σ2 hi e2 ag ht => ?_) fun u2 H2 G2 o2 r2 => ?_
  · have hm2 : EV (tVar 0) σ2 G2 (ModelR K a) m := ev_var ((ag.2 0 (by decide)).trans rfl) ((ModelR K a).st e2 hm1)
    exact ev_call2 hm2 (ev_call2 hm2 ht.ev ⟨g.c8, g.tl⟩) ⟨g, places_below_ok g t⟩
  · refine st_ret o2.kn (ev_lc (B := LookR K) (fun t => LF.toldBetween (LF.lookedM m (LF.placesBelow m t)) (LF.lookedM m (LF.placesBelow m (t + 1)))) (src_rng1 (k := LF.termCountN m) rfl (by omega) (ev_var rfl (IntR.st o2.up r1))) (tg_name 3) rfl (by rw [List.length_range]; omega) fun i t G3 σ3 hi e3 ag ht => ?_) fun u H4 G4 o4 ru => k u H4 G4 ((o1.trans o2).trans o4) ru
    have htn : t < LF.termCountN m := List.mem_range.mp (List.mem_of_getElem? hi)
    have hl : EV (tVar 2) σ3 G3 (ListR (LookR K)) ((List.range (LF.termCountN m + 1)).map fun t => LF.lookedM m (LF.placesBelow m t)) := ev_var ((ag.2 2 (by decide)).trans rfl) ((ListR (LookR K)).st e3 r2)
    have ht1 : EV (tVar 3) σ3 G3 IntR (t : Int) := ht.ev.as fun v H2 _ r => r
    have at_ : ∀ j, j < LF.termCountN m + 1 → ((List.range (LF.termCountN m + 1)).map fun t => LF.lookedM m (LF.placesBelow m t))[j]? = some (LF.lookedM m (LF.placesBelow m j)) := fun j hj => by
      rw [List.getElem?_map, List.getElem?_range hj]
      rfl
    exact ev_call2 (ev_ix (n := t) rfl (at_ t (by omega)) hl ht1) (ev_ix (n := t + 1) (by omega) (at_ (t + 1) (by omega)) hl (ev_add ht1 ev_int)) ⟨frres (look_frb g (places_below_ok g _)), frres (look_frb g (places_below_ok g _))⟩
theorem sc_marginal_at : FnScope ["model", "term", "fewer"] ["model", "term"] (defScope (top 78)) := ⟨rfl, rfl, rfl, by decide +kernel, rfl, by decide +kernel, by decide +kernel⟩
theorem kn_marginal_at (T : Wd P w K mg base a) : Kn P w K mg base 50 "marginal_at" (FnS (LookR K) (Pre2 (ModelR K a) NatR (fun m _ => LF.Good m) LF.marginalAt)) := by
  refine T.d_marginal_at.kn sc_marginal_at (fun _ _ _ _ _ _ us hl => match us, hl with | [_, _], _ => rfl) (fun G vs y ⟨v, w, _, _, h, _⟩ => by rw [h]; rfl) fun cdv f A outer s H E hr => ⟨_, (pss_cons (ps_set (i := 2) sc_marginal_at.nd rfl (Or.inl rfl) (pe_kn (kn_looked_at T) (hr.mono (by decide)) rfl (pa_cons (pv 0) (pa_cons (pe_kn (kn_places_beside T) (hr.mono (by decide)) rfl (pa_cons (pv 0) (pa_cons (pv 1) pa_nil))) pa_nil)))) (pss_one (ps_ret (pe_kn (kn_told_between T) (hr.mono (by decide)) rfl (pa_cons (pv 2) (pa_cons (pe_tup (pa_cons (pe_kn (kn_rank T) (hr.mono (by decide)) rfl (pa_cons (pv 0) pa_nil)) (pa_cons (pe_kn (kn_residual_sum T) (hr.mono (by decide)) rfl (pa_cons (pv 0) pa_nil)) pa_nil))) pa_nil)))))), fun vs G y D e h k => ?_⟩
  obtain ⟨v1, v2, m, t, rfl, hm, ht, g, rfl⟩ := h
  refine st_set (A := LookR K) (x := LF.lookedM m (LF.placesBeside m t)) e (ev_call2 (ev_var rfl hm) (ev_call2 (ev_var rfl hm) (ev_var rfl ht) ⟨g.c8, g.tl⟩) ⟨g, places_beside_ok g t⟩) fun u1 H1 G1 o1 r1 => ?_
  have hm1 := (ModelR K a).st o1.up hm
  exact st_ret o1.kn (ev_call2 (y := ((LF.rankM m : Int), LF.residM m)) (ev_var rfl r1) (ev_pair ((ev_call1 (ev_var rfl hm1) g).as (B := IntR) (y := (LF.rankM m : Int)) fun v H2 _ r => r) (ev_call1 (ev_var rfl hm1) g)) ⟨frres (look_frb g (places_beside_ok g _)), frres (good_res g)⟩) fun u H4 G4 o4 ru => k u H4 G4 (o1.trans o4) ru
theorem sc_marginal_of : FnScope ["model", "whole", "term"] ["model"] (defScope (top 79)) := ⟨rfl, rfl, rfl, by decide +kernel, rfl, by decide +kernel, by decide +kernel⟩
theorem kn_marginal_of (T : Wd P w K mg base a) : Kn P w K mg base 50 "marginal_of" (FnS (ListR (LookR K)) (Pre1 (ModelR K a) LF.Good LF.marginalM)) := by
  refine T.d_marginal_of.kn sc_marginal_of (fun _ _ _ _ _ _ us hl => match us, hl with | [_], _ => rfl) (fun G vs y ⟨v, _, h, _⟩ => by rw [h]; rfl) fun cdv f A outer s H E hr => ⟨_, (pss_cons (ps_set (i := 1) sc_marginal_of.nd rfl (Or.inr rfl) (pe_tup (pa_cons (pe_kn (kn_rank T) (hr.mono (by decide)) rfl (pa_cons (pv 0) pa_nil)) (pa_cons (pe_kn (kn_residual_sum T) (hr.mono (by decide)) rfl (pa_cons (pv 0) pa_nil)) pa_nil)))) (pss_one (ps_ret (pe_lc (own := [("term", 2)]) rfl sc_marginal_of.nd (pi_range1 rfl T.b_range (pa_cons (pe_kn (kn_term_count T) (hr.mono (by decide)) rfl (pa_cons (pv 0) pa_nil)) pa_nil)) (blkOk_by (N := ["model", "whole", "term"]) (sc := (defScope (top 79))) (by decide +kernel)) (fun _ _ _ _ _ => (pg_name (i := 2) sc_marginal_of.nd rfl (Or.inl rfl))) (fun _ _ _ _ _ => pts_nil) (fun _ _ _ _ _ => (pe_kn (kn_told_between T) (hr.mono (by decide)) rfl (pa_cons (pe_kn (kn_looked_at T) (hr.mono (by decide)) rfl (pa_cons (pv 0) (pa_cons (pe_kn (kn_places_beside T) (hr.mono (by decide)) rfl (pa_cons (pv 0) (pa_cons (pv 2) pa_nil))) pa_nil))) (pa_cons (pv 1) pa_nil)))))))), fun vs G y D e h k => ?_⟩
  obtain ⟨v, m, rfl, hm, g, rfl⟩ := h
  have tc := good_count g
  refine st_set (A := LookR K) (x := ((LF.rankM m : Int), LF.residM m)) e (ev_pair ((ev_call1 (ev_var rfl hm) g).as (B := IntR) (y := (LF.rankM m : Int)) fun v H2 _ r => r) (ev_call1 (ev_var rfl hm) g)) fun u1 H1 G1 o1 r1 => ?_
  have hm1 := (ModelR K a).st o1.up hm
  refine st_ret o1.kn (ev_lc (B := LookR K) (LF.marginalAt m) (src_rng1 (k := LF.termCountN m) rfl (by omega) (ev_call1 (ev_var rfl hm1) (good_ne g))) (tg_name 2) rfl (by rw [List.length_range]; omega) fun i t G3 σ3 hi e3 ag ht => ?_) fun u H4 G4 o4 ru => k u H4 G4 (o1.trans o4) ru
  have hm2 : EV (tVar 0) σ3 G3 (ModelR K a) m := ev_var ((ag.2 0 (by decide)).trans rfl) ((ModelR K a).st e3 hm1)
  exact ev_call2 (ev_call2 hm2 (ev_call2 hm2 ht.ev ⟨g.c8, g.tl⟩) ⟨g, places_beside_ok g t⟩) (ev_var ((ag.2 1 (by decide)).trans rfl) ((LookR K).st e3 r1)) ⟨frres (look_frb g (places_beside_ok g _)), frres (good_res g)⟩
theorem sc_spread : FnScope ["responses", "many", "total", "response"] ["responses"] (defScope (top 81)) := ⟨rfl, rfl, rfl, by decide +kernel, rfl, by decide +kernel, by decide +kernel⟩
theorem kn_spread (T : Wd P w K mg base a) : Kn P w K mg base 43 "spread" (FnS (PrR K) (Pre1 RowR (fun x => x ≠ [] ∧ x.length ≤ 31 ∧ LF.Bn 20 x) LF.spread)) := by
  refine T.d_spread.kn sc_spread (fun _ _ _ _ _ _ us hl => match us, hl with | [_], _ => rfl) (fun G vs y ⟨v, _, h, _⟩ => by rw [h]; rfl) fun cdv f A outer s H E hr => ⟨_, (pss_cons (ps_set (i := 1) sc_spread.nd rfl (Or.inr rfl) (pe_callB (cr_lenK (K := K) rfl) rfl T.b_len PySem.boot_len (pa_cons (pv 0) pa_nil))) (pss_cons (ps_set (i := 2) sc_spread.nd rfl (Or.inr rfl) (pe_callB (cr_sumK (K := K) rfl rfl) rfl T.b_sum (by decide +kernel) (pa_cons (pv 0) pa_nil))) (pss_one (ps_ret (pe_kn (kn_ratio T) (hr.mono (by decide)) rfl (pa_cons (pe_callB (cr_sumK (K := K) rfl rfl) rfl T.b_sum (by decide +kernel) (pa_cons (pe_lc (own := [("response", 3)]) rfl sc_spread.nd (pi_listK (K := K) rfl (pv 0)) (blkOk_by (N := ["responses", "many", "total", "response"]) (sc := (defScope (top 81))) (by decide +kernel)) (fun _ _ _ _ _ => (pg_name (i := 3) sc_spread.nd rfl (Or.inl rfl))) (fun _ _ _ _ _ => pts_nil) (fun _ _ _ _ _ => (pe_kn (kn_square T) (hr.mono (by decide)) rfl (pa_cons (pe_op op_sub (pe_op op_mulW (pv 1) (pv 3)) (pv 2)) pa_nil)))) pa_nil)) (pa_cons (pe_kn (kn_square T) (hr.mono (by decide)) rfl (pa_cons (pv 1) pa_nil)) pa_nil))))))), fun vs G y D e h k => ?_⟩
  obtain ⟨v, x, rfl, hx, ⟨ne, l31, hb⟩, rfl⟩ := h
  have lne : (x.length : Int) ≠ 0 := by
    have := List.length_pos_iff.mpr ne
    omega
  have bl : ((x.length : Int)).natAbs < 2 ^ 5 := by show _ < 32; omega
  have bs : x.sum.natAbs < 2 ^ 25 := LF.sum_bn (b := 20) (n := 5) (by omega) hb
  refine st_set (A := IntR) (x := (x.length : Int)) e (ev_len (ev_var rfl hx)) fun u1 H1 G1 o1 r1 => ?_
  refine st_set (A := IntR) (x := x.sum) o1.kn (ev_sum (ev_var rfl (RowR.st o1.up hx))) fun u2 H2 G2 o2 r2 => ?_
  refine st_ret o2.kn (ev_call2 (ev_sum (ev_lc (B := IntR) (fun y => LF.square ((x.length : Int) * y - x.sum)) (src_list (ev_var rfl (RowR.st (o1.up.trans o2.up) hx))) (tg_name 3) rfl (by omega) fun i z G3 σ3 hi e3 ag hz => ?_)) (ev_call1 (ev_var rfl (IntR.st o2.up r1)) (sm_of bl (by decide))) (Int.mul_ne_zero lne lne)) fun u H4 G4 o4 ru => k u H4 G4 ((o1.trans o2).trans o4) ru
  have bz := hb z (List.mem_of_getElem? hi)
  have bt : ((x.length : Int) * z - x.sum).natAbs < 2 ^ 26 := LF.bn_sub (LF.bn_mul bl bz) bs
  exact ev_call1 (ev_sub (ev_mulW ((sm_of bl (by decide)).mul (sm_of bz (by decide))) (ev_var ((ag.2 1 (by decide)).trans rfl) (IntR.st (o2.up.trans e3) r1)) hz.ev) (ev_var ((ag.2 2 (by decide)).trans rfl) (IntR.st e3 r2))) (sm_of bt (by decide))
theorem spread_frb {x : List Int} (ne : x ≠ []) (l31 : x.length ≤ 31) (hb : LF.Bn 20 x) : FrB 60 10 (LF.spread x) := by
  have lne : (x.length : Int) ≠ 0 := by
    have := List.length_pos_iff.mpr ne
    omega
  have bl : ((x.length : Int)).natAbs < 2 ^ 5 := by show _ < 32; omega
  have bs : x.sum.natAbs < 2 ^ 25 := LF.sum_bn (b := 20) (n := 5) (by omega) hb
  refine ratio_frb (lt_pow (LF.sum_bn (b := 52) (n := 5) (by rw [List.length_map]; omega) fun z hz => ?_) (by decide)) (lt_pow (LF.bn_mul bl bl) (by decide)) (Int.mul_ne_zero lne lne)
  obtain ⟨y, hy, rfl⟩ := List.mem_map.mp hz
  have bt : ((x.length : Int) * y - x.sum).natAbs < 2 ^ 26 := LF.bn_sub (LF.bn_mul bl (hb y hy)) bs
  exact lt_pow (LF.bn_mul bt bt) (by decide)
end
end LW

set_option linter.all false
set_option Elab.async false
set_option maxRecDepth 100000
set_option maxHeartbeats 4000000
namespace LW
open PySem PySem.Spec PyProof.Rows L2
open Evl (Ex)
/-! ## list(d.values()), of a dict whose keys are tuples -/
def viewV (p d : Addr) : HO := .ext fun h => h.get? p = some { cls := .type "dict_values", data := .fields #[.ref d] }
theorem viewV_ok {P : Program} {w : World} {H : Hp} {h : Heap} {p d : Addr} (e : h.get? p = some { cls := .type "dict_values", data := .fields #[.ref d] }) : ObjOk P w H h p (viewV p d) := ⟨e, ⟨_, e⟩, fun h1 h2 q k => k _ q⟩
def tValsT (td : TE) : TE := fun σ H Q => td σ H fun x H1 => ∃ d kvs, x = .ref d ∧ H1 d = some (.dT kvs) ∧ ∀ p, H1 p = none → Q (.ref p) (upd H1 p (viewV p d))
section
variable {X : Cx}
theorem pe_valsT {o : Expr} {apos cpos : Pos} {td : TE} (ho : PE X o td) (hbase : attributeBase o "values" X.env (eval o X.env) = eval o X.env := by rfl) (hline : (apos.endLine == cpos.line) = true := by rfl) : PE X (.Call (.Attribute o "values" apos) [] [] cpos) (tValsT td) := by
  refine ⟨fun pins s σ H Q I h => ?_⟩
  refine wpAny_Call_method (T := "dict") (id := "dict.values") hbase rfl hline F.plainAttrs_dict F.slot_dict_values F.type_dict_values (thn (ho.run pins s σ H _ I h) fun u s1 ⟨x, H1, I1, rx, d, kvs, ex, hd, q⟩ => ?_)
  subst ex
  obtain rfl : u = Value.ref d := rx
  obtain ⟨z, hs, xs, pr, o', es, ep, ho', hx, hdt, he, _⟩ := I1.hok d _ hd
  refine ⟨⟨o', ho', hx.1⟩, fun b q => by cases q; exact ⟨o', ho', hx.2.1⟩, ?_⟩
  show wpAny _ _ (callWith cpos (.builtin "dict.values") [.ref d] [] []) _ X.xe s1
  exact method_meetsIn F.slot_dict_values F.entry_dict_values rfl (PySem.evalArgs_none ⟨rfl, ⟨o', ho', hx.1⟩, F.args_dict_values_1 _, _, meets_dict_values_raw d hs, ⟨⟨es, ep, o', ho', hx, hdt⟩,
    ⟨.ref s1.heap.objs.size, _, I1.laid (t' := s1.toks) (fun b o q => Heap.get?_push_of_some _ q) (Nat.le_refl _) (viewV_ok (Heap.get?_push_size _ rfl)), rfl, q _ (I1.hok.fresh (Nat.le_refl _))⟩⟩⟩)
def rListV : List V → Hp → VK → Prop := fun xs H Q => ∃ p d kvs, xs = [.ref p] ∧ H p = some (viewV p d) ∧ H d = some (.dT kvs) ∧ ∀ l, H l = none → Q (.ref l) (upd H l (.lst (kvs.map (·.2))))
theorem cr_listV (hc : X.calm = true) : CallR X (.type "list") rListV := by
  intro pins s σ H xs us Q I rx h
  obtain ⟨p, d, kvs, rfl, hp, hd, q⟩ := h
  rw [Vals.ref1 rx]
  have hv : s.heap.get? p = some { cls := .type "dict_values", data := .fields #[.ref d] } := (show ObjOk X.prog X.w H s.heap p (viewV p d) from I.hok p _ hp).1
  obtain ⟨z, hs, xs, pr, o', es, ep, ho', hx, hdt, he, _⟩ := I.hok d _ hd
  have l1 : es.size = xs.length := size_of_entries he
  have l2 : kvs.length = xs.length := Paired.length pr
  refine PySem.W.kdl_call KdlSrc.rawValues (I.ok.hd hc) ⟨⟨_, hv, rfl, rfl⟩, o', ho', hx, hdt⟩ (by rw [l1, ← l2]; exact z) fun h' tk acc' c' hk hS hi => ?_
  have lacc : acc'.toList.length = kvs.length := by rw [Array.length_toList, hi.1, l1, l2]
  refine ⟨.ref s.heap.objs.size, upd H _ (.lst (kvs.map (·.2))), I.laid hk (Nat.le_refl _) (show ObjOk X.prog X.w _ _ _ (.lst (kvs.map (·.2))) from ⟨by rw [List.length_map]; exact z, acc'.toList, c', ?_, by rw [Array.toArray_toList]; exact hS⟩), rfl, q _ (I.hok.fresh (Nat.le_refl _))⟩
  have ev : kvs.map (·.2) = (List.range acc'.toList.length).map fun j => (kvs.map (·.2)).getD j .non := by
    refine List.ext_getElem? fun j => ?_
    by_cases c : j < kvs.length
    · rw [List.getElem?_map, List.getElem?_map, List.getElem?_range (by omega), List.getElem?_eq_getElem c, Option.map_some, Option.map_some, List.getD_eq_getElem?_getD, List.getElem?_map, List.getElem?_eq_getElem c]
      rfl
    · rw [List.getElem?_eq_none (by rw [List.length_map]; omega), List.getElem?_eq_none (by rw [List.length_map, List.length_range]; omega)]
  rw [ev]
  refine vals_of_get acc'.toList _ fun j u hj => ?_
  have hlt : j < kvs.length := by rw [← lacc]; exact (List.getElem?_eq_some_iff.mp hj).1
  obtain ⟨hi', e1⟩ := hi.2 j u (by rw [← hj, Array.getElem?_toList])
  obtain ⟨b, hb, _, _, rb⟩ := paired_get pr (List.getElem?_eq_getElem hlt)
  have q1 := entry_at he j
  rw [hb, Array.getElem?_eq_getElem hi'] at q1
  have q1 := Option.some.inj q1
  rw [e1, q1]
  have e2 : (kvs.map (·.2)).getD j .non = (kvs[j]).2 := by rw [List.getD_eq_getElem?_getD, List.getElem?_map, List.getElem?_eq_getElem hlt]; rfl
  rw [e2]
  exact rb
end
/-- a tuple of ints -/
def TupR : RelS (List Int) := ⟨fun H v xs => ∃ b, v = .ref b ∧ H b = some (.tup (xs.map V.int)), fun e ⟨b, h1, h2⟩ => ⟨b, h1, e _ _ h2⟩⟩
theorem ev_tuple {K : PySem.W.Frag} {σ : L2.St} {H : Hp} {ta : TE} {xs : List Int} (ha : EV ta σ H RowR xs) : EV (tCB (rTupleT K) (tCons ta tNil)) σ H TupR xs := fun G H1 e e1 Q q =>
  ha G H1 e e1 _ fun v H2 G2 o ⟨b, vs, h1, h2, h3⟩ => ⟨b, vs, by rw [h1], .inl ⟨Evl.sq_of (o.kn _ _ h2), fun l hl => q _ _ _ (o.trans (Ok.new o.kn hl)) ⟨l, rfl, by rw [upd_same, h3.eqI]⟩⟩⟩
/-! ## groups in a dict -/
def kI (xs : List Int) : List Key := xs.map Sum.inl
theorem kI_inj {a b : List Int} (h : kI a = kI b) : a = b := by
  induction a generalizing b with
  | nil => cases b with
    | nil => rfl
    | cons _ _ => cases h
  | cons x a ih => cases b with
    | nil => cases h
    | cons y b =>
      have h := List.cons.inj h
      rw [Sum.inl.inj h.1, ih h.2]
theorem kI_kV (xs : List Int) : (kI xs).map kV = xs.map V.int := by
  unfold kI
  rw [List.map_map]
  rfl
def GrP (G : Hp) (p : List Key × V) (e : List Int × List Int) : Prop := p.1 = kI e.1 ∧ RowR.R G p.2 e.2
abbrev Grs (G : Hp) (kvs : List (List Key × V)) (g : LF.Groups) : Prop := Paired (GrP G) kvs g
theorem Grs.mono {G G2 : Hp} (e : Ex G G2) {kvs : List (List Key × V)} {g : LF.Groups} (h : Grs G kvs g) : Grs G2 kvs g := by
  induction h with
  | nil => exact .nil
  | cons p _ ih => exact .cons ⟨p.1, RowR.st e p.2⟩ ih
theorem Grs.get {G : Hp} {kvs : List (List Key × V)} {g : LF.Groups} (h : Grs G kvs g) (k : List Int) : (∃ v, valV kvs (kI k) = some v ∧ RowR.R G v (LF.groupGet g k)) ∨ (valV kvs (kI k) = none ∧ LF.groupGet g k = []) := by
  induction h with
  | nil => exact .inr ⟨rfl, rfl⟩
  | @cons p e kvs g hp _ ih =>
    by_cases c : e.1 = k
    · have c2 : p.1 = kI k := by rw [hp.1, c]
      refine .inl ⟨p.2, valV_pos c2, ?_⟩
      unfold LF.groupGet
      rw [List.find?_cons_of_pos (by exact decide_eq_true c)]
      exact hp.2
    · have c2 : ¬ p.1 = kI k := fun z => c (kI_inj (hp.1.symm.trans z))
      have e1 : valV (p :: kvs) (kI k) = valV kvs (kI k) := by unfold valV; rw [List.find?_cons_of_neg (by rw [decide_eq_true_eq]; exact c2)]
      have e2 : LF.groupGet (e :: g) k = LF.groupGet g k := by unfold LF.groupGet; rw [List.find?_cons_of_neg (by rw [decide_eq_true_eq]; exact c)]
      rw [e1, e2]
      exact ih
theorem Grs.any {G : Hp} {kvs : List (List Key × V)} {g : LF.Groups} (h : Grs G kvs g) (k : List Int) : (kvs.any fun kv => decide (kv.1 = kI k)) = g.any fun e => decide (e.1 = k) := by
  induction h with
  | nil => rfl
  | @cons p e kvs g hp _ ih =>
    rw [List.any_cons, List.any_cons, ih]
    congr 1
    rw [decide_eq_decide]
    exact ⟨fun z => kI_inj (hp.1.symm.trans z), fun z => by rw [hp.1, z]⟩
theorem Grs.put {G : Hp} {kvs : List (List Key × V)} {g : LF.Groups} (h : Grs G kvs g) (k : List Int) {v : V} {xs : List Int} (hv : RowR.R G v xs) : Grs G (putK kvs (kI k) v) (LF.groupPut g k xs) := by
  unfold putK LF.groupPut
  rw [h.any k]
  by_cases c : (g.any fun e => decide (e.1 = k)) = true
  · rw [if_pos c, if_pos c]
    clear c
    induction h with
    | nil => exact .nil
    | @cons p e kvs g hp _ ih =>
      refine .cons ?_ ih
      by_cases c : e.1 = k
      · have c2 : p.1 = kI k := by rw [hp.1, c]
        simp only [if_pos c, if_pos c2]
        exact ⟨hp.1, hv⟩
      · have c2 : ¬ p.1 = kI k := fun z => c (kI_inj (hp.1.symm.trans z))
        simp only [if_neg c, if_neg c2]
        exact hp
  · rw [if_neg c, if_neg c]
    exact Paired.snoc h ⟨rfl, hv⟩
theorem Grs.vals {G : Hp} {kvs : List (List Key × V)} {g : LF.Groups} (h : Grs G kvs g) : All2 (RowR.R G) (kvs.map (·.2)) (g.map (·.2)) := by
  induction h with
  | nil => trivial
  | cons p _ ih => exact ⟨p.2, ih⟩
theorem get_len {data : List Kxd4.Observation} (k : List Int) : (LF.groupGet (LF.groupsOf data) k).length ≤ data.length := by
  unfold LF.groupGet
  cases q : (LF.groupsOf data).find? fun e => decide (e.1 = k) with
  | none => exact Nat.zero_le _
  | some e =>
    have hm := List.mem_of_find?_eq_some q
    rw [LF.groups_eq] at hm
    obtain ⟨g, _, rfl⟩ := List.mem_map.mp hm
    show (LF.rowsOf data g).length ≤ _
    unfold LF.rowsOf
    rw [List.length_map]
    exact List.length_filter_le _ _
theorem groups_len (data : List Kxd4.Observation) : (LF.groupsOf data).length ≤ data.length := by
  rw [LF.groups_eq, List.length_map]
  exact LF.keys_le data
theorem groups_snoc (data : List Kxd4.Observation) (o : Kxd4.Observation) : LF.groupsOf (data ++ [o]) = LF.groupPut (LF.groupsOf data) o.row (LF.groupGet (LF.groupsOf data) o.row ++ [o.response]) := by
  unfold LF.groupsOf
  rw [List.foldl_append]
  rfl
section
variable {P : Program} {w : World} {K : PySem.W.Frag} {mg : Str → Option Value} {base : Heap} {a : Ad}
theorem rowP_at {data : List Kxd4.Observation} {i : Nat} {z : Int × List Int} (h : (data.map rowP)[i]? = some z) : ∃ o, data[i]? = some o ∧ z = rowP o := by
  rw [List.getElem?_map] at h
  obtain ⟨o, h1, h2⟩ := Option.map_eq_some_iff.mp h
  exact ⟨o, h1, h2.symm⟩
theorem sc_groups_of : FnScope ["model", "groups", "response", "entries", "key"] ["model"] (defScope (top 80)) := ⟨rfl, rfl, rfl, by decide +kernel, rfl, by decide +kernel, by decide +kernel⟩
theorem kn_groups_of (T : Wd P w K mg base a) : Kn P w K mg base 41 "groups_of" (FnS TabR (Pre1 (ModelR K a) (fun m => m.data.length ≤ 1000) (fun m => (LF.groupsOf m.data).map (·.2)))) := by
  refine T.d_groups_of.kn sc_groups_of (fun _ _ _ _ _ _ us hl => match us, hl with | [_], _ => rfl) (fun G vs y ⟨v, _, h, _⟩ => by rw [h]; rfl) fun cdv f A outer s H E hr => ⟨_, (pss_cons (ps_set (i := 1) sc_groups_of.nd rfl (Or.inl rfl) pe_dnewT) (pss_cons (ps_for PassesOwn.never rfl (pi_listK (K := K) rfl (pe_fldK (K := K) rfl (pv 0) rfl)) (pg_tupK (K := K) (n := 2) rfl rfl (pgs_cons (pg_name (i := 2) sc_groups_of.nd rfl (Or.inl rfl)) (pgs_cons (pg_name (i := 3) sc_groups_of.nd rfl (Or.inl rfl)) pgs_nil))) (pss_cons (ps_set (i := 4) sc_groups_of.nd rfl (Or.inl rfl) (pe_callTy (cr_tupleK (K := K) rfl) rfl T.b_tuple (by decide +kernel) (pa_cons (pv 3) pa_nil))) (pss_one (ps_dput (hu_of hr) (pv 1) (pv 4) (pe_op op_cat (pe_dget2 (hu_of hr) (pv 1) (pv 4) (pe_lst pa_nil) ⟨rfl, rfl, rfl, rfl⟩) (pe_lst (pa_cons (pv 2) pa_nil))) rfl)))) (pss_one (ps_ret (pe_callTy (cr_listV rfl) rfl T.b_list (by decide +kernel) (pa_cons (pe_valsT (pv 1)) pa_nil)))))), fun vs G y D e h k => ?_⟩
  obtain ⟨v, m, rfl, hm, hl, rfl⟩ := h
  refine fun p hp => ?_
  have hp0 : G p = none := Evl.fresh_back e hp
  have o1 : Ok G H (upd H p (.dT [])) G := (Ok.refl e).mut hp hp0
  refine st_for o1.kn (src_list (ev_rows T (ev_var (σ := [some v, some (.ref p), none, none, none]) rfl hm))) fun H2 G2 o2 => ⟨fun i σ' G' H' => Ok G H H' G' ∧ Ex G2 G' ∧ Agr [2, 3, 4] [some v, some (.ref p), none, none, none] σ' ∧ G' p = none ∧
    ∃ kvs, H' p = some (.dT kvs) ∧ Grs G' kvs (LF.groupsOf (m.data.take i)), ⟨o1.trans o2, Ex.refl _, Agr.refl _ _, o2.no p hp0 (by rw [upd_same]; exact fun z => by cases z), [], o2.ex _ _ upd_same, .nil⟩, ?_, ?_⟩
  · rintro i z σ' G' H' hz ⟨o', e', ag, np, kvs, hk, gr⟩
    obtain ⟨o, ho, rfl⟩ := rowP_at hz
    have hlt : i < m.data.length := (List.getElem?_eq_some_iff.mp ho).1
    refine ⟨e', o'.kn, fun v3 G3 H3 o3 rz => ?_⟩
    obtain ⟨σ2, kk, a2, f1, f2⟩ := tg_pair (K := K) (A := IntR) (B := RowR) 2 3 (by decide) G3 v3 (rowP o) rz σ' fun j hj => by
      rw [ag.1]
      exact of_decide_eq_true (List.all_eq_true.mp (show ([2, 3].all fun j => decide (j < 5)) = true from rfl) j hj)
    have a3 := ag.trans (a2.sub (ks := [2, 3, 4]) (by decide))
    refine kk H3 _ o3.kn (st_set (A := TupR) (x := o.row) o3.kn (ev_tuple f2.ev) fun u4 H4 G4 o4 r4 => ?_)
    have o34 := o3.trans o4
    have hne : ∀ u, H' p = some u → G3 p = none := fun u q => o3.no p np (by rw [q]; exact fun z => by cases z)
    have np4 : G4 p = none := o34.no p np (by rw [hk]; exact fun z => by cases z)
    have hk4 : H4 p = some (.dT kvs) := o34.ex _ _ hk
    obtain ⟨b, rfl, hb⟩ := r4
    have s1 : (σ2.set 4 (some (.ref b)))[1]? = some (some (.ref p)) := by rw [List.getElem?_set_ne (by decide)]; exact (a3.2 1 (by decide)).trans rfl
    have s4 : (σ2.set 4 (some (.ref b)))[4]? = some (some (.ref b)) := List.getElem?_set_self (by rw [a3.1]; show 4 < 5; decide)
    have f4 := (f1.mono o4.up).put (k := 4) (v := some (.ref b)) (by decide)
    have a4 : Agr [2, 3, 4] [some v, some (.ref p), none, none, none] (σ2.set 4 (some (.ref b))) := a3.trans (Agr.set (by decide))
    generalize σ2.set 4 (some (.ref b)) = σ4 at s1 s4 f4 a4 ⊢
    have isd : IsD H4 p := .inr ⟨kvs, .inl hk4⟩
    refine ⟨.ref p, s1, p, rfl, isd, .ref b, s4, by show 0 ≤ sizeLine; exact Nat.zero_le _, fun l hl => ?_⟩
    have o5 : Ok G4 H4 (upd H4 l (.lst [])) (upd G4 l (.lst [])) := Ok.new o4.kn hl
    have hpl : p ≠ l := fun z => by rw [z, hl] at hk4; cases hk4
    have hk5 : (upd H4 l (.lst [])) p = some (.dT kvs) := o5.ex _ _ hk4
    have hb5 : (upd H4 l (.lst [])) b = some (.tup ((kI o.row).map kV)) := by rw [kI_kV]; exact (o4.kn.trans o5.ex) _ _ hb
    have gl : (LF.groupGet (LF.groupsOf (m.data.take i)) o.row).length ≤ 1000 := by
      have := get_len (data := m.data.take i) o.row
      rw [List.length_take] at this
      omega
    have rv : RowR.R (upd G4 l (.lst [])) ((valV kvs (kI o.row)).getD (.ref l)) (LF.groupGet (LF.groupsOf (m.data.take i)) o.row) := by
      rcases gr.get o.row with ⟨v0, h1, h2⟩ | ⟨h1, h2⟩
      · rw [h1]
        exact RowR.st (o34.up.trans o5.up) h2
      · rw [h1, h2]
        exact ⟨l, [], rfl, upd_same, trivial⟩
    refine ⟨_, DGet.t hk5 hb5, ?_⟩
    have cat := ev_cat (A := IntR) (σ := σ4) (by show _ + 1 ≤ _; omega) (ev_c (σ := σ4) rv) (ev_lst (el_cons (f4.mono o5.up).ev el_nil) (by show 1 ≤ _; decide))
    refine cat (upd G4 l (.lst [])) (upd H4 l (.lst [])) (Ex.refl _) o5.kn _ fun v6 H6 G6 o6 r6 => ?_
    have hk6 : H6 p = some (.dT kvs) := o6.ex _ _ hk5
    have hb6 : H6 b = some (.tup ((kI o.row).map kV)) := o6.ex _ _ hb5
    have o46 := o5.trans o6
    have np6 : G6 p = none := o46.no p np4 (by rw [hk4]; exact fun z => by cases z)
    have kl : kvs.length ≤ 1000 := by
      have h1 : kvs.length = _ := Paired.length gr
      have h2 := groups_len (m.data.take i)
      rw [List.length_take] at h2
      omega
    refine ⟨.ref p, s1, .ref b, s4, p, _, rfl, .inr ⟨kvs, kI o.row, b, hk6, rfl, hb6, Evl.sz_lt (by omega), rfl⟩, G6, ((o'.trans o34).trans o46).mut hp np6, ((e'.trans o34.up).trans o46.up), a4, np6, _, upd_same, ?_⟩
    rw [take_next ho, groups_snoc]
    exact (gr.mono (o34.up.trans o46.up)).put o.row r6
  · rintro σ' G' H' ⟨o', e', ag, np, kvs, hk, gr⟩
    rw [List.length_map, List.take_length] at gr
    refine ⟨e', o'.kn, .ref p, (ag.2 1 (by decide)).trans rfl, p, kvs, rfl, hk, fun q hq => ?_⟩
    have hpq : p ≠ q := fun z => by rw [z, hq] at hk; cases hk
    refine ⟨q, p, kvs, rfl, upd_same, by rw [upd_ne hpq]; exact hk, fun l hl => ?_⟩
    have o2 : Ok G' H' (upd H' q (viewV q p)) G' := Ok.grow o'.kn (Ex.new hq)
    have o3 := o2.trans (Ok.new (o := .lst (kvs.map (·.2))) o2.kn hl)
    exact k _ _ _ (o'.trans o3) (ListR.mk (Evl.fresh_back o2.kn hl) gr.vals rfl)
theorem groups_ok {m : Kxd4.Model} (g : LF.Good m) : ∀ x ∈ (LF.groupsOf m.data).map (·.2), x ≠ [] ∧ x.length ≤ 31 ∧ LF.Bn 20 x := fun x hx => by
  rw [LF.groups_eq, List.map_map] at hx
  obtain ⟨k, hk, rfl⟩ := List.mem_map.mp hx
  refine ⟨LF.rows_ne hk, ?_, fun z hz => ?_⟩
  · show (LF.rowsOf m.data k).length ≤ 31
    unfold LF.rowsOf
    rw [List.length_map]
    exact Nat.le_trans (List.length_filter_le _ _) (Nat.le_trans g.n24 (by decide))
  · have hz : z ∈ LF.rowsOf m.data k := hz
    unfold LF.rowsOf at hz
    obtain ⟨o, ho, rfl⟩ := List.mem_map.mp hz
    exact bn20 (g.resp o (List.mem_filter.mp ho).1)
theorem pure_go : ∀ (l : List (List Int)) (i : Nat) (p : Int × Int), (∀ x ∈ l, x ≠ [] ∧ x.length ≤ 31 ∧ LF.Bn 20 x) → FrB (100 + 11 * i) (1 + 10 * i) p → FrB (100 + 11 * (i + l.length)) (1 + 10 * (i + l.length)) (l.foldl (fun f g => LF.plusP f (LF.spread g)) p)
  | [], i, p, _, h => h
  | x :: l, i, p, hl, h => by
    obtain ⟨x1, x2, x3⟩ := hl x List.mem_cons_self
    have h1 := plus_frb (n := 110 + 11 * i) h (spread_frb x1 x2 x3) (by omega) (by omega)
    have h2 : FrB (100 + 11 * (i + 1)) (1 + 10 * (i + 1)) (LF.plusP p (LF.spread x)) := h1.mono (by omega) (by omega)
    have h3 := pure_go l (i + 1) _ (fun y hy => hl y (List.mem_cons_of_mem _ hy)) h2
    rw [List.length_cons, List.foldl_cons, show i + (l.length + 1) = i + 1 + l.length by omega]
    exact h3
theorem pure0 : FrB (100 + 11 * 0) (1 + 10 * 0) ((0 : Int), (1 : Int)) := ⟨by show 0 < _; exact Nat.pow_pos (by decide), by show 1 < 2 ^ 1; decide, by show (1 : Int) ≠ 0; decide⟩
theorem pure_frb {m : Kxd4.Model} (g : LF.Good m) : FrB 400 300 (LF.pureM m).2 := by
  have h := pure_go _ 0 (0, 1) (groups_ok g) pure0
  have hl := groups_len m.data
  have hn := g.n24
  rw [List.length_map] at h
  exact h.mono (by omega) (by omega)
theorem zeroR (T : Wd P w K mg base a) {G : Hp} : (PrR K).R G (.ref a.zero) (0, 1) := ⟨a.zero, _, _, rfl, T.t_zero G, rfl, rfl⟩
theorem oneR (T : Wd P w K mg base a) {G : Hp} : (PrR K).R G (.ref a.one) (1, 1) := ⟨a.one, _, _, rfl, T.t_one G, rfl, rfl⟩
theorem sc_pure_error : FnScope ["model", "groups", "found", "responses"] ["model"] (defScope (top 82)) := ⟨rfl, rfl, rfl, by decide +kernel, rfl, by decide +kernel, by decide +kernel⟩
theorem kn_pure_error (T : Wd P w K mg base a) : Kn P w K mg base 44 "pure_error" (FnS (LookR K) (Pre1 (ModelR K a) LF.Good LF.pureM)) := by
  refine T.d_pure_error.kn sc_pure_error (fun _ _ _ _ _ _ us hl => match us, hl with | [_], _ => rfl) (fun G vs y ⟨v, _, h, _⟩ => by rw [h]; rfl) fun cdv f A outer s H E hr => ⟨_, (pss_cons (ps_set (i := 1) sc_pure_error.nd rfl (Or.inl rfl) (pe_kn (kn_groups_of T) (hr.mono (by decide)) rfl (pa_cons (pv 0) pa_nil))) (pss_cons (ps_set (i := 2) sc_pure_error.nd rfl (Or.inl rfl) (pe_gref T.g_ZERO rfl)) (pss_cons (ps_for PassesOwn.never rfl (pi_listK (K := K) rfl (pv 1)) (pg_name (i := 3) sc_pure_error.nd rfl (Or.inl rfl)) (pss_one (ps_set (i := 2) sc_pure_error.nd rfl (Or.inl rfl) (pe_kn (kn_plus T) (hr.mono (by decide)) rfl (pa_cons (pv 2) (pa_cons (pe_kn (kn_spread T) (hr.mono (by decide)) rfl (pa_cons (pv 3) pa_nil)) pa_nil)))))) (pss_one (ps_ret (pe_tup (pa_cons (pe_op op_sub (pe_callB (cr_lenK (K := K) rfl) rfl T.b_len PySem.boot_len (pa_cons (pe_fldK (K := K) rfl (pv 0) rfl) pa_nil)) (pe_callB (cr_lenK (K := K) rfl) rfl T.b_len PySem.boot_len (pa_cons (pv 1) pa_nil))) (pa_cons (pv 2) pa_nil)))))))), fun vs G y D e h k => ?_⟩
  obtain ⟨v, m, rfl, hm, g, rfl⟩ := h
  have ok := groups_ok g
  have hl := groups_len m.data
  have hn := g.n24
  refine st_set (A := TabR) (x := (LF.groupsOf m.data).map (·.2)) e (ev_call1 (ev_var rfl hm) (Nat.le_trans g.n24 (by decide))) fun u1 H1 G1 o1 r1 => ?_
  refine st_set (A := PrR K) (x := (0, 1)) o1.kn (ev_c (zeroR T)) fun u2 H2 G2 o2 r2 => ?_
  have r1' := TabR.st o2.up r1
  refine st_fold (C := PrR K) (k := 2) (acc0 := (0, 1)) (fun f g => LF.plusP f (LF.spread g)) o2.kn (src_list (ev_var rfl r1')) (tg_name 3) (by decide) rfl ⟨u2, rfl, r2⟩ (fun i z σ2 G3 hz e3 ag hc hn' => ?_) fun σ2 H3 G3 o3 ag hc => ?_
  · have okz := ok z (List.mem_of_getElem? hz)
    have h := pure_go _ 0 (0, 1) (fun x hx => ok x (List.mem_of_mem_take (i := i) hx)) pure0
    have ll : (((LF.groupsOf m.data).map (·.2)).take i).length ≤ 24 := by rw [List.length_take, List.length_map]; omega
    exact ev_call2 hc.ev (ev_call1 hn'.ev okz) ⟨h.fr (by omega) (by omega), (spread_frb okz.1 okz.2.1 okz.2.2).fr (by decide) (by decide)⟩
  · have o13 := (o1.trans o2).trans o3
    refine st_ret o3.kn ((ev_pair (ev_sub (ev_len (ev_rows T (ev_var ((ag.2 0 (by decide)).trans rfl) ((ModelR K a).st o13.up hm)))) (ev_len (ev_var ((ag.2 1 (by decide)).trans rfl) (TabR.st o3.up r1')))) hc.ev).to ?_) fun u H4 G4 o4 ru => k u H4 G4 (o13.trans o4) ru
    rw [List.length_map, List.length_map]
    rfl
end
end LW

set_option linter.all false
set_option Elab.async false
set_option maxRecDepth 100000
set_option maxHeartbeats 4000000
namespace LW
open PySem PySem.Spec PyProof.Rows L2
open Evl (Ex)
/-- a desk with its model -/
def DeskR (K : PySem.W.Frag) (a : Ad) : RelS Kxd4.Model :=
  ⟨fun H v m => ∃ p dx u, v = .ref p ∧ H p = some (.ins a.cD dx [("model", u)]) ∧ (ModelR K a).R H u m, fun e ⟨p, dx, u, h1, h2, h3⟩ => ⟨p, dx, u, h1, e _ _ h2, (ModelR K a).st e h3⟩⟩
abbrev Tell (K : PySem.W.Frag) (a : Ad) (pre : Kxd4.Model → List Int → List (List Int) → Prop) (f : Kxd4.Model → List Int → List (List Int) → List Int) : Sp := FnS RowR (Pre3 (DeskR K a) RowR TabR pre f)
def One1 (ns : List Int) : Prop := ∃ i : Nat, ns = [(i : Int)]
def L1 (ls : List (List Int)) : Prop := ∃ v, ls = [v] ∧ v.length ≤ 60
def L2' (ls : List (List Int)) : Prop := ∃ u v, ls = [u, v] ∧ u.length ≤ 60 ∧ v.length ≤ 60
section
variable {P : Program} {w : World} {K : PySem.W.Frag} {mg : Str → Option Value} {base : Heap} {a : Ad}
theorem ev_model (T : Wd P w K mg base a) {te : TE} {σ : L2.St} {H : Hp} {m : Kxd4.Model} (h : EV te σ H (DeskR K a) m) : EV (tFld K te "model") σ H (ModelR K a) m := fun G H1 e e1 Q q => h G H1 e e1 _ fun v H2 G2 o ⟨p, dx, u, h1, h2, h3⟩ =>
  ⟨p, a.cD, dx, _, _, h1, o.kn _ _ h2, T.clD, T.nDmodel, lk_here, q _ H2 G2 o h3⟩
/-- a list of two, taken apart -/
def TwoR {α : Type} (A : RelS α) : RelS (α × α) := ⟨fun H v p => (ListR A).R H v [p.1, p.2], fun e h => (ListR A).st e h⟩
theorem tg_unl {α : Type} {A : RelS α} (i j : Nat) (h : i ≠ j) : Tg (gUnl K 2 (gCons (gName i) (gCons (gName j) gNil))) (TwoR A) [i, j] (fun G σ p => At A i G σ p.1 ∧ At A j G σ p.2) := fun G x p r σ hl => by
  obtain ⟨b, vs, rfl, h2, h3⟩ := r
  obtain ⟨u, v, rfl⟩ : ∃ u v, vs = [u, v] := match vs, h3.len with | [u, v], _ => ⟨u, v, rfl⟩
  obtain ⟨σ1, k1, a1, f1⟩ := tg_name (A := A) i G u p.1 h3.1 σ fun q hq => hl q (by simp at hq; simp [hq])
  obtain ⟨σ2, k2, a2, f2⟩ := tg_name (A := A) j G v p.2 h3.2.1 σ1 fun q hq => by rw [a1.1]; exact hl q (by simp at hq; simp [hq])
  refine ⟨σ2, fun H Q e q => ⟨b, [u, v], rfl, Evl.sq_of (e _ _ h2), rfl, u, [v], rfl, k1 H _ e ⟨v, [], rfl, k2 H _ e ⟨rfl, q⟩⟩⟩, ?_, f1.agr a2 (by simpa using h), f2⟩
  exact (a1.sub fun q hq => by simp at hq; simp [hq]).trans (a2.sub fun q hq => by simp at hq; simp [hq])
section
variable {σ : L2.St} {H : Hp} {ta tb tc : TE} {p q : Int × Int}
theorem ev_one {n : Int} (h : EV ta σ H IntR n) : EV (tLst (tCons ta tNil)) σ H RowR [n] := ev_lst (el_cons h el_nil) (by show 1 ≤ _; decide)
theorem ev_told1 {n : Int} (h0 : EV tc σ H IntR n) (h : EV ta σ H (PrR K) p) : EV (tOp rCat (tLst (tCons tc tNil)) (tCB (rListT K) (tCons ta tNil))) σ H RowR (n :: LF.listP p) :=
  ev_cat (by show 1 + 2 ≤ _; decide) (ev_one h0) (ev_listP h)
theorem ev_told2 (h : EV ta σ H (PrR K) p) (h2 : EV tb σ H (PrR K) q) : EV (tOp rCat (tOp rCat (tLst (tCons (tC (.int 0)) tNil)) (tCB (rListT K) (tCons ta tNil))) (tCB (rListT K) (tCons tb tNil))) σ H RowR (0 :: (LF.listP p ++ LF.listP q)) :=
  ev_cat (xs := 0 :: LF.listP p) (ys := LF.listP q) (by show 3 + 2 ≤ _; decide) (ev_told1 ev_int h) (ev_listP h2)
end
theorem sc_tell_rank : FnScope ["desk", "numbers", "lists"] ["desk", "numbers", "lists"] (defScope (top 84)) := ⟨rfl, rfl, rfl, by decide +kernel, rfl, by decide +kernel, by decide +kernel⟩
theorem kn_tell_rank (T : Wd P w K mg base a) : Kn P w K mg base 60 "tell_rank" (Tell K a (fun m _ _ => LF.Good m) fun m _ _ => LF.tellRank m) := by
  refine T.d_tell_rank.kn sc_tell_rank (fun _ _ _ _ _ _ us hl => match us, hl with | [_, _, _], _ => rfl) (fun G vs y ⟨_, _, _, _, _, _, h, _⟩ => by rw [h]; rfl) fun cdv f A outer s H E hr => ⟨_, (pss_one (ps_ret (pe_lst (pa_cons (pe_kn (kn_rank T) (hr.mono (by decide)) rfl (pa_cons (pe_fldK (K := K) rfl (pv 0) rfl) pa_nil)) (pa_cons (pe_kn (kn_freedom T) (hr.mono (by decide)) rfl (pa_cons (pe_fldK (K := K) rfl (pv 0) rfl) pa_nil)) pa_nil))))), fun vs G y D e h k => ?_⟩
  obtain ⟨v1, v2, v3, m, ns, ls, rfl, h1, h2, h3, g, rfl⟩ := h
  have hm := ev_model T (ev_var (σ := start ["desk", "numbers", "lists"] [v1, v2, v3]) (i := 0) rfl h1)
  exact st_ret e (ev_lst (el_cons ((ev_call1 hm g).as (B := IntR) (y := (LF.rankM m : Int)) fun v H2 _ r => r) (el_cons (ev_call1 hm g) el_nil)) (by show 2 ≤ _; decide)) k
theorem sc_tell_coefficients : FnScope ["desk", "numbers", "lists", "model", "tops", "bottom", "found", "top"] ["desk", "numbers", "lists"] (defScope (top 85)) := ⟨rfl, rfl, rfl, by decide +kernel, rfl, by decide +kernel, by decide +kernel⟩
theorem kn_tell_coefficients (T : Wd P w K mg base a) : Kn P w K mg base 60 "tell_coefficients" (Tell K a (fun m _ _ => LF.Good m) fun m _ _ => LF.tellCoef m) := by
  refine T.d_tell_coefficients.kn sc_tell_coefficients (fun _ _ _ _ _ _ us hl => match us, hl with | [_, _, _], _ => rfl) (fun G vs y ⟨_, _, _, _, _, _, h, _⟩ => by rw [h]; rfl) fun cdv f A outer s H E hr => ⟨_, (pss_cons (ps_set (i := 3) sc_tell_coefficients.nd rfl (Or.inl rfl) (pe_fldK (K := K) rfl (pv 0) rfl)) (pss_cons (ps_if (pt_cmpR op_lt (pe_kn (kn_rank T) (hr.mono (by decide)) rfl (pa_cons (pv 3) pa_nil)) (pe_fldK (K := K) rfl (pv 3) rfl) (nomark _)) (pss_one (ps_ret (pe_lst (pa_cons (pe_gint T.g_NO_RESULT rfl) pa_nil)))) pss_nil) (pss_cons (ps_asg (pe_kn (kn_solution T) (hr.mono (by decide)) rfl (pa_cons (pv 3) pa_nil)) (pg_tupK (K := K) (n := 2) rfl rfl (pgs_cons (pg_name (i := 4) sc_tell_coefficients.nd rfl (Or.inl rfl)) (pgs_cons (pg_name (i := 5) sc_tell_coefficients.nd rfl (Or.inl rfl)) pgs_nil)))) (pss_cons (ps_set (i := 6) sc_tell_coefficients.nd rfl (Or.inl rfl) (pe_lst (pa_cons (pe_fldK (K := K) rfl (pv 3) rfl) pa_nil))) (pss_cons (ps_for PassesOwn.never rfl (pi_listK (K := K) rfl (pv 4)) (pg_name (i := 7) sc_tell_coefficients.nd rfl (Or.inl rfl)) (pss_one (ps_expr (pe_bmK (K := K) rfl PySem.F.plainAttrs_list PySem.F.slot_list_extend PySem.F.type_list_extend mt_extend (pv 6) (pa_cons (pe_callTy (cr_listK (K := K) rfl) rfl T.b_list (by decide +kernel) (pa_cons (pe_kn (kn_ratio T) (hr.mono (by decide)) rfl (pa_cons (pv 7) (pa_cons (pv 5) pa_nil))) pa_nil)) pa_nil))))) (pss_one (ps_ret (pv 6)))))))), fun vs G y D e h k => ?_⟩
  obtain ⟨v1, v2, v3, m, ns, ls, rfl, h1, h2, h3, g, rfl⟩ := h
  have S := (good_sol g).2
  refine st_set (A := ModelR K a) (x := m) e (ev_model T (ev_var rfl h1)) fun u1 H1 G1 o1 r1 => ?_
  refine st_when o1.kn (et_test (ev_cmp (p := fun i j => decide (i < j)) ((ev_call1 (ev_var rfl r1) g).as (B := IntR) (y := (LF.rankM m : Int)) fun v H2 _ r => r) (ev_many T (ev_var rfl r1)))) (fun hb H2 e2 => ?_) (fun hb H2 e2 => ?_)
  · refine st_ret (A := RowR) (x := [-33]) (o1.kn.trans e2) (ev_one ev_int) fun u H3 G3 o3 ru => k u H3 G3 ((o1.trans (Ok.grow o1.kn e2)).trans o3) ?_
    have hb := of_decide_eq_true hb
    have e1 : LF.tellCoef m = [-33] := if_pos (by omega)
    show RowR.R G3 u (LF.tellCoef m)
    rw [e1]
    exact ru
  · have hb := of_decide_eq_false hb
    have e1 : LF.tellCoef m = (m.columns : Int) :: (LF.solP m).1.flatMap fun t => LF.listP (LF.ratio t (LF.solP m).2) := if_neg (by omega)
    have o2 := o1.trans (Ok.grow o1.kn e2)
    refine st_unp (A := PairR K RowR IntR) (x := LF.solP m) o2.kn (tg_pair 4 5 (by decide)) rfl (ev_call1 (ev_var rfl r1) g) fun σ3 H3 G3 o3 a3 ⟨f1, f2⟩ => ?_
    have l3 : σ3.length = 8 := a3.1
    have m3 : At (ModelR K a) 3 G3 σ3 m := ⟨u1, (a3.2 3 (by decide)).trans rfl, (ModelR K a).st o3.up r1⟩
    refine st_new (A := IntR) (xs := [(m.columns : Int)]) o3.kn (el_cons (ev_many T m3.ev) el_nil) (by show 1 ≤ _; decide) fun p H4 G4 o4 hp m4 => ?_
    have t4 := (f1.mono o4.up).put (k := 6) (v := some (.ref p)) (by decide)
    have b4 := (f2.mono o4.up).put (k := 6) (v := some (.ref p)) (by decide)
    have p4 : (σ3.set 6 (some (.ref p)))[6]? = some (some (.ref p)) := List.getElem?_set_self (by omega)
    have l4 : (σ3.set 6 (some (.ref p))).length = 8 := by rw [List.length_set]; exact l3
    generalize σ3.set 6 (some (.ref p)) = σ4 at t4 b4 p4 l4 ⊢
    have m8 := S.m8
    have sl := S.len
    refine st_exts (k := 6) (fun t => LF.listP (LF.ratio t (LF.solP m).2)) o4 hp m4 p4 (src_list t4.ev) (tg_name 7) (by decide) (by unfold inb; rw [l4]; rfl) (fun z hz => by show 2 ≤ 100; decide) (by omega) (by show 1 ≤ 100; decide) (fun i z σ5 G5 hz e5 ag hn => ?_) fun σ5 H5 G5 o5 e5 ag m5 => ?_
    · exact ev_listP (ev_call2 hn.ev ((b4.mono e5).agr ag (by decide)).ev S.ne)
    · obtain ⟨G6, o6, e6, r6⟩ := m5.know o5 hp
      refine st_ret o6.kn (ev_var ((ag.2 6 (by decide)).trans p4) r6) fun u H7 G7 o7 ru => k u H7 G7 (((o2.trans o3).trans o6).trans o7) ?_
      show RowR.R G7 u (LF.tellCoef m)
      rw [e1]
      exact ru
/-- model = desk.model; vector = lists[0]; where the vector is none of the model's: -22 -/
theorem isRow_cases (m : Kxd4.Model) (v : List Int) : Kxd4.isRow m v = false ∨ (Kxd4.isRow m v = true ∧ Vec m v) := by
  cases h : Kxd4.isRow m v with
  | false => exact .inl rfl
  | true => exact .inr ⟨rfl, vec_of h⟩
theorem sc_tell_estimate : FnScope ["desk", "numbers", "lists", "model", "vector", "factor"] ["desk", "numbers", "lists"] (defScope (top 86)) := ⟨rfl, rfl, rfl, by decide +kernel, rfl, by decide +kernel, by decide +kernel⟩
theorem kn_tell_estimate (T : Wd P w K mg base a) : Kn P w K mg base 60 "tell_estimate" (Tell K a (fun m _ ls => LF.Good m ∧ L1 ls) fun m _ ls => LF.tellEstimate m (ls.getD 0 [])) := by
  refine T.d_tell_estimate.kn sc_tell_estimate (fun _ _ _ _ _ _ us hl => match us, hl with | [_, _, _], _ => rfl) (fun G vs y ⟨_, _, _, _, _, _, h, _⟩ => by rw [h]; rfl) fun cdv f A outer s H E hr => ⟨_, (pss_cons (ps_set (i := 3) sc_tell_estimate.nd rfl (Or.inl rfl) (pe_fldK (K := K) rfl (pv 0) rfl)) (pss_cons (ps_set (i := 4) sc_tell_estimate.nd rfl (Or.inl rfl) (pe_ix (ix_listK (K := K) rfl) (pv 2) pe_int (fun _ _ => rfl))) (pss_cons (ps_if (pt_not (pt_val (pe_kn (kn_is_vector T) (hr.mono (by decide)) rfl (pa_cons (pv 3) (pa_cons (pv 4) pa_nil))))) (pss_one (ps_ret (pe_lst (pa_cons (pe_gint T.g_OUT_OF_RANGE rfl) pa_nil)))) pss_nil) (pss_cons (ps_set (i := 5) sc_tell_estimate.nd rfl (Or.inl rfl) (pe_kn (kn_factor_of T) (hr.mono (by decide)) rfl (pa_cons (pv 3) (pa_cons (pv 4) (pa_cons (pv 4) pa_nil))))) (pss_cons (ps_if (pt_cmpR op_isNone (pv 5) pe_non (nomark _)) (pss_one (ps_ret (pe_lst (pa_cons (pe_gint T.g_NO_RESULT rfl) pa_nil)))) pss_nil) (pss_one (ps_ret (pe_op op_cat (pe_op op_cat (pe_lst (pa_cons pe_int pa_nil)) (pe_callTy (cr_listK (K := K) rfl) rfl T.b_list (by decide +kernel) (pa_cons (pe_kn (kn_estimate_of T) (hr.mono (by decide)) rfl (pa_cons (pv 3) (pa_cons (pv 4) pa_nil))) pa_nil))) (pe_callTy (cr_listK (K := K) rfl) rfl T.b_list (by decide +kernel) (pa_cons (pv 5) pa_nil)))))))))), fun vs G y D e h k => ?_⟩
  obtain ⟨v1, v2, v3, m, ns, ls, rfl, h1, h2, h3, ⟨g, v, rfl, hl⟩, rfl⟩ := h
  refine st_set (A := ModelR K a) (x := m) e (ev_model T (ev_var rfl h1)) fun u1 H1 G1 o1 r1 => ?_
  refine st_set (A := RowR) (x := v) o1.kn (ev_ix (n := 0) rfl rfl (ev_var rfl (TabR.st o1.up h3)) ev_int) fun u2 H2 G2 o2 r2 => ?_
  have hm2 := (ModelR K a).st o2.up r1
  have o12 := o1.trans o2
  refine st_when o2.kn (et_not (et_B (ev_call2 (ev_var rfl hm2) (ev_var rfl r2) (by omega)))) (fun hb H3 e3 => ?_) (fun hb H3 e3 => ?_)
  · refine st_ret (A := RowR) (x := [-22]) (o2.kn.trans e3) (ev_one ev_int) fun u H4 G4 o4 ru => k u H4 G4 ((o12.trans (Ok.grow o2.kn e3)).trans o4) ?_
    have e1 : LF.tellEstimate m v = [-22] := if_pos (by simpa using hb)
    show RowR.R G4 u (LF.tellEstimate m v)
    rw [e1]
    exact ru
  · have hb : Kxd4.isRow m v = true := by simpa using hb
    have V := vec_of hb
    have e1 : LF.tellEstimate m v = match LF.factorM m v v with
      | none => [-33]
      | some f => 0 :: (LF.listP (LF.estimateM m v) ++ LF.listP f) := if_neg (by rw [hb]; exact fun z => by cases z)
    have o3 := o12.trans (Ok.grow o2.kn e3)
    refine st_set (A := OptR (PrR K)) (x := LF.factorM m v v) o3.kn (ev_call3 (ev_var rfl hm2) (ev_var rfl r2) (ev_var rfl r2) ⟨g, V, V⟩) fun u5 H5 G5 o5 r5 => ?_
    have o35 := o3.trans o5
    refine st_when o5.kn (et_test (ev_isN (ev_var rfl r5))) (fun hc H6 e6 => ?_) (fun hc H6 e6 => ?_)
    · refine st_ret (A := RowR) (x := [-33]) (o5.kn.trans e6) (ev_one ev_int) fun u H7 G7 o7 ru => k u H7 G7 ((o35.trans (Ok.grow o5.kn e6)).trans o7) ?_
      show RowR.R G7 u (LF.tellEstimate m v)
      rw [e1, Option.isNone_iff_eq_none.mp hc]
      exact ru
    · obtain ⟨f, hf⟩ : ∃ f, LF.factorM m v v = some f := by
        cases q : LF.factorM m v v with
        | none => rw [q] at hc; cases hc
        | some f => exact ⟨f, rfl⟩
      rw [hf] at r5
      refine st_ret (A := RowR) (o5.kn.trans e6) (ev_told2 (ev_call2 (ev_var rfl ((ModelR K a).st o5.up hm2)) (ev_var rfl (RowR.st o5.up r2)) ⟨g, V⟩) (ev_var (A := PrR K) rfl r5.2)) fun u H7 G7 o7 ru => k u H7 G7 ((o35.trans (Ok.grow o5.kn e6)).trans o7) ?_
      show RowR.R G7 u (LF.tellEstimate m v)
      rw [e1, hf]
      exact ru
theorem sc_tell_predict : FnScope ["desk", "numbers", "lists", "model", "vector", "factor"] ["desk", "numbers", "lists"] (defScope (top 101)) := ⟨rfl, rfl, rfl, by decide +kernel, rfl, by decide +kernel, by decide +kernel⟩
theorem kn_tell_predict (T : Wd P w K mg base a) : Kn P w K mg base 60 "tell_predict" (Tell K a (fun m _ ls => LF.Good m ∧ L1 ls) fun m _ ls => LF.tellPredict m (ls.getD 0 [])) := by
  refine T.d_tell_predict.kn sc_tell_predict (fun _ _ _ _ _ _ us hl => match us, hl with | [_, _, _], _ => rfl) (fun G vs y ⟨_, _, _, _, _, _, h, _⟩ => by rw [h]; rfl) fun cdv f A outer s H E hr => ⟨_, (pss_cons (ps_set (i := 3) sc_tell_predict.nd rfl (Or.inl rfl) (pe_fldK (K := K) rfl (pv 0) rfl)) (pss_cons (ps_set (i := 4) sc_tell_predict.nd rfl (Or.inl rfl) (pe_ix (ix_listK (K := K) rfl) (pv 2) pe_int (fun _ _ => rfl))) (pss_cons (ps_if (pt_not (pt_val (pe_kn (kn_is_vector T) (hr.mono (by decide)) rfl (pa_cons (pv 3) (pa_cons (pv 4) pa_nil))))) (pss_one (ps_ret (pe_lst (pa_cons (pe_gint T.g_OUT_OF_RANGE rfl) pa_nil)))) pss_nil) (pss_cons (ps_set (i := 5) sc_tell_predict.nd rfl (Or.inl rfl) (pe_kn (kn_factor_of T) (hr.mono (by decide)) rfl (pa_cons (pv 3) (pa_cons (pv 4) (pa_cons (pv 4) pa_nil))))) (pss_cons (ps_if (pt_cmpR op_isNone (pv 5) pe_non (nomark _)) (pss_one (ps_ret (pe_lst (pa_cons (pe_gint T.g_NO_RESULT rfl) pa_nil)))) pss_nil) (pss_one (ps_ret (pe_op op_cat (pe_op op_cat (pe_lst (pa_cons pe_int pa_nil)) (pe_callTy (cr_listK (K := K) rfl) rfl T.b_list (by decide +kernel) (pa_cons (pe_kn (kn_estimate_of T) (hr.mono (by decide)) rfl (pa_cons (pv 3) (pa_cons (pv 4) pa_nil))) pa_nil))) (pe_callTy (cr_listK (K := K) rfl) rfl T.b_list (by decide +kernel) (pa_cons (pe_kn (kn_plus T) (hr.mono (by decide)) rfl (pa_cons (pe_gref T.g_ONE rfl) (pa_cons (pv 5) pa_nil))) pa_nil)))))))))), fun vs G y D e h k => ?_⟩
  obtain ⟨v1, v2, v3, m, ns, ls, rfl, h1, h2, h3, ⟨g, v, rfl, hl⟩, rfl⟩ := h
  refine st_set (A := ModelR K a) (x := m) e (ev_model T (ev_var rfl h1)) fun u1 H1 G1 o1 r1 => ?_
  refine st_set (A := RowR) (x := v) o1.kn (ev_ix (n := 0) rfl rfl (ev_var rfl (TabR.st o1.up h3)) ev_int) fun u2 H2 G2 o2 r2 => ?_
  have hm2 := (ModelR K a).st o2.up r1
  have o12 := o1.trans o2
  refine st_when o2.kn (et_not (et_B (ev_call2 (ev_var rfl hm2) (ev_var rfl r2) (by omega)))) (fun hb H3 e3 => ?_) (fun hb H3 e3 => ?_)
  · refine st_ret (A := RowR) (x := [-22]) (o2.kn.trans e3) (ev_one ev_int) fun u H4 G4 o4 ru => k u H4 G4 ((o12.trans (Ok.grow o2.kn e3)).trans o4) ?_
    have e1 : LF.tellPredict m v = [-22] := if_pos (by simpa using hb)
    show RowR.R G4 u (LF.tellPredict m v)
    rw [e1]
    exact ru
  · have hb : Kxd4.isRow m v = true := by simpa using hb
    have V := vec_of hb
    have e1 : LF.tellPredict m v = match LF.factorM m v v with
      | none => [-33]
      | some f => 0 :: (LF.listP (LF.estimateM m v) ++ LF.listP (LF.plusP (1, 1) f)) := if_neg (by rw [hb]; exact fun z => by cases z)
    have o3 := o12.trans (Ok.grow o2.kn e3)
    refine st_set (A := OptR (PrR K)) (x := LF.factorM m v v) o3.kn (ev_call3 (ev_var rfl hm2) (ev_var rfl r2) (ev_var rfl r2) ⟨g, V, V⟩) fun u5 H5 G5 o5 r5 => ?_
    have o35 := o3.trans o5
    refine st_when o5.kn (et_test (ev_isN (ev_var rfl r5))) (fun hc H6 e6 => ?_) (fun hc H6 e6 => ?_)
    · refine st_ret (A := RowR) (x := [-33]) (o5.kn.trans e6) (ev_one ev_int) fun u H7 G7 o7 ru => k u H7 G7 ((o35.trans (Ok.grow o5.kn e6)).trans o7) ?_
      show RowR.R G7 u (LF.tellPredict m v)
      rw [e1, Option.isNone_iff_eq_none.mp hc]
      exact ru
    · obtain ⟨f, hf⟩ : ∃ f, LF.factorM m v v = some f := by
        cases q : LF.factorM m v v with
        | none => rw [q] at hc; cases hc
        | some f => exact ⟨f, rfl⟩
      have ff := (fac_frb g V V hf).fr (by decide) (by decide)
      rw [hf] at r5
      refine st_ret (A := RowR) (o5.kn.trans e6) (ev_told2 (ev_call2 (ev_var rfl ((ModelR K a).st o5.up hm2)) (ev_var rfl (RowR.st o5.up r2)) ⟨g, V⟩) (ev_call2 (ev_c (oneR T)) (ev_var (A := PrR K) rfl r5.2) ⟨⟨sm_of (n := 1) (by decide) (by decide), sm_of (n := 1) (by decide) (by decide), by decide⟩, ff⟩)) fun u H7 G7 o7 ru => k u H7 G7 ((o35.trans (Ok.grow o5.kn e6)).trans o7) ?_
      show RowR.R G7 u (LF.tellPredict m v)
      rw [e1, hf]
      exact ru
end
end LW

set_option linter.all false
set_option Elab.async false
set_option maxRecDepth 100000
set_option maxHeartbeats 4000000
namespace LW
open PySem PySem.Spec PyProof.Rows L2
open Evl (Ex)
section
variable {P : Program} {w : World} {K : PySem.W.Frag} {mg : Str → Option Value} {base : Heap} {a : Ad}
theorem frOne : Fr ((1 : Int), (1 : Int)) := ⟨sm_of (n := 1) (by decide) (by decide), sm_of (n := 1) (by decide) (by decide), by decide⟩
theorem som {α : Type} {o : Option α} (h : o.isNone = false) : ∃ f, o = some f := by
  cases o with
  | none => cases h
  | some f => exact ⟨f, rfl⟩
theorem est_ok {m : Kxd4.Model} {v : List Int} (V : Vec m v) (g : LF.Good m) (h : LF.estimableM m v = true) {u : List Int} : ∃ f, LF.factorM m u v = some f := by
  unfold LF.estimableM at h
  obtain ⟨s, hs⟩ := Option.isSome_iff_exists.mp h
  exact ⟨LF.weighed u s, by unfold LF.factorM; rw [hs]; rfl⟩
theorem sc_tell_covariance : FnScope ["desk", "numbers", "lists", "model", "first", "second"] ["desk", "numbers", "lists"] (defScope (top 87)) := ⟨rfl, rfl, rfl, by decide +kernel, rfl, by decide +kernel, by decide +kernel⟩
theorem kn_tell_covariance (T : Wd P w K mg base a) : Kn P w K mg base 60 "tell_covariance" (Tell K a (fun m _ ls => LF.Good m ∧ L2' ls) fun m _ ls => LF.tellCov m (ls.getD 0 []) (ls.getD 1 [])) := by
  refine T.d_tell_covariance.kn sc_tell_covariance (fun _ _ _ _ _ _ us hl => match us, hl with | [_, _, _], _ => rfl) (fun G vs y ⟨_, _, _, _, _, _, h, _⟩ => by rw [h]; rfl) fun cdv f A outer s H E hr => ⟨_, (pss_cons (ps_set (i := 3) sc_tell_covariance.nd rfl (Or.inl rfl) (pe_fldK (K := K) rfl (pv 0) rfl)) (pss_cons (ps_asg (pv 2) (pg_unlK (K := K) (n := 2) rfl rfl (pgs_cons (pg_name (i := 4) sc_tell_covariance.nd rfl (Or.inl rfl)) (pgs_cons (pg_name (i := 5) sc_tell_covariance.nd rfl (Or.inl rfl)) pgs_nil)))) (pss_cons (ps_if (PW.pt (pw_or (pt_not (pt_val (pe_kn (kn_is_vector T) (hr.mono (by decide)) rfl (pa_cons (pv 3) (pa_cons (pv 4) pa_nil))))) (pw_or1 (pt_not (pt_val (pe_kn (kn_is_vector T) (hr.mono (by decide)) rfl (pa_cons (pv 3) (pa_cons (pv 5) pa_nil)))))))) (pss_one (ps_ret (pe_lst (pa_cons (pe_gint T.g_OUT_OF_RANGE rfl) pa_nil)))) pss_nil) (pss_cons (ps_if (PW.pt (pw_or (pt_not (pt_val (pe_kn (kn_is_estimable T) (hr.mono (by decide)) rfl (pa_cons (pv 3) (pa_cons (pv 4) pa_nil))))) (pw_or1 (pt_not (pt_val (pe_kn (kn_is_estimable T) (hr.mono (by decide)) rfl (pa_cons (pv 3) (pa_cons (pv 5) pa_nil)))))))) (pss_one (ps_ret (pe_lst (pa_cons (pe_gint T.g_NO_RESULT rfl) pa_nil)))) pss_nil) (pss_one (ps_ret (pe_op op_cat (pe_lst (pa_cons pe_int pa_nil)) (pe_callTy (cr_listK (K := K) rfl) rfl T.b_list (by decide +kernel) (pa_cons (pe_kn (kn_factor_of T) (hr.mono (by decide)) rfl (pa_cons (pv 3) (pa_cons (pv 4) (pa_cons (pv 5) pa_nil)))) pa_nil))))))))), fun vs G y D e h k => ?_⟩
  obtain ⟨v1, v2, v3, m, ns, ls, rfl, h1, h2, h3, ⟨g, p, q, rfl, lp, lq⟩, rfl⟩ := h
  refine st_set (A := ModelR K a) (x := m) e (ev_model T (ev_var rfl h1)) fun u1 H1 G1 o1 r1 => ?_
  refine st_unp (A := TwoR RowR) (x := (p, q)) o1.kn (tg_unl 4 5 (by decide)) rfl (ev_var rfl (TabR.st o1.up h3)) fun σ2 H2 G2 o2 a2 ⟨f1, f2⟩ => ?_
  have hm2 : At (ModelR K a) 3 G2 σ2 m := ⟨u1, (a2.2 3 (by decide)).trans rfl, (ModelR K a).st o2.up r1⟩
  have o12 := o1.trans o2
  refine st_when o2.kn (et_or (et_not (et_B (ev_call2 hm2.ev f1.ev (by show p.length ≤ 100000; omega)))) fun _ => et_not (et_B (ev_call2 hm2.ev f2.ev (by show q.length ≤ 100000; omega)))) (fun hb H3 e3 => ?_) (fun hb H3 e3 => ?_)
  · refine st_ret (A := RowR) (x := [-22]) (o2.kn.trans e3) (ev_one ev_int) fun u H4 G4 o4 ru => k u H4 G4 ((o12.trans (Ok.grow o2.kn e3)).trans o4) ?_
    have e1 : LF.tellCov m p q = [-22] := if_pos (by simpa using hb)
    show RowR.R G4 u (LF.tellCov m p q)
    rw [e1]
    exact ru
  · have hp : Kxd4.isRow m p = true := by have := (Bool.or_eq_false_iff.mp hb).1; simpa using this
    have hq : Kxd4.isRow m q = true := by have := (Bool.or_eq_false_iff.mp hb).2; simpa using this
    have VP := vec_of hp
    have VQ := vec_of hq
    have o3 := o12.trans (Ok.grow o2.kn e3)
    have e1 : LF.tellCov m p q = if LF.estimableM m p = false ∨ LF.estimableM m q = false then [-33] else
        match LF.factorM m p q with
        | none => []
        | some f => 0 :: LF.listP f := if_neg (by rw [hp, hq]; simp)
    refine st_when (o2.kn.trans e3) (et_or (et_not (et_B (ev_call2 hm2.ev f1.ev ⟨g, VP⟩))) fun _ => et_not (et_B (ev_call2 hm2.ev f2.ev ⟨g, VQ⟩))) (fun hc H4 e4 => ?_) (fun hc H4 e4 => ?_)
    · refine st_ret (A := RowR) (x := [-33]) ((o2.kn.trans e3).trans e4) (ev_one ev_int) fun u H5 G5 o5 ru => k u H5 G5 ((o12.trans (Ok.grow o2.kn (e3.trans e4))).trans o5) ?_
      show RowR.R G5 u (LF.tellCov m p q)
      rw [e1, if_pos (by simpa using hc)]
      exact ru
    · have hp' : LF.estimableM m p = true := by have := (Bool.or_eq_false_iff.mp hc).1; simpa using this
      have hq' : LF.estimableM m q = true := by have := (Bool.or_eq_false_iff.mp hc).2; simpa using this
      obtain ⟨f, hf⟩ := est_ok VQ g hq' (u := p)
      refine st_ret (A := RowR) ((o2.kn.trans e3).trans e4) (ev_told1 ev_int ((ev_call3 hm2.ev f1.ev f2.ev ⟨g, VP, VQ⟩).as (B := PrR K) (y := f) fun v H2 _ r => by rw [hf] at r; exact r.2)) fun u H5 G5 o5 ru => k u H5 G5 ((o12.trans (Ok.grow o2.kn (e3.trans e4))).trans o5) ?_
      show RowR.R G5 u (LF.tellCov m p q)
      rw [e1, if_neg (by rw [hp', hq']; simp), hf]
      exact ru
theorem pair_num {q : Rat} (h : LF.pairQ q ≠ (0, 1)) : (LF.pairQ q).1 ≠ 0 := LF.pairQ_num_ne fun z => h ((LF.zeroP q).mpr z)
theorem var_num {m : Kxd4.Model} (g : LF.Good m) (h0 : LF.freedomM m ≠ 0) (h : LF.residM m ≠ (0, 1)) : (LF.varianceM m).1 ≠ 0 := by
  rw [g.variance h0]
  refine LF.pairQ_num_ne fun z => h ?_
  rw [g.resid]
  refine (LF.zeroP _).mpr ?_
  have hf : (LF.freedomM m : Rat) ≠ 0 := LF.castne h0
  have e := Rat.div_mul_cancel (a := LF.resQ m) hf
  rw [z, Rat.zero_mul] at e
  exact e.symm
theorem fac_q {m : Kxd4.Model} {u v : List Int} {f : Int × Int} (g : LF.Good m) (U : Vec m u) (V : Vec m v) (h : LF.factorM m u v = some f) : ∃ q, f = LF.pairQ q := by
  rw [g.factor U.len V.len] at h
  split at h
  · exact ⟨_, (Option.some.inj h).symm⟩
  · cases h
theorem sc_tell_squared_ratio : FnScope ["desk", "numbers", "lists", "model", "vector", "factor", "estimate"] ["desk", "numbers", "lists"] (defScope (top 88)) := ⟨rfl, rfl, rfl, by decide +kernel, rfl, by decide +kernel, by decide +kernel⟩
theorem kn_tell_squared_ratio (T : Wd P w K mg base a) : Kn P w K mg base 60 "tell_squared_ratio" (Tell K a (fun m _ ls => LF.Good m ∧ L1 ls) fun m _ ls => LF.tellSq m (ls.getD 0 [])) := by
  refine T.d_tell_squared_ratio.kn sc_tell_squared_ratio (fun _ _ _ _ _ _ us hl => match us, hl with | [_, _, _], _ => rfl) (fun G vs y ⟨_, _, _, _, _, _, h, _⟩ => by rw [h]; rfl) fun cdv f A outer s H E hr => ⟨_, (pss_cons (ps_set (i := 3) sc_tell_squared_ratio.nd rfl (Or.inl rfl) (pe_fldK (K := K) rfl (pv 0) rfl)) (pss_cons (ps_set (i := 4) sc_tell_squared_ratio.nd rfl (Or.inl rfl) (pe_ix (ix_listK (K := K) rfl) (pv 2) pe_int (fun _ _ => rfl))) (pss_cons (ps_if (pt_not (pt_val (pe_kn (kn_is_vector T) (hr.mono (by decide)) rfl (pa_cons (pv 3) (pa_cons (pv 4) pa_nil))))) (pss_one (ps_ret (pe_lst (pa_cons (pe_gint T.g_OUT_OF_RANGE rfl) pa_nil)))) pss_nil) (pss_cons (ps_set (i := 5) sc_tell_squared_ratio.nd rfl (Or.inl rfl) (pe_kn (kn_factor_of T) (hr.mono (by decide)) rfl (pa_cons (pv 3) (pa_cons (pv 4) (pa_cons (pv 4) pa_nil))))) (pss_cons (ps_if (PW.pt (pw_or (pt_cmpR op_isNone (pv 5) pe_non (nomark _)) (pw_or (pt_cmpR (op_eqDK (K := K) rfl hr.units) (pv 5) (pe_gref T.g_ZERO rfl) (nomark _)) (pw_or (pt_cmpR op_eq (pe_kn (kn_freedom T) (hr.mono (by decide)) rfl (pa_cons (pv 3) pa_nil)) pe_int (nomark _)) (pw_or1 (pt_cmpR (op_eqDK (K := K) rfl hr.units) (pe_kn (kn_residual_sum T) (hr.mono (by decide)) rfl (pa_cons (pv 3) pa_nil)) (pe_gref T.g_ZERO rfl) (nomark _))))))) (pss_one (ps_ret (pe_lst (pa_cons (pe_gint T.g_NO_RESULT rfl) pa_nil)))) pss_nil) (pss_cons (ps_set (i := 6) sc_tell_squared_ratio.nd rfl (Or.inl rfl) (pe_kn (kn_estimate_of T) (hr.mono (by decide)) rfl (pa_cons (pv 3) (pa_cons (pv 4) pa_nil)))) (pss_one (ps_ret (pe_op op_cat (pe_lst (pa_cons pe_int pa_nil)) (pe_callTy (cr_listK (K := K) rfl) rfl T.b_list (by decide +kernel) (pa_cons (pe_kn (kn_over T) (hr.mono (by decide)) rfl (pa_cons (pe_kn (kn_over T) (hr.mono (by decide)) rfl (pa_cons (pe_kn (kn_times T) (hr.mono (by decide)) rfl (pa_cons (pv 6) (pa_cons (pv 6) pa_nil))) (pa_cons (pe_kn (kn_variance_of T) (hr.mono (by decide)) rfl (pa_cons (pv 3) pa_nil)) pa_nil))) (pa_cons (pv 5) pa_nil))) pa_nil))))))))))), fun vs G y D e h k => ?_⟩
  obtain ⟨v1, v2, v3, m, ns, ls, rfl, h1, h2, h3, ⟨g, v, rfl, hl⟩, rfl⟩ := h
  refine st_set (A := ModelR K a) (x := m) e (ev_model T (ev_var rfl h1)) fun u1 H1 G1 o1 r1 => ?_
  refine st_set (A := RowR) (x := v) o1.kn (ev_ix (n := 0) rfl rfl (ev_var rfl (TabR.st o1.up h3)) ev_int) fun u2 H2 G2 o2 r2 => ?_
  have hm2 := (ModelR K a).st o2.up r1
  have o12 := o1.trans o2
  refine st_when o2.kn (et_not (et_B (ev_call2 (ev_var rfl hm2) (ev_var rfl r2) (by omega)))) (fun hb H3 e3 => ?_) (fun hb H3 e3 => ?_)
  · refine st_ret (A := RowR) (x := [-22]) (o2.kn.trans e3) (ev_one ev_int) fun u H4 G4 o4 ru => k u H4 G4 ((o12.trans (Ok.grow o2.kn e3)).trans o4) ?_
    have e1 : LF.tellSq m v = [-22] := if_pos (by simpa using hb)
    show RowR.R G4 u (LF.tellSq m v)
    rw [e1]
    exact ru
  · have hb : Kxd4.isRow m v = true := by simpa using hb
    have V := vec_of hb
    have e1 : LF.tellSq m v = match LF.factorM m v v with
      | none => [-33]
      | some f => if f = (0, 1) ∨ LF.freedomM m = 0 ∨ LF.residM m = (0, 1) then [-33] else 0 :: LF.listP (LF.overP (LF.overP (LF.timesP (LF.estimateM m v) (LF.estimateM m v)) (LF.varianceM m)) f) := if_neg (by rw [hb]; exact fun z => by cases z)
    have o3 := o12.trans (Ok.grow o2.kn e3)
    refine st_set (A := OptR (PrR K)) (x := LF.factorM m v v) o3.kn (ev_call3 (ev_var rfl hm2) (ev_var rfl r2) (ev_var rfl r2) ⟨g, V, V⟩) fun u5 H5 G5 o5 r5 => ?_
    have o35 := o3.trans o5
    have hm5 := (ModelR K a).st o5.up hm2
    refine st_when (b := (LF.factorM m v v).isNone || (decide ((LF.factorM m v v).getD (0, 1) = (0, 1)) || (decide (LF.freedomM m = 0) || decide (LF.residM m = (0, 1))))) o5.kn
      (et_or (et_test (ev_isN (ev_var rfl r5))) fun hn => et_or (et_test (ev_eqPair (q := (0, 1)) T.t_zero (ev_var (A := PrR K) rfl (by
        obtain ⟨f, hf⟩ := som hn
        rw [hf] at r5 ⊢
        exact r5.2)))) fun _ => et_or (et_test (ev_eqI (ev_call1 (ev_var rfl hm5) g) ev_int)) fun _ => et_test (ev_eqPair (q := (0, 1)) T.t_zero (ev_call1 (ev_var rfl hm5) g))) (fun hc H6 e6 => ?_) (fun hc H6 e6 => ?_)
    · refine st_ret (A := RowR) (x := [-33]) (o5.kn.trans e6) (ev_one ev_int) fun u H7 G7 o7 ru => k u H7 G7 ((o35.trans (Ok.grow o5.kn e6)).trans o7) ?_
      show RowR.R G7 u (LF.tellSq m v)
      rw [e1]
      cases q : LF.factorM m v v with
      | none => exact ru
      | some f =>
        simp only
        rw [if_pos ?_]
        · exact ru
        · rw [q] at hc
          simpa using hc
    · obtain ⟨c1, c2⟩ := Bool.or_eq_false_iff.mp hc
      obtain ⟨c2, c3⟩ := Bool.or_eq_false_iff.mp c2
      obtain ⟨c3, c4⟩ := Bool.or_eq_false_iff.mp c3
      obtain ⟨f, hf⟩ := som c1
      rw [hf] at c2 r5
      have c2 : f ≠ (0, 1) := of_decide_eq_false c2
      have c3 := of_decide_eq_false c3
      have c4 := of_decide_eq_false c4
      have eb := est_frb g V
      have vb := var_frb g c3
      have vn := var_num g c3 c4
      have fb := fac_frb g V V hf
      have fn : f.1 ≠ 0 := by
        obtain ⟨q, rfl⟩ := fac_q g V V hf
        exact pair_num c2
      have tb := times_frb eb eb
      have ob := over_frb tb vb vn
      have o6 := o35.trans (Ok.grow o5.kn e6)
      have r5' : (PrR K).R G5 u5 f := r5.2
      refine st_set (A := PrR K) (x := LF.estimateM m v) (o5.kn.trans e6) (ev_call2 (ev_var rfl hm5) (ev_var rfl (RowR.st o5.up r2)) ⟨g, V⟩) fun u7 H7 G7 o7 r7 => ?_
      refine st_ret (A := RowR) o7.kn (ev_told1 ev_int (ev_call2 (ev_call2 (ev_call2 (ev_var rfl r7) (ev_var rfl r7) ⟨eb.fr (by decide) (by decide), eb.fr (by decide) (by decide)⟩) (ev_call1 (ev_var rfl ((ModelR K a).st o7.up hm5)) ⟨g, c3⟩) ⟨tb.fr (by decide) (by decide), vb.fr (by decide) (by decide), vn⟩) (ev_var rfl ((PrR K).st o7.up r5')) ⟨ob.fr (by decide) (by decide), fb.fr (by decide) (by decide), fn⟩)) fun u H8 G8 o8 ru => k u H8 G8 ((o6.trans o7).trans o8) ?_
      show RowR.R G8 u (LF.tellSq m v)
      rw [e1, hf]
      simp only
      rw [if_neg (fun z => z.elim c2 fun z => z.elim c3 c4)]
      exact ru
/-! ## observations -/
def obsD (m : Kxd4.Model) (i : Nat) : Kxd4.Observation := (m.data[i]?).getD ⟨[], 0⟩
theorem obs_at {m : Kxd4.Model} {i : Nat} (h : i < m.data.length) : m.data[i]? = some (obsD m i) := by
  unfold obsD
  rw [List.getElem?_eq_getElem h]
  rfl
theorem obs_mem {m : Kxd4.Model} {i : Nat} (h : i < m.data.length) : obsD m i ∈ m.data := List.mem_of_getElem? (obs_at h)
theorem rows_at {m : Kxd4.Model} {i : Nat} (h : i < m.data.length) : (m.data.map rowP)[i]? = some (rowP (obsD m i)) := by
  rw [List.getElem?_map, obs_at h]
  rfl
def fittedM (m : Kxd4.Model) (i : Nat) : (Int × Int) × (Int × Int) := (LF.estimateM m (obsD m i).row, LF.minusP ((obsD m i).response, 1) (LF.estimateM m (obsD m i).row))
def levM (m : Kxd4.Model) (i : Nat) : Int × Int := (LF.factorM m (obsD m i).row (obsD m i).row).getD (0, 1)
def Idx (m : Kxd4.Model) (i : Nat) : Prop := LF.Good m ∧ i < m.data.length
theorem resp_fr {m : Kxd4.Model} (g : LF.Good m) {o : Kxd4.Observation} (ho : o ∈ m.data) : FrB 20 1 (o.response, 1) := ⟨bn20 (g.resp o ho), by show 1 < 2 ^ 1; decide, by show (1 : Int) ≠ 0; decide⟩
theorem sc_fitted_at : FnScope ["model", "index", "response", "entries", "value"] ["model", "index"] (defScope (top 89)) := ⟨rfl, rfl, rfl, by decide +kernel, rfl, by decide +kernel, by decide +kernel⟩
theorem kn_fitted_at (T : Wd P w K mg base a) : Kn P w K mg base 51 "fitted_at" (FnS (PairR K (PrR K) (PrR K)) (Pre2 (ModelR K a) NatR Idx fittedM)) := by
  refine T.d_fitted_at.kn sc_fitted_at (fun _ _ _ _ _ _ us hl => match us, hl with | [_, _], _ => rfl) (fun G vs y ⟨v, w, _, _, h, _⟩ => by rw [h]; rfl) fun cdv f A outer s H E hr => ⟨_, (pss_cons (ps_asg (pe_ix (ix_listK (K := K) rfl) (pe_fldK (K := K) rfl (pv 0) rfl) (pv 1) (fun _ _ => rfl)) (pg_tupK (K := K) (n := 2) rfl rfl (pgs_cons (pg_name (i := 2) sc_fitted_at.nd rfl (Or.inl rfl)) (pgs_cons (pg_name (i := 3) sc_fitted_at.nd rfl (Or.inl rfl)) pgs_nil)))) (pss_cons (ps_set (i := 4) sc_fitted_at.nd rfl (Or.inl rfl) (pe_kn (kn_estimate_of T) (hr.mono (by decide)) rfl (pa_cons (pv 0) (pa_cons (pv 3) pa_nil)))) (pss_one (ps_ret (pe_tup (pa_cons (pv 4) (pa_cons (pe_kn (kn_minus T) (hr.mono (by decide)) rfl (pa_cons (pe_tup (pa_cons (pv 2) (pa_cons pe_int pa_nil))) (pa_cons (pv 4) pa_nil))) pa_nil))))))), fun vs G y D e h k => ?_⟩
  obtain ⟨v1, v2, m, i, rfl, hm, hi, ⟨g, hi'⟩, rfl⟩ := h
  have ho := obs_mem hi'
  have V := vec_row g ho
  refine st_unp (A := PairR K IntR RowR) (x := rowP (obsD m i)) e (tg_pair 2 3 (by decide)) rfl (ev_ix (n := i) rfl (rows_at hi') (ev_rows T (ev_var rfl hm)) (ev_var rfl (show IntR.R G v2 (i : Int) from hi))) fun σ2 H2 G2 o2 a2 ⟨f1, f2⟩ => ?_
  have l2 : σ2.length = 5 := a2.1
  have hm2 : EV (tVar 0) σ2 G2 (ModelR K a) m := ev_var ((a2.2 0 (by decide)).trans rfl) ((ModelR K a).st o2.up hm)
  refine st_set (A := PrR K) (x := LF.estimateM m (obsD m i).row) o2.kn (ev_call2 hm2 f2.ev ⟨g, V⟩) fun u3 H3 G3 o3 r3 => ?_
  have f13 := (f1.mono o3.up).put (k := 4) (v := some u3) (by decide)
  have hv : At (PrR K) 4 G3 (σ2.set 4 (some u3)) (LF.estimateM m (obsD m i).row) := At.set (by omega) r3
  exact st_ret o3.kn (ev_pair hv.ev (ev_call2 (ev_pair f13.ev ev_int) hv.ev ⟨(resp_fr g ho).fr (by decide) (by decide), (est_frb g V).fr (by decide) (by decide)⟩)) fun u H4 G4 o4 ru => k u H4 G4 ((o2.trans o3).trans o4) ru
theorem lev_some {m : Kxd4.Model} {i : Nat} (g : LF.Good m) (h : i < m.data.length) : LF.factorM m (obsD m i).row (obsD m i).row = some (levM m i) := by
  unfold levM
  rw [g.row_factor (obs_mem h)]
  rfl
theorem sc_leverage_at : FnScope ["model", "index", "response", "entries"] ["model", "index"] (defScope (top 90)) := ⟨rfl, rfl, rfl, by decide +kernel, rfl, by decide +kernel, by decide +kernel⟩
theorem kn_leverage_at (T : Wd P w K mg base a) : Kn P w K mg base 51 "leverage_at" (FnS (PrR K) (Pre2 (ModelR K a) NatR Idx levM)) := by
  refine T.d_leverage_at.kn sc_leverage_at (fun _ _ _ _ _ _ us hl => match us, hl with | [_, _], _ => rfl) (fun G vs y ⟨v, w, _, _, h, _⟩ => by rw [h]; rfl) fun cdv f A outer s H E hr => ⟨_, (pss_cons (ps_asg (pe_ix (ix_listK (K := K) rfl) (pe_fldK (K := K) rfl (pv 0) rfl) (pv 1) (fun _ _ => rfl)) (pg_tupK (K := K) (n := 2) rfl rfl (pgs_cons (pg_name (i := 2) sc_leverage_at.nd rfl (Or.inl rfl)) (pgs_cons (pg_name (i := 3) sc_leverage_at.nd rfl (Or.inl rfl)) pgs_nil)))) (pss_one (ps_ret (pe_kn (kn_factor_of T) (hr.mono (by decide)) rfl (pa_cons (pv 0) (pa_cons (pv 3) (pa_cons (pv 3) pa_nil))))))), fun vs G y D e h k => ?_⟩
  obtain ⟨v1, v2, m, i, rfl, hm, hi, ⟨g, hi'⟩, rfl⟩ := h
  have ho := obs_mem hi'
  have V := vec_row g ho
  refine st_unp (A := PairR K IntR RowR) (x := rowP (obsD m i)) e (tg_pair 2 3 (by decide)) rfl (ev_ix (n := i) rfl (rows_at hi') (ev_rows T (ev_var rfl hm)) (ev_var rfl (show IntR.R G v2 (i : Int) from hi))) fun σ2 H2 G2 o2 a2 ⟨f1, f2⟩ => ?_
  have hm2 : EV (tVar 0) σ2 G2 (ModelR K a) m := ev_var ((a2.2 0 (by decide)).trans rfl) ((ModelR K a).st o2.up hm)
  exact st_ret o2.kn ((ev_call3 hm2 f2.ev f2.ev ⟨g, V, V⟩).as (B := PrR K) (y := levM m i) fun v H2 _ r => by
    rw [show LF.factorM m (rowP (obsD m i)).2 (rowP (obsD m i)).2 = some (levM m i) from lev_some g hi'] at r
    exact r.2) fun u H4 G4 o4 ru => k u H4 G4 (o2.trans o4) ru
theorem isIndex_nat (m : Kxd4.Model) (i : Nat) : isIndex m (i : Int) = decide (i < m.data.length) := by
  unfold isIndex
  rw [decide_eq_true (show (0 : Int) ≤ (i : Int) by omega), Bool.true_and, decide_eq_decide]
  omega
theorem data_none {m : Kxd4.Model} {i : Nat} (h : ¬ i < m.data.length) : m.data[i]? = none := List.getElem?_eq_none (by omega)
section
variable {σ : L2.St} {H : Hp} {ta : TE} {i : Nat}
theorem ev_num0 {ns : List Int} {n : Int} (h : EV ta σ H RowR [n]) : EV (tOp (rIxL K) ta (tC (.int 0))) σ H IntR n := ev_ix (n := 0) rfl rfl h ev_int
theorem ev_num0N (h : EV ta σ H RowR [(i : Int)]) : EV (tOp (rIxL K) ta (tC (.int 0))) σ H NatR i := (ev_num0 (ns := []) h).as fun v H2 _ r => r
end
theorem sc_tell_fitted : FnScope ["desk", "numbers", "lists", "value", "residual"] ["desk", "numbers", "lists"] (defScope (top 91)) := ⟨rfl, rfl, rfl, by decide +kernel, rfl, by decide +kernel, by decide +kernel⟩
theorem kn_tell_fitted (T : Wd P w K mg base a) : Kn P w K mg base 60 "tell_fitted" (Tell K a (fun m ns _ => LF.Good m ∧ One1 ns) fun m ns _ => LF.tellFitted m (ns.getD 0 0).toNat) := by
  refine T.d_tell_fitted.kn sc_tell_fitted (fun _ _ _ _ _ _ us hl => match us, hl with | [_, _, _], _ => rfl) (fun G vs y ⟨_, _, _, _, _, _, h, _⟩ => by rw [h]; rfl) fun cdv f A outer s H E hr => ⟨_, (pss_cons (ps_if (pt_not (pt_val (pe_kn (kn_is_index T) (hr.mono (by decide)) rfl (pa_cons (pe_fldK (K := K) rfl (pv 0) rfl) (pa_cons (pe_ix (ix_listK (K := K) rfl) (pv 1) pe_int (fun _ _ => rfl)) pa_nil))))) (pss_one (ps_ret (pe_lst (pa_cons (pe_gint T.g_NO_SUCH rfl) pa_nil)))) pss_nil) (pss_cons (ps_asg (pe_kn (kn_fitted_at T) (hr.mono (by decide)) rfl (pa_cons (pe_fldK (K := K) rfl (pv 0) rfl) (pa_cons (pe_ix (ix_listK (K := K) rfl) (pv 1) pe_int (fun _ _ => rfl)) pa_nil))) (pg_tupK (K := K) (n := 2) rfl rfl (pgs_cons (pg_name (i := 3) sc_tell_fitted.nd rfl (Or.inl rfl)) (pgs_cons (pg_name (i := 4) sc_tell_fitted.nd rfl (Or.inl rfl)) pgs_nil)))) (pss_one (ps_ret (pe_op op_cat (pe_op op_cat (pe_lst (pa_cons pe_int pa_nil)) (pe_callTy (cr_listK (K := K) rfl) rfl T.b_list (by decide +kernel) (pa_cons (pv 3) pa_nil))) (pe_callTy (cr_listK (K := K) rfl) rfl T.b_list (by decide +kernel) (pa_cons (pv 4) pa_nil))))))), fun vs G y D e h k => ?_⟩
  obtain ⟨v1, v2, v3, m, ns, ls, rfl, h1, h2, h3, ⟨g, i, rfl⟩, rfl⟩ := h
  have hm := ev_model T (ev_var (σ := start ["desk", "numbers", "lists", "value", "residual"] [v1, v2, v3]) (i := 0) rfl h1)
  have hn : EV (tVar 1) (start ["desk", "numbers", "lists", "value", "residual"] [v1, v2, v3]) G RowR [(i : Int)] := ev_var rfl h2
  refine st_when e (et_not (et_B (ev_call2 hm (ev_num0 (ns := []) hn) trivial))) (fun hb H3 e3 => ?_) (fun hb H3 e3 => ?_)
  · rw [isIndex_nat] at hb
    have hb : ¬ i < m.data.length := by simpa using hb
    refine st_ret (A := RowR) (x := [-2]) (e.trans e3) (ev_one ev_int) fun u H4 G4 o4 ru => k u H4 G4 ((Ok.grow e e3).trans o4) ?_
    show RowR.R G4 u (LF.tellFitted m i)
    unfold LF.tellFitted
    rw [data_none hb]
    exact ru
  · rw [isIndex_nat] at hb
    have hb : i < m.data.length := by simpa using hb
    refine st_unp (A := PairR K (PrR K) (PrR K)) (x := fittedM m i) (e.trans e3) (tg_pair 3 4 (by decide)) rfl (ev_call2 hm (ev_num0N hn) ⟨g, hb⟩) fun σ2 H2 G2 o2 a2 ⟨f1, f2⟩ => ?_
    refine st_ret (A := RowR) o2.kn (ev_told2 f1.ev f2.ev) fun u H4 G4 o4 ru => k u H4 G4 (((Ok.grow e e3).trans o2).trans o4) ?_
    show RowR.R G4 u (LF.tellFitted m i)
    unfold LF.tellFitted
    rw [obs_at hb]
    exact ru
theorem sc_tell_leverage : FnScope ["desk", "numbers", "lists"] ["desk", "numbers", "lists"] (defScope (top 92)) := ⟨rfl, rfl, rfl, by decide +kernel, rfl, by decide +kernel, by decide +kernel⟩
theorem kn_tell_leverage (T : Wd P w K mg base a) : Kn P w K mg base 60 "tell_leverage" (Tell K a (fun m ns _ => LF.Good m ∧ One1 ns) fun m ns _ => LF.tellLeverage m (ns.getD 0 0).toNat) := by
  refine T.d_tell_leverage.kn sc_tell_leverage (fun _ _ _ _ _ _ us hl => match us, hl with | [_, _, _], _ => rfl) (fun G vs y ⟨_, _, _, _, _, _, h, _⟩ => by rw [h]; rfl) fun cdv f A outer s H E hr => ⟨_, (pss_cons (ps_if (pt_not (pt_val (pe_kn (kn_is_index T) (hr.mono (by decide)) rfl (pa_cons (pe_fldK (K := K) rfl (pv 0) rfl) (pa_cons (pe_ix (ix_listK (K := K) rfl) (pv 1) pe_int (fun _ _ => rfl)) pa_nil))))) (pss_one (ps_ret (pe_lst (pa_cons (pe_gint T.g_NO_SUCH rfl) pa_nil)))) pss_nil) (pss_one (ps_ret (pe_op op_cat (pe_lst (pa_cons pe_int pa_nil)) (pe_callTy (cr_listK (K := K) rfl) rfl T.b_list (by decide +kernel) (pa_cons (pe_kn (kn_leverage_at T) (hr.mono (by decide)) rfl (pa_cons (pe_fldK (K := K) rfl (pv 0) rfl) (pa_cons (pe_ix (ix_listK (K := K) rfl) (pv 1) pe_int (fun _ _ => rfl)) pa_nil))) pa_nil)))))), fun vs G y D e h k => ?_⟩
  obtain ⟨v1, v2, v3, m, ns, ls, rfl, h1, h2, h3, ⟨g, i, rfl⟩, rfl⟩ := h
  have hm := ev_model T (ev_var (σ := start ["desk", "numbers", "lists"] [v1, v2, v3]) (i := 0) rfl h1)
  have hn : EV (tVar 1) (start ["desk", "numbers", "lists"] [v1, v2, v3]) G RowR [(i : Int)] := ev_var rfl h2
  refine st_when e (et_not (et_B (ev_call2 hm (ev_num0 (ns := []) hn) trivial))) (fun hb H3 e3 => ?_) (fun hb H3 e3 => ?_)
  · rw [isIndex_nat] at hb
    have hb : ¬ i < m.data.length := by simpa using hb
    refine st_ret (A := RowR) (x := [-2]) (e.trans e3) (ev_one ev_int) fun u H4 G4 o4 ru => k u H4 G4 ((Ok.grow e e3).trans o4) ?_
    show RowR.R G4 u (LF.tellLeverage m i)
    unfold LF.tellLeverage
    rw [data_none hb]
    exact ru
  · rw [isIndex_nat] at hb
    have hb : i < m.data.length := by simpa using hb
    refine st_ret (A := RowR) (e.trans e3) (ev_told1 ev_int (ev_call2 hm (ev_num0N hn) ⟨g, hb⟩)) fun u H4 G4 o4 ru => k u H4 G4 ((Ok.grow e e3).trans o4) ?_
    show RowR.R G4 u (LF.tellLeverage m i)
    unfold LF.tellLeverage
    rw [obs_at hb]
    simp only
    rw [lev_some g hb]
    exact ru
theorem lev_frb {m : Kxd4.Model} {i : Nat} (g : LF.Good m) (h : i < m.data.length) : FrB 94513 84000 (levM m i) := fac_frb g (vec_row g (obs_mem h)) (vec_row g (obs_mem h)) (lev_some g h)
theorem one_frb : FrB 1 1 ((1 : Int), (1 : Int)) := ⟨by decide, by decide, by decide⟩
theorem lev_num {m : Kxd4.Model} {i : Nat} (g : LF.Good m) (h : i < m.data.length) (h1 : levM m i ≠ (1, 1)) : (LF.minusP (1, 1) (levM m i)).1 ≠ 0 := by
  obtain ⟨q, hq⟩ := fac_q g (vec_row g (obs_mem h)) (vec_row g (obs_mem h)) (lev_some g h)
  rw [hq] at h1 ⊢
  have e1 : ((1 : Int), (1 : Int)) = LF.pairQ 1 := ((LF.oneP 1).mpr rfl).symm
  rw [e1, LF.minusP_eq]
  refine LF.pairQ_num_ne fun z => h1 ((LF.oneP q).mpr ?_)
  grind
theorem sc_tell_deleted : FnScope ["desk", "numbers", "lists", "leverage", "value", "residual"] ["desk", "numbers", "lists"] (defScope (top 93)) := ⟨rfl, rfl, rfl, by decide +kernel, rfl, by decide +kernel, by decide +kernel⟩
theorem kn_tell_deleted (T : Wd P w K mg base a) : Kn P w K mg base 60 "tell_deleted" (Tell K a (fun m ns _ => LF.Good m ∧ One1 ns) fun m ns _ => LF.tellDeleted m (ns.getD 0 0).toNat) := by
  refine T.d_tell_deleted.kn sc_tell_deleted (fun _ _ _ _ _ _ us hl => match us, hl with | [_, _, _], _ => rfl) (fun G vs y ⟨_, _, _, _, _, _, h, _⟩ => by rw [h]; rfl) fun cdv f A outer s H E hr => ⟨_, (pss_cons (ps_if (pt_not (pt_val (pe_kn (kn_is_index T) (hr.mono (by decide)) rfl (pa_cons (pe_fldK (K := K) rfl (pv 0) rfl) (pa_cons (pe_ix (ix_listK (K := K) rfl) (pv 1) pe_int (fun _ _ => rfl)) pa_nil))))) (pss_one (ps_ret (pe_lst (pa_cons (pe_gint T.g_NO_SUCH rfl) pa_nil)))) pss_nil) (pss_cons (ps_set (i := 3) sc_tell_deleted.nd rfl (Or.inl rfl) (pe_kn (kn_leverage_at T) (hr.mono (by decide)) rfl (pa_cons (pe_fldK (K := K) rfl (pv 0) rfl) (pa_cons (pe_ix (ix_listK (K := K) rfl) (pv 1) pe_int (fun _ _ => rfl)) pa_nil)))) (pss_cons (ps_if (pt_cmpR (op_eqDK (K := K) rfl hr.units) (pv 3) (pe_gref T.g_ONE rfl) (nomark _)) (pss_one (ps_ret (pe_lst (pa_cons (pe_gint T.g_NO_RESULT rfl) pa_nil)))) pss_nil) (pss_cons (ps_asg (pe_kn (kn_fitted_at T) (hr.mono (by decide)) rfl (pa_cons (pe_fldK (K := K) rfl (pv 0) rfl) (pa_cons (pe_ix (ix_listK (K := K) rfl) (pv 1) pe_int (fun _ _ => rfl)) pa_nil))) (pg_tupK (K := K) (n := 2) rfl rfl (pgs_cons (pg_name (i := 4) sc_tell_deleted.nd rfl (Or.inl rfl)) (pgs_cons (pg_name (i := 5) sc_tell_deleted.nd rfl (Or.inl rfl)) pgs_nil)))) (pss_one (ps_ret (pe_op op_cat (pe_lst (pa_cons pe_int pa_nil)) (pe_callTy (cr_listK (K := K) rfl) rfl T.b_list (by decide +kernel) (pa_cons (pe_kn (kn_over T) (hr.mono (by decide)) rfl (pa_cons (pv 5) (pa_cons (pe_kn (kn_minus T) (hr.mono (by decide)) rfl (pa_cons (pe_gref T.g_ONE rfl) (pa_cons (pv 3) pa_nil))) pa_nil))) pa_nil))))))))), fun vs G y D e h k => ?_⟩
  obtain ⟨v1, v2, v3, m, ns, ls, rfl, h1, h2, h3, ⟨g, i, rfl⟩, rfl⟩ := h
  have hm := ev_model T (ev_var (σ := start ["desk", "numbers", "lists", "leverage", "value", "residual"] [v1, v2, v3]) (i := 0) rfl h1)
  have hn : EV (tVar 1) (start ["desk", "numbers", "lists", "leverage", "value", "residual"] [v1, v2, v3]) G RowR [(i : Int)] := ev_var rfl h2
  refine st_when e (et_not (et_B (ev_call2 hm (ev_num0 (ns := []) hn) trivial))) (fun hb H3 e3 => ?_) (fun hb H3 e3 => ?_)
  · rw [isIndex_nat] at hb
    have hb : ¬ i < m.data.length := by simpa using hb
    refine st_ret (A := RowR) (x := [-2]) (e.trans e3) (ev_one ev_int) fun u H4 G4 o4 ru => k u H4 G4 ((Ok.grow e e3).trans o4) ?_
    show RowR.R G4 u (LF.tellDeleted m i)
    unfold LF.tellDeleted
    rw [data_none hb]
    exact ru
  · rw [isIndex_nat] at hb
    have hb : i < m.data.length := by simpa using hb
    have o3 := Ok.grow e e3
    refine st_set (A := PrR K) (x := levM m i) (e.trans e3) (ev_call2 hm (ev_num0N hn) ⟨g, hb⟩) fun u4 H4 G4 o4 r4 => ?_
    have o34 := o3.trans o4
    have e1 : LF.tellDeleted m i = if levM m i = (1, 1) then [-33] else 0 :: LF.listP (LF.overP (fittedM m i).2 (LF.minusP (1, 1) (levM m i))) := by
      unfold LF.tellDeleted
      rw [obs_at hb]
      simp only
      rw [lev_some g hb]
      rfl
    refine st_when o4.kn (et_test (ev_eqPair (q := (1, 1)) T.t_one (ev_var rfl r4))) (fun hc H5 e5 => ?_) (fun hc H5 e5 => ?_)
    · refine st_ret (A := RowR) (x := [-33]) (o4.kn.trans e5) (ev_one ev_int) fun u H6 G6 o6 ru => k u H6 G6 ((o34.trans (Ok.grow o4.kn e5)).trans o6) ?_
      show RowR.R G6 u (LF.tellDeleted m i)
      rw [e1, if_pos (of_decide_eq_true hc)]
      exact ru
    · have hc := of_decide_eq_false hc
      have hm4 := ev_model T (ev_var (σ := (start ["desk", "numbers", "lists", "leverage", "value", "residual"] [v1, v2, v3]).set 3 (some u4)) (i := 0) rfl ((DeskR K a).st o34.up h1))
      have hn4 : EV (tVar 1) ((start ["desk", "numbers", "lists", "leverage", "value", "residual"] [v1, v2, v3]).set 3 (some u4)) G4 RowR [(i : Int)] := ev_var rfl (RowR.st o34.up h2)
      refine st_unp (A := PairR K (PrR K) (PrR K)) (x := fittedM m i) (o4.kn.trans e5) (tg_pair 4 5 (by decide)) rfl (ev_call2 hm4 (ev_num0N hn4) ⟨g, hb⟩) fun σ2 H6 G6 o6 a6 ⟨f1, f2⟩ => ?_
      have ho := obs_mem hb
      have fb : FrB 94515 84001 (fittedM m i).2 := (minus_frb (n := 94514) (resp_fr g ho) (est_frb g (vec_row g ho)) (by decide) (by decide)).mono (by decide) (by decide)
      have lb := lev_frb g hb
      have mb : FrB 94515 84001 (LF.minusP (1, 1) (levM m i)) := (minus_frb (n := 94514) one_frb lb (by decide) (by decide)).mono (by decide) (by decide)
      refine st_ret (A := RowR) o6.kn (ev_told1 ev_int (ev_call2 f2.ev (ev_call2 (ev_c (oneR T)) (ev_var (A := PrR K) ((a6.2 3 (by decide)).trans rfl) ((PrR K).st o6.up r4)) ⟨frOne, lb.fr (by decide) (by decide)⟩) ⟨fb.fr (by decide) (by decide), mb.fr (by decide) (by decide), lev_num g hb hc⟩)) fun u H7 G7 o7 ru => k u H7 G7 (((o34.trans (Ok.grow o4.kn e5)).trans o6).trans o7) ?_
      show RowR.R G7 u (LF.tellDeleted m i)
      rw [e1, if_neg hc]
      exact ru
end
end LW

set_option linter.all false
set_option Elab.async false
set_option maxRecDepth 100000
set_option maxHeartbeats 4000000
namespace LW
open PySem PySem.Spec PyProof.Rows L2
open Evl (Ex)
section
variable {P : Program} {w : World} {K : PySem.W.Frag} {mg : Str → Option Value} {base : Heap} {a : Ad}
theorem sc_tell_residual_sum : FnScope ["desk", "numbers", "lists"] ["desk", "numbers", "lists"] (defScope (top 94)) := ⟨rfl, rfl, rfl, by decide +kernel, rfl, by decide +kernel, by decide +kernel⟩
theorem kn_tell_residual_sum (T : Wd P w K mg base a) : Kn P w K mg base 60 "tell_residual_sum" (Tell K a (fun m _ _ => LF.Good m) fun m _ _ => LF.tellResid m) := by
  refine T.d_tell_residual_sum.kn sc_tell_residual_sum (fun _ _ _ _ _ _ us hl => match us, hl with | [_, _, _], _ => rfl) (fun G vs y ⟨_, _, _, _, _, _, h, _⟩ => by rw [h]; rfl) fun cdv f A outer s H E hr => ⟨_, (pss_one (ps_ret (pe_op op_cat (pe_lst (pa_cons (pe_kn (kn_freedom T) (hr.mono (by decide)) rfl (pa_cons (pe_fldK (K := K) rfl (pv 0) rfl) pa_nil)) pa_nil)) (pe_callTy (cr_listK (K := K) rfl) rfl T.b_list (by decide +kernel) (pa_cons (pe_kn (kn_residual_sum T) (hr.mono (by decide)) rfl (pa_cons (pe_fldK (K := K) rfl (pv 0) rfl) pa_nil)) pa_nil))))), fun vs G y D e h k => ?_⟩
  obtain ⟨v1, v2, v3, m, ns, ls, rfl, h1, h2, h3, g, rfl⟩ := h
  have hm := ev_model T (ev_var (σ := start ["desk", "numbers", "lists"] [v1, v2, v3]) (i := 0) rfl h1)
  exact st_ret e (ev_told1 (ev_call1 hm g) (ev_call1 hm g)) k
theorem sc_tell_variance : FnScope ["desk", "numbers", "lists"] ["desk", "numbers", "lists"] (defScope (top 95)) := ⟨rfl, rfl, rfl, by decide +kernel, rfl, by decide +kernel, by decide +kernel⟩
theorem kn_tell_variance (T : Wd P w K mg base a) : Kn P w K mg base 60 "tell_variance" (Tell K a (fun m _ _ => LF.Good m) fun m _ _ => LF.tellVar m) := by
  refine T.d_tell_variance.kn sc_tell_variance (fun _ _ _ _ _ _ us hl => match us, hl with | [_, _, _], _ => rfl) (fun G vs y ⟨_, _, _, _, _, _, h, _⟩ => by rw [h]; rfl) fun cdv f A outer s H E hr => ⟨_, (pss_cons (ps_if (pt_cmpR op_eq (pe_kn (kn_freedom T) (hr.mono (by decide)) rfl (pa_cons (pe_fldK (K := K) rfl (pv 0) rfl) pa_nil)) pe_int (nomark _)) (pss_one (ps_ret (pe_lst (pa_cons (pe_gint T.g_NO_RESULT rfl) pa_nil)))) pss_nil) (pss_one (ps_ret (pe_op op_cat (pe_lst (pa_cons pe_int pa_nil)) (pe_callTy (cr_listK (K := K) rfl) rfl T.b_list (by decide +kernel) (pa_cons (pe_kn (kn_variance_of T) (hr.mono (by decide)) rfl (pa_cons (pe_fldK (K := K) rfl (pv 0) rfl) pa_nil)) pa_nil)))))), fun vs G y D e h k => ?_⟩
  obtain ⟨v1, v2, v3, m, ns, ls, rfl, h1, h2, h3, g, rfl⟩ := h
  have hm := ev_model T (ev_var (σ := start ["desk", "numbers", "lists"] [v1, v2, v3]) (i := 0) rfl h1)
  refine st_when e (et_test (ev_eqI (ev_call1 hm g) ev_int)) (fun hb H3 e3 => ?_) (fun hb H3 e3 => ?_)
  · refine st_ret (A := RowR) (x := [-33]) (e.trans e3) (ev_one ev_int) fun u H4 G4 o4 ru => k u H4 G4 ((Ok.grow e e3).trans o4) ?_
    show RowR.R G4 u (LF.tellVar m)
    unfold LF.tellVar
    rw [if_pos (of_decide_eq_true hb)]
    exact ru
  · have hb := of_decide_eq_false hb
    refine st_ret (A := RowR) (e.trans e3) (ev_told1 ev_int (ev_call1 hm ⟨g, hb⟩)) fun u H4 G4 o4 ru => k u H4 G4 ((Ok.grow e e3).trans o4) ?_
    show RowR.R G4 u (LF.tellVar m)
    unfold LF.tellVar
    rw [if_neg hb]
    exact ru
theorem sc_terms_told : FnScope ["rows", "found", "degrees", "squares"] ["rows"] (defScope (top 96)) := ⟨rfl, rfl, rfl, by decide +kernel, rfl, by decide +kernel, by decide +kernel⟩
theorem kn_terms_told (T : Wd P w K mg base a) : Kn P w K mg base 41 "terms_told" (FnS RowR (Pre1 (ListR (LookR K)) (fun x => x.length ≤ 100) LF.termsTold)) := by
  refine T.d_terms_told.kn sc_terms_told (fun _ _ _ _ _ _ us hl => match us, hl with | [_], _ => rfl) (fun G vs y ⟨v, _, h, _⟩ => by rw [h]; rfl) fun cdv f A outer s H E hr => ⟨_, (pss_cons (ps_set (i := 1) sc_terms_told.nd rfl (Or.inl rfl) (pe_lst (pa_cons (pe_callB (cr_lenK (K := K) rfl) rfl T.b_len PySem.boot_len (pa_cons (pv 0) pa_nil)) pa_nil))) (pss_cons (ps_for PassesOwn.never rfl (pi_listK (K := K) rfl (pv 0)) (pg_tupK (K := K) (n := 2) rfl rfl (pgs_cons (pg_name (i := 2) sc_terms_told.nd rfl (Or.inl rfl)) (pgs_cons (pg_name (i := 3) sc_terms_told.nd rfl (Or.inl rfl)) pgs_nil))) (pss_one (ps_expr (pe_bmK (K := K) rfl PySem.F.plainAttrs_list PySem.F.slot_list_extend PySem.F.type_list_extend mt_extend (pv 1) (pa_cons (pe_op op_cat (pe_lst (pa_cons (pv 2) pa_nil)) (pe_callTy (cr_listK (K := K) rfl) rfl T.b_list (by decide +kernel) (pa_cons (pv 3) pa_nil))) pa_nil))))) (pss_one (ps_ret (pv 1))))), fun vs G y D e h k => ?_⟩
  obtain ⟨v, rows, rfl, hx, hl, rfl⟩ := h
  refine st_new (A := IntR) (xs := [(rows.length : Int)]) e (el_cons (ev_len (ev_var rfl hx)) el_nil) (by show 1 ≤ _; decide) fun p H1 G1 o1 hp m1 => ?_
  refine st_exts (k := 1) (fun r : Int × (Int × Int) => r.1 :: LF.listP r.2) o1 hp m1 rfl (src_list (ev_var rfl ((ListR (LookR K)).st o1.up hx))) (tg_pair 2 3 (by decide)) (by decide) rfl (fun z hz => by show 3 ≤ 100; decide) hl (by show 1 ≤ 100; decide) (fun i z σ2 G2 hz e2 ag hn => ev_told1 hn.1.ev hn.2.ev) fun σ2 H2 G2 o2 e2 ag m2 => ?_
  obtain ⟨G3, o3, e3, r3⟩ := m2.know o2 hp
  exact st_ret o3.kn (ev_var ((ag.2 1 (by decide)).trans rfl) r3) fun u H4 G4 o4 ru => k u H4 G4 (o3.trans o4) ru
theorem sc_tell_sequential : FnScope ["desk", "numbers", "lists"] ["desk", "numbers", "lists"] (defScope (top 97)) := ⟨rfl, rfl, rfl, by decide +kernel, rfl, by decide +kernel, by decide +kernel⟩
theorem kn_tell_sequential (T : Wd P w K mg base a) : Kn P w K mg base 60 "tell_sequential" (Tell K a (fun m _ _ => LF.Good m) fun m _ _ => LF.tellSeq m) := by
  refine T.d_tell_sequential.kn sc_tell_sequential (fun _ _ _ _ _ _ us hl => match us, hl with | [_, _, _], _ => rfl) (fun G vs y ⟨_, _, _, _, _, _, h, _⟩ => by rw [h]; rfl) fun cdv f A outer s H E hr => ⟨_, (pss_one (ps_ret (pe_kn (kn_terms_told T) (hr.mono (by decide)) rfl (pa_cons (pe_kn (kn_sequential_of T) (hr.mono (by decide)) rfl (pa_cons (pe_fldK (K := K) rfl (pv 0) rfl) pa_nil)) pa_nil)))), fun vs G y D e h k => ?_⟩
  obtain ⟨v1, v2, v3, m, ns, ls, rfl, h1, h2, h3, g, rfl⟩ := h
  have tc := good_count g
  exact st_ret e (ev_call1 (ev_call1 (ev_model T (ev_var rfl h1)) g) (by unfold LF.sequentialM; rw [List.length_map, List.length_range]; omega)) k
theorem sc_tell_marginal : FnScope ["desk", "numbers", "lists"] ["desk", "numbers", "lists"] (defScope (top 98)) := ⟨rfl, rfl, rfl, by decide +kernel, rfl, by decide +kernel, by decide +kernel⟩
theorem kn_tell_marginal (T : Wd P w K mg base a) : Kn P w K mg base 60 "tell_marginal" (Tell K a (fun m _ _ => LF.Good m) fun m _ _ => LF.tellMarg m) := by
  refine T.d_tell_marginal.kn sc_tell_marginal (fun _ _ _ _ _ _ us hl => match us, hl with | [_, _, _], _ => rfl) (fun G vs y ⟨_, _, _, _, _, _, h, _⟩ => by rw [h]; rfl) fun cdv f A outer s H E hr => ⟨_, (pss_one (ps_ret (pe_kn (kn_terms_told T) (hr.mono (by decide)) rfl (pa_cons (pe_kn (kn_marginal_of T) (hr.mono (by decide)) rfl (pa_cons (pe_fldK (K := K) rfl (pv 0) rfl) pa_nil)) pa_nil)))), fun vs G y D e h k => ?_⟩
  obtain ⟨v1, v2, v3, m, ns, ls, rfl, h1, h2, h3, g, rfl⟩ := h
  have tc := good_count g
  exact st_ret e (ev_call1 (ev_call1 (ev_model T (ev_var rfl h1)) g) (by unfold LF.marginalM; rw [List.length_map, List.length_range]; omega)) k
theorem rank_le (rows : List (List Int)) (many : Nat) (hw : ∀ r ∈ rows, r.length = many) : LF.rankOf rows many ≤ many := by
  have S := LF.step_take (b := (rows.flatten.map Int.natAbs).sum + 1) (n := rows.length) (w := many) (fun r hr n hn => ?_) hw (Nat.le_refl _) many
  · have := S.few
    have er : LF.rankOf rows many = (LF.leadsOf rows many).1.length := by
      unfold LF.rankOf
      rw [LF.rank_run]
    omega
  · have h1 : n.natAbs ≤ (rows.flatten.map Int.natAbs).sum := by
      have hm : n.natAbs ∈ rows.flatten.map Int.natAbs := List.mem_map.mpr ⟨n, List.mem_flatten.mpr ⟨r, hr, hn⟩, rfl⟩
      have : ∀ (l : List Nat) (x : Nat), x ∈ l → x ≤ l.sum := by
        intro l
        induction l with
        | nil => intro x h; cases h
        | cons y l ih =>
          intro x h
          rw [List.sum_cons]
          rcases List.mem_cons.mp h with rfl | h
          · omega
          · have := ih x h; omega
      exact this _ _ hm
    exact Nat.lt_of_lt_of_le Nat.lt_two_pow_self (Nat.pow_le_pow_right (by decide) (by omega))
theorem marg_deg {m : Kxd4.Model} (g : LF.Good m) (t : Nat) : (LF.marginalAt m t).1.natAbs < 2 ^ 6 := by
  have h1 := rank_le (LF.ents m) m.columns g.elen
  have h2 := rank_le (LF.entsAt m (LF.placesBeside m t)) _ (LF.entsAt_len m _)
  have h3 := (places_beside_ok g t).l8
  have h8 := g.c8
  have e1 : (LF.marginalAt m t).1 = ((LF.rankM m : Nat) : Int) - ((LF.rankOf (LF.entsAt m (LF.placesBeside m t)) (LF.placesBeside m t).length : Nat) : Int) := rfl
  have e2 : LF.rankM m = LF.rankOf (LF.ents m) m.columns := rfl
  rw [e1]
  show _ < 64
  omega
theorem marg_frb {m : Kxd4.Model} (g : LF.Good m) (t : Nat) : FrB 357034 336000 (LF.marginalAt m t).2 :=
  (minus_frb (n := 357033) (look_frb g (places_beside_ok g t)) (good_res g) (by decide) (by decide)).mono (by decide) (by decide)
theorem sc_tell_f_ratio : FnScope ["desk", "numbers", "lists", "model", "degrees", "squares"] ["desk", "numbers", "lists"] (defScope (top 99)) := ⟨rfl, rfl, rfl, by decide +kernel, rfl, by decide +kernel, by decide +kernel⟩
theorem kn_tell_f_ratio (T : Wd P w K mg base a) : Kn P w K mg base 60 "tell_f_ratio" (Tell K a (fun m ns _ => LF.Good m ∧ One1 ns) fun m ns _ => LF.tellF m (ns.getD 0 0).toNat) := by
  refine T.d_tell_f_ratio.kn sc_tell_f_ratio (fun _ _ _ _ _ _ us hl => match us, hl with | [_, _, _], _ => rfl) (fun G vs y ⟨_, _, _, _, _, _, h, _⟩ => by rw [h]; rfl) fun cdv f A outer s H E hr => ⟨_, (pss_cons (ps_set (i := 3) sc_tell_f_ratio.nd rfl (Or.inl rfl) (pe_fldK (K := K) rfl (pv 0) rfl)) (pss_cons (ps_if (pt_not (pt_chain op_le op_lt pe_int (pe_ix (ix_listK (K := K) rfl) (pv 1) pe_int (fun _ _ => rfl)) (pe_kn (kn_term_count T) (hr.mono (by decide)) rfl (pa_cons (pv 3) pa_nil)))) (pss_one (ps_ret (pe_lst (pa_cons (pe_gint T.g_NO_SUCH rfl) pa_nil)))) pss_nil) (pss_cons (ps_asg (pe_kn (kn_marginal_at T) (hr.mono (by decide)) rfl (pa_cons (pv 3) (pa_cons (pe_ix (ix_listK (K := K) rfl) (pv 1) pe_int (fun _ _ => rfl)) pa_nil))) (pg_tupK (K := K) (n := 2) rfl rfl (pgs_cons (pg_name (i := 4) sc_tell_f_ratio.nd rfl (Or.inl rfl)) (pgs_cons (pg_name (i := 5) sc_tell_f_ratio.nd rfl (Or.inl rfl)) pgs_nil)))) (pss_cons (ps_if (PW.pt (pw_or (pt_cmpR op_eq (pv 4) pe_int (nomark _)) (pw_or (pt_cmpR op_eq (pe_kn (kn_freedom T) (hr.mono (by decide)) rfl (pa_cons (pv 3) pa_nil)) pe_int (nomark _)) (pw_or1 (pt_cmpR (op_eqDK (K := K) rfl hr.units) (pe_kn (kn_residual_sum T) (hr.mono (by decide)) rfl (pa_cons (pv 3) pa_nil)) (pe_gref T.g_ZERO rfl) (nomark _)))))) (pss_one (ps_ret (pe_lst (pa_cons (pe_gint T.g_NO_RESULT rfl) pa_nil)))) pss_nil) (pss_one (ps_ret (pe_op op_cat (pe_lst (pa_cons pe_int pa_nil)) (pe_callTy (cr_listK (K := K) rfl) rfl T.b_list (by decide +kernel) (pa_cons (pe_kn (kn_over T) (hr.mono (by decide)) rfl (pa_cons (pe_kn (kn_ratio T) (hr.mono (by decide)) rfl (pa_cons (pe_ix (ix_tupK (K := K) rfl) (pv 5) pe_int (fun _ _ => rfl)) (pa_cons (pe_op op_mulW (pe_ix (ix_tupK (K := K) rfl) (pv 5) pe_int (fun _ _ => rfl)) (pv 4)) pa_nil))) (pa_cons (pe_kn (kn_variance_of T) (hr.mono (by decide)) rfl (pa_cons (pv 3) pa_nil)) pa_nil))) pa_nil))))))))), fun vs G y D e h k => ?_⟩
  obtain ⟨v1, v2, v3, m, ns, ls, rfl, h1, h2, h3, ⟨g, t, rfl⟩, rfl⟩ := h
  refine st_set (A := ModelR K a) (x := m) e (ev_model T (ev_var rfl h1)) fun u1 H1 G1 o1 r1 => ?_
  have hn : EV (tVar 1) ((start ["desk", "numbers", "lists", "model", "degrees", "squares"] [v1, v2, v3]).set 3 (some u1)) G1 RowR [(t : Int)] := ev_var rfl (RowR.st o1.up h2)
  refine st_when o1.kn (et_not (et_test (ev_chain (p := fun i j => decide (i ≤ j)) (p' := fun i j => decide (i < j)) ev_int (ev_num0 (ns := []) hn) (ev_call1 (ev_var rfl r1) (good_ne g))))) (fun hb H3 e3 => ?_) (fun hb H3 e3 => ?_)
  · have hb : LF.termCountN m ≤ t := by
      rw [decide_eq_true (show (0 : Int) ≤ (t : Int) by omega), Bool.true_and] at hb
      have : ¬ ((t : Int) < (LF.termCountN m : Int)) := by simpa using hb
      omega
    refine st_ret (A := RowR) (x := [-2]) (o1.kn.trans e3) (ev_one ev_int) fun u H4 G4 o4 ru => k u H4 G4 ((o1.trans (Ok.grow o1.kn e3)).trans o4) ?_
    show RowR.R G4 u (LF.tellF m t)
    unfold LF.tellF
    rw [if_pos hb]
    exact ru
  · have hb : ¬ LF.termCountN m ≤ t := by
      rw [decide_eq_true (show (0 : Int) ≤ (t : Int) by omega), Bool.true_and] at hb
      have : ((t : Int) < (LF.termCountN m : Int)) := by simpa using hb
      omega
    have o3 := o1.trans (Ok.grow o1.kn e3)
    have e1 : LF.tellF m t = if (LF.marginalAt m t).1 = 0 ∨ LF.freedomM m = 0 ∨ LF.residM m = (0, 1) then [-33] else 0 :: LF.listP (LF.overP (LF.ratio (LF.marginalAt m t).2.1 ((LF.marginalAt m t).2.2 * (LF.marginalAt m t).1)) (LF.varianceM m)) := if_neg hb
    refine st_unp (A := LookR K) (x := LF.marginalAt m t) o3.kn (tg_pair 4 5 (by decide)) rfl (ev_call2 (ev_var rfl r1) (ev_num0N hn) g) fun σ4 H4 G4 o4 a4 ⟨f1, f2⟩ => ?_
    have hm4 : EV (tVar 3) σ4 G4 (ModelR K a) m := ev_var ((a4.2 3 (by decide)).trans rfl) ((ModelR K a).st o4.up r1)
    have o34 := o3.trans o4
    refine st_when (b := decide ((LF.marginalAt m t).1 = 0) || (decide (LF.freedomM m = 0) || decide (LF.residM m = (0, 1)))) o4.kn (et_or (et_test (ev_eqI f1.ev ev_int)) fun _ => et_or (et_test (ev_eqI (ev_call1 hm4 g) ev_int)) fun _ => et_test (ev_eqPair (q := (0, 1)) T.t_zero (ev_call1 hm4 g))) (fun hc H5 e5 => ?_) (fun hc H5 e5 => ?_)
    · refine st_ret (A := RowR) (x := [-33]) (o4.kn.trans e5) (ev_one ev_int) fun u H6 G6 o6 ru => k u H6 G6 ((o34.trans (Ok.grow o4.kn e5)).trans o6) ?_
      show RowR.R G6 u (LF.tellF m t)
      rw [e1, if_pos (by simpa using hc)]
      exact ru
    · obtain ⟨c1, c2⟩ := Bool.or_eq_false_iff.mp hc
      obtain ⟨c2, c3⟩ := Bool.or_eq_false_iff.mp c2
      have c1 := of_decide_eq_false c1
      have c2 := of_decide_eq_false c2
      have c3 := of_decide_eq_false c3
      have mb := marg_frb g t
      have md := marg_deg g t
      have rb : FrB 357034 336006 (LF.ratio (LF.marginalAt m t).2.1 ((LF.marginalAt m t).2.2 * (LF.marginalAt m t).1)) := ratio_frb mb.up (lt_pow (LF.bn_mul mb.dn md) (by decide)) (Int.mul_ne_zero mb.ne c1)
      have vb := var_frb g c2
      refine st_ret (A := RowR) (o4.kn.trans e5) (ev_told1 ev_int (ev_call2 (ev_call2 (ev_fst f2.ev) (ev_mulW ((sm_of mb.dn (by decide)).mul (sm_of md (by decide))) (ev_snd f2.ev) f1.ev) (Int.mul_ne_zero mb.ne c1)) (ev_call1 hm4 ⟨g, c2⟩) ⟨rb.fr (by decide) (by decide), vb.fr (by decide) (by decide), var_num g c2 c3⟩)) fun u H6 G6 o6 ru => k u H6 G6 ((o34.trans (Ok.grow o4.kn e5)).trans o6) ?_
      show RowR.R G6 u (LF.tellF m t)
      rw [e1, if_neg (fun z => z.elim c1 fun z => z.elim c2 c3)]
      exact ru
theorem sc_tell_lack_of_fit : FnScope ["desk", "numbers", "lists", "model", "degrees", "error", "lack"] ["desk", "numbers", "lists"] (defScope (top 100)) := ⟨rfl, rfl, rfl, by decide +kernel, rfl, by decide +kernel, by decide +kernel⟩
theorem kn_tell_lack_of_fit (T : Wd P w K mg base a) : Kn P w K mg base 60 "tell_lack_of_fit" (Tell K a (fun m _ _ => LF.Good m) fun m _ _ => LF.tellLack m) := by
  refine T.d_tell_lack_of_fit.kn sc_tell_lack_of_fit (fun _ _ _ _ _ _ us hl => match us, hl with | [_, _, _], _ => rfl) (fun G vs y ⟨_, _, _, _, _, _, h, _⟩ => by rw [h]; rfl) fun cdv f A outer s H E hr => ⟨_, (pss_cons (ps_set (i := 3) sc_tell_lack_of_fit.nd rfl (Or.inl rfl) (pe_fldK (K := K) rfl (pv 0) rfl)) (pss_cons (ps_asg (pe_kn (kn_pure_error T) (hr.mono (by decide)) rfl (pa_cons (pv 3) pa_nil)) (pg_tupK (K := K) (n := 2) rfl rfl (pgs_cons (pg_name (i := 4) sc_tell_lack_of_fit.nd rfl (Or.inl rfl)) (pgs_cons (pg_name (i := 5) sc_tell_lack_of_fit.nd rfl (Or.inl rfl)) pgs_nil)))) (pss_cons (ps_set (i := 6) sc_tell_lack_of_fit.nd rfl (Or.inl rfl) (pe_kn (kn_minus T) (hr.mono (by decide)) rfl (pa_cons (pe_kn (kn_residual_sum T) (hr.mono (by decide)) rfl (pa_cons (pv 3) pa_nil)) (pa_cons (pv 5) pa_nil)))) (pss_one (ps_ret (pe_op op_cat (pe_op op_cat (pe_op op_cat (pe_lst (pa_cons (pe_op op_sub (pe_kn (kn_freedom T) (hr.mono (by decide)) rfl (pa_cons (pv 3) pa_nil)) (pv 4)) pa_nil)) (pe_callTy (cr_listK (K := K) rfl) rfl T.b_list (by decide +kernel) (pa_cons (pv 6) pa_nil))) (pe_lst (pa_cons (pv 4) pa_nil))) (pe_callTy (cr_listK (K := K) rfl) rfl T.b_list (by decide +kernel) (pa_cons (pv 5) pa_nil)))))))), fun vs G y D e h k => ?_⟩
  obtain ⟨v1, v2, v3, m, ns, ls, rfl, h1, h2, h3, g, rfl⟩ := h
  refine st_set (A := ModelR K a) (x := m) e (ev_model T (ev_var rfl h1)) fun u1 H1 G1 o1 r1 => ?_
  refine st_unp (A := LookR K) (x := LF.pureM m) o1.kn (tg_pair 4 5 (by decide)) rfl (ev_call1 (ev_var rfl r1) g) fun σ4 H4 G4 o4 a4 ⟨f1, f2⟩ => ?_
  have l4 : σ4.length = 7 := a4.1
  have hm4 : At (ModelR K a) 3 G4 σ4 m := ⟨u1, (a4.2 3 (by decide)).trans rfl, (ModelR K a).st o4.up r1⟩
  refine st_set (A := PrR K) (x := LF.minusP (LF.residM m) (LF.pureM m).2) o4.kn (ev_call2 (ev_call1 hm4.ev g) f2.ev ⟨frres (good_res g), (pure_frb g).fr (by decide) (by decide)⟩) fun u5 H5 G5 o5 r5 => ?_
  have f15 := (f1.mono o5.up).put (k := 6) (v := some u5) (by decide)
  have f25 := (f2.mono o5.up).put (k := 6) (v := some u5) (by decide)
  have hm5 := (hm4.mono o5.up).put (k := 6) (v := some u5) (by decide)
  have h5 : At (PrR K) 6 G5 (σ4.set 6 (some u5)) (LF.minusP (LF.residM m) (LF.pureM m).2) := At.set (by omega) r5
  exact st_ret (A := RowR) (x := LF.tellLack m) o5.kn (ev_cat (xs := [LF.freedomM m - (LF.pureM m).1, (LF.minusP (LF.residM m) (LF.pureM m).2).1, (LF.minusP (LF.residM m) (LF.pureM m).2).2, (LF.pureM m).1]) (ys := LF.listP (LF.pureM m).2) (by show 4 + 2 ≤ _; decide)
    (ev_cat (xs := [LF.freedomM m - (LF.pureM m).1, (LF.minusP (LF.residM m) (LF.pureM m).2).1, (LF.minusP (LF.residM m) (LF.pureM m).2).2]) (ys := [(LF.pureM m).1]) (by show 3 + 1 ≤ _; decide) (ev_told1 (ev_sub (ev_call1 hm5.ev g) f15.ev) h5.ev) (ev_one f15.ev)) (ev_listP f25.ev)) fun u H6 G6 o6 ru => k u H6 G6 (((o1.trans o4).trans o5).trans o6) ru
theorem zip_flat {α β γ : Type} (f : α → β → List γ) : ∀ (xs : List α) (ys : List β), (xs.zip ys).flatMap (fun p => f p.1 p.2) = (List.zipWith f xs ys).flatten
  | [], _ => by simp
  | _ :: _, [] => by simp
  | x :: xs, y :: ys => by
    rw [List.zip_cons_cons, List.flatMap_cons, List.zipWith_cons_cons, List.flatten_cons, zip_flat f xs ys]
theorem sc_normal_equations : FnScope ["desk", "numbers", "lists", "model", "entries", "right", "found", "row", "number"] ["desk", "numbers", "lists"] (defScope (top 113)) := ⟨rfl, rfl, rfl, by decide +kernel, rfl, by decide +kernel, by decide +kernel⟩
theorem kn_normal_equations (T : Wd P w K mg base a) : Kn P w K mg base 60 "normal_equations" (Tell K a (fun m _ _ => LF.Good m) fun m _ _ => LF.tellNormal m) := by
  refine T.d_normal_equations.kn sc_normal_equations (fun _ _ _ _ _ _ us hl => match us, hl with | [_, _, _], _ => rfl) (fun G vs y ⟨_, _, _, _, _, _, h, _⟩ => by rw [h]; rfl) fun cdv f A outer s H E hr => ⟨_, (pss_cons (ps_set (i := 3) sc_normal_equations.nd rfl (Or.inl rfl) (pe_fldK (K := K) rfl (pv 0) rfl)) (pss_cons (ps_set (i := 4) sc_normal_equations.nd rfl (Or.inl rfl) (pe_kn (kn_entries_of T) (hr.mono (by decide)) rfl (pa_cons (pv 3) pa_nil))) (pss_cons (ps_set (i := 5) sc_normal_equations.nd rfl (Or.inl rfl) (pe_kn (kn_right_sides T) (hr.mono (by decide)) rfl (pa_cons (pv 4) (pa_cons (pe_kn (kn_responses_of T) (hr.mono (by decide)) rfl (pa_cons (pv 3) pa_nil)) (pa_cons (pe_fldK (K := K) rfl (pv 3) rfl) pa_nil))))) (pss_cons (ps_set (i := 6) sc_normal_equations.nd rfl (Or.inl rfl) (pe_lst (pa_cons (pe_fldK (K := K) rfl (pv 3) rfl) pa_nil))) (pss_cons (ps_for PassesOwn.never rfl (pi_zipK (K := K) rfl rfl T.b_zip (pa_cons (pe_kn (kn_products T) (hr.mono (by decide)) rfl (pa_cons (pv 4) (pa_cons (pe_fldK (K := K) rfl (pv 3) rfl) pa_nil))) (pa_cons (pv 5) pa_nil))) (pg_tupK (K := K) (n := 2) rfl rfl (pgs_cons (pg_name (i := 7) sc_normal_equations.nd rfl (Or.inl rfl)) (pgs_cons (pg_name (i := 8) sc_normal_equations.nd rfl (Or.inl rfl)) pgs_nil))) (pss_one (ps_expr (pe_bmK (K := K) rfl PySem.F.plainAttrs_list PySem.F.slot_list_extend PySem.F.type_list_extend mt_extend (pv 6) (pa_cons (pe_op op_cat (pv 7) (pe_lst (pa_cons (pv 8) pa_nil))) pa_nil))))) (pss_one (ps_ret (pv 6)))))))), fun vs G y D e h k => ?_⟩
  obtain ⟨v1, v2, v3, m, ns, ls, rfl, h1, h2, h3, g, rfl⟩ := h
  have c8 := g.c8
  have E := good_ents g
  refine st_set (A := ModelR K a) (x := m) e (ev_model T (ev_var rfl h1)) fun u1 H1 G1 o1 r1 => ?_
  refine st_set (A := TabR) (x := LF.ents m) o1.kn (ev_call1 (ev_var rfl r1) (good_d g)) fun u2 H2 G2 o2 r2 => ?_
  have rm2 := (ModelR K a).st o2.up r1
  refine st_set (A := RowR) (x := LF.rightSides (LF.ents m) (LF.resps m) m.columns) o2.kn (ev_call3 (C := NatR) (z := m.columns) (ev_var rfl r2) (ev_call1 (ev_var rfl rm2) (good_d g)) ((ev_many T (ev_var rfl rm2)).as fun v H2 _ r => r) ⟨E, LF.resps_len, good_resps g⟩) fun u3 H3 G3 o3 r3 => ?_
  have rm3 := (ModelR K a).st o3.up rm2
  have re3 := TabR.st o3.up r2
  refine st_new (A := IntR) (xs := [(m.columns : Int)]) o3.kn (el_cons (ev_many T (ev_var rfl rm3)) el_nil) (by show 1 ≤ _; decide) fun p H4 G4 o4 hp m4 => ?_
  have lp := products_len (LF.ents m) m.columns
  have lr := LF.right_len (LF.ents m) (LF.resps m) m.columns
  refine st_exts (k := 6) (fun q : List Int × Int => q.1 ++ [q.2]) o4 hp m4 rfl (src_zip (lp.trans lr.symm) (ev_call2 (B := NatR) (y := m.columns) (ev_var rfl (TabR.st o4.up re3)) ((ev_many T (ev_var rfl ((ModelR K a).st o4.up rm3))).as fun v H2 _ r => r) E) (ev_var rfl (RowR.st o4.up r3))) (tg_pair 7 8 (by decide)) (by decide) rfl (fun z hz => ?_) (by rw [List.length_zip]; omega) (by show 1 ≤ 100; decide) (fun i z σ5 G5 hz e5 ag hn => ?_) fun σ5 H5 G5 o5 e5 ag m5 => ?_
  · have hm := List.of_mem_zip hz
    rw [List.length_append, products_row _ hm.1]
    show m.columns + 1 ≤ 100
    omega
  · have hm := List.of_mem_zip (List.mem_of_getElem? hz)
    exact ev_cat (by rw [products_row _ hm.1]; show m.columns + 1 ≤ _; omega) hn.1.ev (ev_one hn.2.ev)
  · obtain ⟨G6, o6, e6, r6⟩ := m5.know o5 hp
    refine st_ret o6.kn (ev_var ((ag.2 6 (by decide)).trans rfl) r6) fun u H7 G7 o7 ru => k u H7 G7 ((((o1.trans o2).trans o3).trans o6).trans o7) ?_
    rw [zip_flat (fun r n => r ++ [n])] at ru
    exact ru
theorem sc_summary : FnScope ["desk", "numbers", "lists", "model"] ["desk", "numbers", "lists"] (defScope (top 114)) := ⟨rfl, rfl, rfl, by decide +kernel, rfl, by decide +kernel, by decide +kernel⟩
theorem kn_summary (T : Wd P w K mg base a) : Kn P w K mg base 60 "summary" (Tell K a (fun m _ _ => LF.Good m) fun m _ _ => [(m.columns : Int), (m.data.length : Int), ((LF.termCountN m : Nat) : Int)]) := by
  refine T.d_summary.kn sc_summary (fun _ _ _ _ _ _ us hl => match us, hl with | [_, _, _], _ => rfl) (fun G vs y ⟨_, _, _, _, _, _, h, _⟩ => by rw [h]; rfl) fun cdv f A outer s H E hr => ⟨_, (pss_cons (ps_set (i := 3) sc_summary.nd rfl (Or.inl rfl) (pe_fldK (K := K) rfl (pv 0) rfl)) (pss_one (ps_ret (pe_lst (pa_cons (pe_fldK (K := K) rfl (pv 3) rfl) (pa_cons (pe_callB (cr_lenK (K := K) rfl) rfl T.b_len PySem.boot_len (pa_cons (pe_fldK (K := K) rfl (pv 3) rfl) pa_nil)) (pa_cons (pe_kn (kn_term_count T) (hr.mono (by decide)) rfl (pa_cons (pv 3) pa_nil)) pa_nil))))))), fun vs G y D e h k => ?_⟩
  obtain ⟨v1, v2, v3, m, ns, ls, rfl, h1, h2, h3, g, rfl⟩ := h
  refine st_set (A := ModelR K a) (x := m) e (ev_model T (ev_var rfl h1)) fun u1 H1 G1 o1 r1 => ?_
  refine st_ret (A := RowR) o1.kn ((ev_lst (el_cons (ev_many T (ev_var rfl r1)) (el_cons (ev_len (ev_rows T (ev_var rfl r1))) (el_cons (ev_call1 (ev_var rfl r1) (good_ne g)) el_nil))) (by show 3 ≤ _; decide)).to ?_) fun u H7 G7 o7 ru => k u H7 G7 (o1.trans o7) ru
  rw [List.length_map]
def tellRow (m : Kxd4.Model) (i : Nat) : List Int := match m.data[i]? with
  | none => [-2]
  | some o => o.response :: o.row
theorem sc_get_row : FnScope ["desk", "numbers", "lists", "model", "response", "entries"] ["desk", "numbers", "lists"] (defScope (top 112)) := ⟨rfl, rfl, rfl, by decide +kernel, rfl, by decide +kernel, by decide +kernel⟩
theorem kn_get_row (T : Wd P w K mg base a) : Kn P w K mg base 60 "get_row" (Tell K a (fun m ns _ => LF.Good m ∧ One1 ns) fun m ns _ => tellRow m (ns.getD 0 0).toNat) := by
  refine T.d_get_row.kn sc_get_row (fun _ _ _ _ _ _ us hl => match us, hl with | [_, _, _], _ => rfl) (fun G vs y ⟨_, _, _, _, _, _, h, _⟩ => by rw [h]; rfl) fun cdv f A outer s H E hr => ⟨_, (pss_cons (ps_set (i := 3) sc_get_row.nd rfl (Or.inl rfl) (pe_fldK (K := K) rfl (pv 0) rfl)) (pss_cons (ps_if (pt_not (pt_val (pe_kn (kn_is_index T) (hr.mono (by decide)) rfl (pa_cons (pv 3) (pa_cons (pe_ix (ix_listK (K := K) rfl) (pv 1) pe_int (fun _ _ => rfl)) pa_nil))))) (pss_one (ps_ret (pe_lst (pa_cons (pe_gint T.g_NO_SUCH rfl) pa_nil)))) pss_nil) (pss_cons (ps_asg (pe_ix (ix_listK (K := K) rfl) (pe_fldK (K := K) rfl (pv 3) rfl) (pe_ix (ix_listK (K := K) rfl) (pv 1) pe_int (fun _ _ => rfl)) (fun _ _ => rfl)) (pg_tupK (K := K) (n := 2) rfl rfl (pgs_cons (pg_name (i := 4) sc_get_row.nd rfl (Or.inl rfl)) (pgs_cons (pg_name (i := 5) sc_get_row.nd rfl (Or.inl rfl)) pgs_nil)))) (pss_one (ps_ret (pe_op op_cat (pe_lst (pa_cons (pv 4) pa_nil)) (pv 5))))))), fun vs G y D e h k => ?_⟩
  obtain ⟨v1, v2, v3, m, ns, ls, rfl, h1, h2, h3, ⟨g, i, rfl⟩, rfl⟩ := h
  have c8 := g.c8
  refine st_set (A := ModelR K a) (x := m) e (ev_model T (ev_var rfl h1)) fun u1 H1 G1 o1 r1 => ?_
  have hn : EV (tVar 1) ((start ["desk", "numbers", "lists", "model", "response", "entries"] [v1, v2, v3]).set 3 (some u1)) G1 RowR [(i : Int)] := ev_var rfl (RowR.st o1.up h2)
  refine st_when o1.kn (et_not (et_B (ev_call2 (ev_var rfl r1) (ev_num0 (ns := []) hn) trivial))) (fun hb H3 e3 => ?_) (fun hb H3 e3 => ?_)
  · rw [isIndex_nat] at hb
    have hb : ¬ i < m.data.length := by simpa using hb
    refine st_ret (A := RowR) (x := [-2]) (o1.kn.trans e3) (ev_one ev_int) fun u H4 G4 o4 ru => k u H4 G4 ((o1.trans (Ok.grow o1.kn e3)).trans o4) ?_
    show RowR.R G4 u (tellRow m i)
    unfold tellRow
    rw [data_none hb]
    exact ru
  · rw [isIndex_nat] at hb
    have hb : i < m.data.length := by simpa using hb
    refine st_unp (A := PairR K IntR RowR) (x := rowP (obsD m i)) (o1.kn.trans e3) (tg_pair 4 5 (by decide)) rfl (ev_ix (n := i) rfl (rows_at hb) (ev_rows T (ev_var rfl r1)) (ev_num0 (ns := []) hn)) fun σ2 H2 G2 o2 a2 ⟨f1, f2⟩ => ?_
    refine st_ret (A := RowR) o2.kn (ev_cat (xs := [(rowP (obsD m i)).1]) (by show 1 + (obsD m i).row.length ≤ _; rw [g.row _ (obs_mem hb)]; omega) (ev_one f1.ev) f2.ev) fun u H4 G4 o4 ru => k u H4 G4 (((o1.trans (Ok.grow o1.kn e3)).trans o2).trans o4) ?_
    show RowR.R G4 u (tellRow m i)
    unfold tellRow
    rw [obs_at hb]
    exact ru
end
end LW

set_option linter.all false
set_option Elab.async false
set_option maxRecDepth 100000
set_option maxHeartbeats 4000000
namespace LW
open PySem PySem.Spec PyProof.Rows L2
open Evl (Ex)
section
variable {P : Program} {w : World} {K : PySem.W.Frag} {mg : Str → Option Value} {base : Heap} {a : Ad}
theorem within_resp (z : Int) : isWithin z 1000000 = Kxd4.isResponse z := rfl
/-- what a surface that is taken has -/
structure Surf (k : Nat) (c : Int) (l q : List Int) : Prop where
  k1 : 1 ≤ k
  k3 : k ≤ 3
  ll : l.length = k
  lq : q.length = k * (k + 1) / 2
  bc : c.natAbs < 2 ^ 20
  bl : LF.Bn 20 l
  bq : LF.Bn 20 q
  on : ¬ LF.offSurface k c l q
theorem resp20 {z : Int} (h : Kxd4.isResponse z = true) : z.natAbs < 2 ^ 20 := by
  unfold Kxd4.isResponse at h
  rw [Bool.and_eq_true, decide_eq_true_eq, decide_eq_true_eq] at h
  have e1 : Kxd4.maxResponse = 1000000 := rfl
  rw [e1] at h
  exact bn20 ⟨by omega, h.2⟩
theorem surf_iff (k : Nat) (c : Int) (l q : List Int) : (isSurfaceI (k : Int) c l q = true ∧ Surf k c l q) ∨ (isSurfaceI (k : Int) c l q = false ∧ LF.offSurface k c l q) := by
  by_cases h0 : k = 0 ∨ 3 < k
  · refine .inr ⟨?_, h0.elim .inl fun h => .inr (.inl h)⟩
    unfold isSurfaceI
    rw [if_pos ?_]
    rcases h0 with h0 | h0
    · rw [decide_eq_false (show ¬ (1 : Int) ≤ (k : Int) by omega)]; rfl
    · rw [decide_eq_false (show ¬ (k : Int) ≤ 3 by omega), Bool.and_false]; rfl
  · have k1 : 1 ≤ k := by omega
    have k3 : k ≤ 3 := by omega
    have kk : ((k : Int) * ((k : Int) + 1)).fdiv 2 = ((k * (k + 1) / 2 : Nat) : Int) := by
      match k, k1, k3 with
      | 1, _, _ => decide
      | 2, _, _ => decide
      | 3, _, _ => decide
    have wl : ∀ (xs : List Int) (n : Nat), areWithin xs (n : Int) 1000000 = (decide (xs.length = n) && xs.all Kxd4.isResponse) := fun xs n => by
      unfold areWithin
      rw [List.all_map]
      congr 1
      rw [decide_eq_decide]
      omega
    have e1 : isSurfaceI (k : Int) c l q = (Kxd4.isResponse c && ((decide (l.length = k) && l.all Kxd4.isResponse) && (decide (q.length = k * (k + 1) / 2) && q.all Kxd4.isResponse))) := by
      unfold isSurfaceI
      rw [decide_eq_true (show (1 : Int) ≤ (k : Int) by omega), decide_eq_true (show (k : Int) ≤ 3 by omega), kk, wl, wl, within_resp]
      cases Kxd4.isResponse c <;> rfl
    have any_all : (c :: l ++ q).any (fun z => !Kxd4.isResponse z) = !(Kxd4.isResponse c && (l.all Kxd4.isResponse && q.all Kxd4.isResponse)) := by
      rw [List.cons_append, List.any_cons, List.any_append, Bool.not_and, Bool.not_and]
      congr 1
      congr 1
      · rw [List.not_all_eq_any_not]
      · rw [List.not_all_eq_any_not]
    cases hs : isSurfaceI (k : Int) c l q with
    | true =>
      rw [e1, Bool.and_eq_true, Bool.and_eq_true, Bool.and_eq_true, Bool.and_eq_true, decide_eq_true_eq, decide_eq_true_eq] at hs
      obtain ⟨s1, ⟨s2, s3⟩, s4, s5⟩ := hs
      refine .inl ⟨rfl, ⟨k1, k3, s2, s4, resp20 s1, fun z hz => resp20 (List.all_eq_true.mp s3 z hz), fun z hz => resp20 (List.all_eq_true.mp s5 z hz), ?_⟩⟩
      unfold LF.offSurface
      rw [any_all, s1, s3, s5]
      intro z
      rcases z with z | z | z | z | z
      · omega
      · omega
      · exact z s2
      · exact z s4
      · cases z
    | false =>
      refine .inr ⟨rfl, ?_⟩
      unfold LF.offSurface
      rw [any_all]
      rw [e1] at hs
      by_cases a1 : l.length = k
      · by_cases a2 : q.length = k * (k + 1) / 2
        · rw [decide_eq_true a1, decide_eq_true a2, Bool.true_and, Bool.true_and] at hs
          rw [hs]
          exact .inr (.inr (.inr (.inr rfl)))
        · exact .inr (.inr (.inr (.inl a2)))
      · exact .inr (.inr (.inl a1))
theorem hess_ok {k : Nat} {q : List Int} (k1 : 1 ≤ k) (k3 : k ≤ 3) (lq : q.length = k * (k + 1) / 2) (bq : LF.Bn 20 q) : Shape k (LF.hessianM k q) ∧ LF.BnT 30 (LF.hessianM k q) := by
  have two : ∀ z ∈ q, (2 * z).natAbs < 2 ^ 30 := fun z hz => by
    have : z.natAbs < 1048576 := bq z hz
    show _ < 1073741824
    omega
  have one : ∀ z ∈ q, z.natAbs < 2 ^ 30 := fun z hz => lt_pow (bq z hz) (by decide)
  match k, k1, k3 with
  | 1, _, _ =>
    obtain ⟨a, rfl⟩ := LF.len1 (show q.length = 1 from lq)
    rw [LF.hessM1]
    refine ⟨⟨rfl, by simp⟩, fun r hr z hz => ?_⟩
    rw [List.mem_singleton.mp hr] at hz
    rw [List.mem_singleton.mp hz]
    exact two a (by simp)
  | 2, _, _ =>
    obtain ⟨a, b, c, rfl⟩ := LF.len3 (show q.length = 3 from lq)
    rw [LF.hessM2]
    refine ⟨⟨rfl, by simp⟩, fun r hr z hz => ?_⟩
    simp only [List.mem_cons, List.not_mem_nil, or_false] at hr
    rcases hr with rfl | rfl <;> simp only [List.mem_cons, List.not_mem_nil, or_false] at hz <;> rcases hz with rfl | rfl <;> first | exact two _ (by simp) | exact one _ (by simp)
  | 3, _, _ =>
    obtain ⟨a, b, c, d, e, f, rfl⟩ := LF.len6 (show q.length = 6 from lq)
    rw [LF.hessM3]
    refine ⟨⟨rfl, by simp⟩, fun r hr z hz => ?_⟩
    simp only [List.mem_cons, List.not_mem_nil, or_false] at hr
    rcases hr with rfl | rfl | rfl <;> simp only [List.mem_cons, List.not_mem_nil, or_false] at hz <;> rcases hz with rfl | rfl | rfl <;> first | exact two _ (by simp) | exact one _ (by simp)
theorem point_some {k : Nat} {l q : List Int} (k1 : 1 ≤ k) (k3 : k ≤ 3) (ll : l.length = k) (lq : q.length = k * (k + 1) / 2) (hd : LF.detM k (LF.hessianM k q) ≠ 0) : ∃ f, LF.pointM (LF.hessianM k q) l = some f := by
  unfold LF.pointM
  rw [ll]
  match k, k1, k3 with
  | 1, _, _ =>
    obtain ⟨a, rfl⟩ := LF.len1 (show q.length = 1 from lq)
    obtain ⟨x, rfl⟩ := LF.len1 ll
    rw [LF.hessM1] at hd ⊢
    rw [LF.detM1] at hd
    exact LF.point1 hd
  | 2, _, _ =>
    obtain ⟨a, b, c, rfl⟩ := LF.len3 (show q.length = 3 from lq)
    obtain ⟨x, y, rfl⟩ := LF.len2 ll
    rw [LF.hessM2] at hd ⊢
    rw [LF.detM2] at hd
    exact LF.point2 hd
  | 3, _, _ =>
    obtain ⟨a, b, c, d, e, f, rfl⟩ := LF.len6 (show q.length = 6 from lq)
    obtain ⟨x, y, z, rfl⟩ := LF.len3 ll
    rw [LF.hessM3] at hd ⊢
    rw [LF.detM3] at hd
    exact LF.point3 hd
def StatPre (ns : List Int) (ls : List (List Int)) : Prop := ∃ (k : Nat) (c : Int) (l q : List Int), ns = [(k : Int), c] ∧ ls = [l, q] ∧ l.length ≤ 60 ∧ q.length ≤ 60
theorem sc_tell_stationary : FnScope ["desk", "numbers", "lists", "many", "constant", "linear", "quadratic", "table", "point", "found", "top"] ["desk", "numbers", "lists"] (defScope (top 104)) := ⟨rfl, rfl, rfl, by decide +kernel, rfl, by decide +kernel, by decide +kernel⟩
theorem kn_tell_stationary (T : Wd P w K mg base a) : Kn P w K mg base 60 "tell_stationary" (Tell K a (fun _ ns ls => StatPre ns ls) fun _ ns ls => LF.tellStat (ns.getD 0 0).toNat (ns.getD 1 0) (ls.getD 0 []) (ls.getD 1 [])) := by
  refine T.d_tell_stationary.kn sc_tell_stationary (fun _ _ _ _ _ _ us hl => match us, hl with | [_, _, _], _ => rfl) (fun G vs y ⟨_, _, _, _, _, _, h, _⟩ => by rw [h]; rfl) fun cdv f A outer s H E hr => ⟨_, (pss_cons (ps_asg (pv 1) (pg_unlK (K := K) (n := 2) rfl rfl (pgs_cons (pg_name (i := 3) sc_tell_stationary.nd rfl (Or.inl rfl)) (pgs_cons (pg_name (i := 4) sc_tell_stationary.nd rfl (Or.inl rfl)) pgs_nil)))) (pss_cons (ps_asg (pv 2) (pg_unlK (K := K) (n := 2) rfl rfl (pgs_cons (pg_name (i := 5) sc_tell_stationary.nd rfl (Or.inl rfl)) (pgs_cons (pg_name (i := 6) sc_tell_stationary.nd rfl (Or.inl rfl)) pgs_nil)))) (pss_cons (ps_if (pt_not (pt_val (pe_kn (kn_is_surface T) (hr.mono (by decide)) rfl (pa_cons (pv 3) (pa_cons (pv 4) (pa_cons (pv 5) (pa_cons (pv 6) pa_nil))))))) (pss_one (ps_ret (pe_lst (pa_cons (pe_gint T.g_OUT_OF_RANGE rfl) pa_nil)))) pss_nil) (pss_cons (ps_set (i := 7) sc_tell_stationary.nd rfl (Or.inl rfl) (pe_kn (kn_hessian T) (hr.mono (by decide)) rfl (pa_cons (pv 3) (pa_cons (pv 6) pa_nil)))) (pss_cons (ps_if (pt_cmpR op_eq (pe_kn (kn_determinant T) (hr.mono (by decide)) rfl (pa_cons (pv 7) pa_nil)) pe_int (nomark _)) (pss_one (ps_ret (pe_lst (pa_cons (pe_gint T.g_NO_RESULT rfl) pa_nil)))) pss_nil) (pss_cons (ps_set (i := 8) sc_tell_stationary.nd rfl (Or.inl rfl) (pe_kn (kn_point_of T) (hr.mono (by decide)) rfl (pa_cons (pv 7) (pa_cons (pv 5) pa_nil)))) (pss_cons (ps_set (i := 9) sc_tell_stationary.nd rfl (Or.inl rfl) (pe_lst (pa_cons (pe_kn (kn_kind_of T) (hr.mono (by decide)) rfl (pa_cons (pv 7) pa_nil)) pa_nil))) (pss_cons (ps_for PassesOwn.never rfl (pi_listK (K := K) rfl (pe_ix (ix_tupK (K := K) rfl) (pv 8) pe_int (fun _ _ => rfl))) (pg_name (i := 10) sc_tell_stationary.nd rfl (Or.inl rfl)) (pss_one (ps_expr (pe_bmK (K := K) rfl PySem.F.plainAttrs_list PySem.F.slot_list_extend PySem.F.type_list_extend mt_extend (pv 9) (pa_cons (pe_callTy (cr_listK (K := K) rfl) rfl T.b_list (by decide +kernel) (pa_cons (pe_kn (kn_ratio T) (hr.mono (by decide)) rfl (pa_cons (pv 10) (pa_cons (pe_ix (ix_tupK (K := K) rfl) (pv 8) pe_int (fun _ _ => rfl)) pa_nil))) pa_nil)) pa_nil))))) (pss_one (ps_ret (pe_op op_cat (pv 9) (pe_callTy (cr_listK (K := K) rfl) rfl T.b_list (by decide +kernel) (pa_cons (pe_kn (kn_value_at T) (hr.mono (by decide)) rfl (pa_cons (pv 4) (pa_cons (pv 5) (pa_cons (pv 6) (pa_cons (pv 8) pa_nil))))) pa_nil))))))))))))), fun vs G y D e h k => ?_⟩
  obtain ⟨v1, v2, v3, m, ns, ls, rfl, h1, h2, h3, ⟨n, c, l, q, rfl, rfl, hl, hq⟩, rfl⟩ := h
  refine st_unp (A := TwoR IntR) (x := ((n : Int), c)) e (tg_unl 3 4 (by decide)) rfl (ev_var rfl h2) fun σ1 H1 G1 o1 a1 ⟨f1, f2⟩ => ?_
  have l1 : σ1.length = 11 := a1.1
  have h31 : EV (tVar 2) σ1 G1 (TwoR RowR) (l, q) := ev_var ((a1.2 2 (by decide)).trans rfl) (TabR.st o1.up h3)
  refine st_unp (A := TwoR RowR) (x := (l, q)) o1.kn (tg_unl 5 6 (by decide)) (by unfold inb; rw [l1]; rfl) h31 fun σ2 H2 G2 o2 a2 ⟨f3, f4⟩ => ?_
  have l2 : σ2.length = 11 := a2.1.trans l1
  have f1 := (f1.mono o2.up).agr a2 (by decide)
  have f2 := (f2.mono o2.up).agr a2 (by decide)
  clear a1 a2 h31
  have o12 := o1.trans o2
  refine st_when o2.kn (et_not (et_B (ev_call4 f1.ev f2.ev f3.ev f4.ev ⟨by show l.length ≤ 100000; omega, by show q.length ≤ 100000; omega⟩))) (fun hb H3 e3 => ?_) (fun hb H3 e3 => ?_)
  · have hb : isSurfaceI (n : Int) c l q = false := by simpa using hb
    have off : LF.offSurface n c l q := (surf_iff n c l q).elim (fun z => by rw [hb] at z; cases z.1) (fun z => z.2)
    refine st_ret (A := RowR) (x := [-22]) (o2.kn.trans e3) (ev_one ev_int) fun u H4 G4 o4 ru => k u H4 G4 ((o12.trans (Ok.grow o2.kn e3)).trans o4) ?_
    show RowR.R G4 u (LF.tellStat n c l q)
    unfold LF.tellStat
    rw [if_pos off]
    exact ru
  · have hb : isSurfaceI (n : Int) c l q = true := by simpa using hb
    have SF : Surf n c l q := (surf_iff n c l q).elim (fun z => z.2) (fun z => by rw [hb] at z; cases z.1)
    have k1 := SF.k1
    have k3 := SF.k3
    have ll := SF.ll
    have lq := SF.lq
    obtain ⟨sh, bt⟩ := hess_ok k1 k3 lq SF.bq
    have o3 := o12.trans (Ok.grow o2.kn e3)
    have e1 : LF.tellStat n c l q = if LF.detM n (LF.hessianM n q) = 0 then [-33] else match LF.pointM (LF.hessianM n q) l with
      | none => []
      | some f => LF.kindM (LF.hessianM n q) :: ((f.1.flatMap fun t => LF.listP (LF.ratio t f.2)) ++ LF.listP (LF.valueM c l q f)) := if_neg SF.on
    refine st_set (A := TabR) (x := LF.hessianM n q) o3.kn (ev_call2 (A := NatR) (x := n) (f1.ev.as fun v H2 _ r => r) f4.ev ⟨k1, k3, lq⟩) fun u4 H4 G4 o4 r4 => ?_
    have t4 : At TabR 7 G4 (σ2.set 7 (some u4)) (LF.hessianM n q) := At.set (by omega) r4
    have f2 := (f2.mono o4.up).put (k := 7) (v := some u4) (by decide)
    have f3 := (f3.mono o4.up).put (k := 7) (v := some u4) (by decide)
    have f4 := (f4.mono o4.up).put (k := 7) (v := some u4) (by decide)
    have l4 : (σ2.set 7 (some u4)).length = 11 := by rw [List.length_set]; exact l2
    generalize σ2.set 7 (some u4) = σ4 at t4 f2 f3 f4 l4 ⊢
    have SQ : Sq 4 (LF.hessianM n q) := ⟨by rw [sh.1]; exact sh, by rw [sh.1]; omega, by omega, bt⟩
    have ed : LF.detM (LF.hessianM n q).length (LF.hessianM n q) = LF.detM n (LF.hessianM n q) := by rw [sh.1]
    have o34 := o3.trans o4
    refine st_when o4.kn (et_test (ev_eqI ((ev_call1 t4.ev SQ).to ed) ev_int)) (fun hc H5 e5 => ?_) (fun hc H5 e5 => ?_)
    · refine st_ret (A := RowR) (x := [-33]) (o4.kn.trans e5) (ev_one ev_int) fun u H6 G6 o6 ru => k u H6 G6 ((o34.trans (Ok.grow o4.kn e5)).trans o6) ?_
      show RowR.R G6 u (LF.tellStat n c l q)
      rw [e1, if_pos (of_decide_eq_true hc)]
      exact ru
    · have hc := of_decide_eq_false hc
      obtain ⟨f, hf⟩ := point_some k1 k3 ll lq hc
      have PO : PtOk (LF.hessianM n q) l := ⟨by rw [ll]; exact sh, bt, SF.bl, by omega⟩
      have SO := PO.sol hf
      have o5 := o34.trans (Ok.grow o4.kn e5)
      have m8 := SO.m8
      have sl := SO.len
      refine st_set (A := PairR K RowR IntR) (x := f) (o4.kn.trans e5) ((ev_call2 t4.ev f3.ev PO).as fun v H2 _ r => by rw [hf] at r; exact r.2) fun u6 H6 G6 o6 r6 => ?_
      have t6 := (t4.mono o6.up).put (k := 8) (v := some u6) (by decide)
      have f2 := (f2.mono o6.up).put (k := 8) (v := some u6) (by decide)
      have f3 := (f3.mono o6.up).put (k := 8) (v := some u6) (by decide)
      have f4 := (f4.mono o6.up).put (k := 8) (v := some u6) (by decide)
      have p6 : At (PairR K RowR IntR) 8 G6 (σ4.set 8 (some u6)) f := At.set (by omega) r6
      have l6 : (σ4.set 8 (some u6)).length = 11 := by rw [List.length_set]; exact l4
      generalize σ4.set 8 (some u6) = σ6 at t6 f2 f3 f4 p6 l6 ⊢
      refine st_new (A := IntR) (xs := [LF.kindM (LF.hessianM n q)]) o6.kn (el_cons (ev_call1 t6.ev SQ) el_nil) (by show 1 ≤ _; decide) fun p H7 G7 o7 hp m7 => ?_
      have f2 := (f2.mono o7.up).put (k := 9) (v := some (.ref p)) (by decide)
      have f3 := (f3.mono o7.up).put (k := 9) (v := some (.ref p)) (by decide)
      have f4 := (f4.mono o7.up).put (k := 9) (v := some (.ref p)) (by decide)
      have p7 := (p6.mono o7.up).put (k := 9) (v := some (.ref p)) (by decide)
      have q7 : (σ6.set 9 (some (.ref p)))[9]? = some (some (.ref p)) := List.getElem?_set_self (by omega)
      have l7 : (σ6.set 9 (some (.ref p))).length = 11 := by rw [List.length_set]; exact l6
      generalize σ6.set 9 (some (.ref p)) = σ7 at f2 f3 f4 p7 q7 l7 ⊢
      refine st_exts (k := 9) (fun t => LF.listP (LF.ratio t f.2)) o7 hp m7 q7 (src_list (ev_fst p7.ev)) (tg_name 10) (by decide) (by unfold inb; rw [l7]; rfl) (fun z hz => by show 2 ≤ 100; decide) (by omega) (by show 1 ≤ 100; decide) (fun i z σ8 G8 hz e8 ag hn => ?_) fun σ8 H8 G8 o8 e8 ag m8' => ?_
      · exact ev_listP (ev_call2 hn.ev (ev_snd ((p7.mono e8).agr ag (by decide)).ev) SO.ne)
      · obtain ⟨G9, o9, e9, r9⟩ := m8'.know o8 hp
        have f2 := ((f2.mono e8).agr ag (by decide)).mono e9
        have f3 := ((f3.mono e8).agr ag (by decide)).mono e9
        have f4 := ((f4.mono e8).agr ag (by decide)).mono e9
        have p9 := ((p7.mono e8).agr ag (by decide)).mono e9
        have VO : ValOk c l q f := ⟨by omega, by omega, by rw [ll]; exact lq, SO, SF.bc, SF.bl, SF.bq⟩
        have hfl : (f.1.flatMap fun t => LF.listP (LF.ratio t f.2)).length = 2 * f.1.length := by
          generalize f.1 = xs
          induction xs with
          | nil => rfl
          | cons x xs ih => rw [List.flatMap_cons, List.length_append, ih, List.length_cons]; show 2 + _ = _; omega
        refine st_ret (A := RowR) o9.kn (ev_cat (ys := LF.listP (LF.valueM c l q f)) (by rw [List.length_append, hfl]; show 1 + _ + 2 ≤ _; omega) (ev_var ((ag.2 9 (by decide)).trans q7) r9) (ev_listP (ev_call4 f2.ev f3.ev f4.ev p9.ev VO))) fun u H10 G10 o10 ru => k u H10 G10 (((o5.trans o6).trans o9).trans o10) ?_
        show RowR.R G10 u (LF.tellStat n c l q)
        rw [e1, if_neg hc, hf]
        exact ru
end
end LW

set_option linter.all false
set_option Elab.async false
set_option maxRecDepth 100000
set_option maxHeartbeats 4000000
namespace LW
open PySem PySem.Spec PyProof.Rows L2
open Evl (Ex)
/-! ## attributes -/
theorem putF_here {f : Str} {v x : V} {r : List (Str × V)} : putF f v ((f, x) :: r) = (f, v) :: r := by unfold putF; rw [if_pos rfl]
theorem putF_past {f g : Str} {v x : V} {r : List (Str × V)} (h : ¬ g = f) : putF f v ((g, x) :: r) = (g, x) :: putF f v r := by conv => lhs; unfold putF; ; rw [if_neg h]
abbrev Fs := List (Str × V)
theorem put1 {v : V} : putF "many" v [] = ([("many", v)] : Fs) := rfl
theorem put2 {v t : V} : putF "terms" t ([("many", v)] : Fs) = ([("many", v), ("terms", t)] : Fs) := by rw [putF_past (by decide +kernel)]; rfl
theorem put3 {v t r : V} : putF "rows" r ([("many", v), ("terms", t)] : Fs) = ([("many", v), ("terms", t), ("rows", r)] : Fs) := by rw [putF_past (by decide +kernel), putF_past (by decide +kernel)]; rfl
theorem putRows {n : Int} {t r r' : V} : putF "rows" r' (mF n t r) = mF n t r' := by
  show putF "rows" r' [("many", _), ("terms", t), ("rows", r)] = _
  rw [putF_past (by decide +kernel), putF_past (by decide +kernel), putF_here]
  rfl
theorem putTerms {n : Int} {t t' r : V} : putF "terms" t' (mF n t r) = mF n t' r := by
  show putF "terms" t' [("many", _), ("terms", t), ("rows", r)] = _
  rw [putF_past (by decide +kernel), putF_here]
  rfl
section
variable {P : Program} {w : World} {K : PySem.W.Frag} {mg : Str → Option Value} {base : Heap} {a : Ad}
/-! ## the two classes -/
def MdlSp (K : PySem.W.Frag) (a : Ad) : Sp := fun vs H Q _ => ∃ (G : Hp) (x dx : Addr) (n : Nat), vs = [.ref x, .int (n : Int)] ∧ H x = some (.ins a.cM dx []) ∧ Ex G H ∧ G x = none ∧ n ≤ 8 ∧
  ∀ H2 G2 t r, (∀ b u, b ≠ x → H b = some u → H2 b = some u) → Ex G2 H2 → Ex G G2 → (∀ b, G b = none → H b ≠ none → G2 b = none) → H2 x = some (.ins a.cM dx (mF (n : Int) t r)) →
    RowR.R G2 t ((List.range n).map fun (i : Nat) => (i : Int)) → (ListR (ObsR K)).R G2 r [] → Q .non H2
theorem sc_Model : FnScope ["self", "many"] ["self", "many"] (defScope (inClass (top 29) 0)) := ⟨rfl, rfl, rfl, by decide +kernel, rfl, by decide +kernel, by decide +kernel⟩
theorem rg_ints (n : Nat) : rgV 0 (n : Int) = ((List.range n).map fun (i : Nat) => (i : Int)).map V.int := by
  unfold rgV
  rw [List.map_map, show ((n : Int) - 0).toNat = n by omega]
  refine List.map_congr_left fun i _ => ?_
  show V.int (0 + (i : Int)) = V.int (i : Int)
  rw [Int.zero_add]
theorem knc_Model (T : Wd P w K mg base a) : KnC P w K mg base 41 "Model" a.cM (MdlSp K a) := by
  obtain ⟨f, fd, M, F⟩ := T.mkM
  refine ⟨f, fd, ["self", "many"], T.gM, M, F.binds (fun _ _ _ _ _ _ us hl => match us, hl with | [_, _], _ => rfl), F.ok sc_Model (fun vs H Q E ⟨_, _, _, _, h, _⟩ => by rw [h]; rfl) fun cdv A outer s H vs Q E hr ⟨G, x, dx, n, hv, hx, e, gx, n8, k⟩ => ⟨_, (pss_cons (ps_fld (pv 0) (pv 1) rfl) (pss_cons (ps_fld (pv 0) (pe_listRg rfl rfl T.b_list (prg_1 rfl T.b_range (pv 1))) rfl) (pss_one (ps_fld (pv 0) (pe_lst pa_nil) rfl)))), ?_⟩⟩
  subst hv
  refine ⟨.int (n : Int), rfl, .ref x, rfl, x, a.cM, dx, [], rfl, hx, T.clM, T.nMmany, by decide, ?_⟩
  refine ⟨.int (n : Int), rfl, n, rfl, RgOk.of_le (by decide) (by omega) (by decide) (by omega), fun q hq => ⟨.ref x, rfl, x, a.cM, dx, [("many", .int (n : Int))], rfl, ?_, T.clM, T.nMterms, by show 1 < 1000; decide, ?_⟩⟩
  · have qx : q ≠ x := fun z => by rw [z, upd_same] at hq; cases hq
    rw [upd_ne (Ne.symm qx), upd_same]
    rfl
  · have qx : q ≠ x := fun z => by rw [z, upd_same] at hq; cases hq
    have hq0 : H q = none := by rw [upd_ne qx] at hq; exact hq
    refine ⟨by show 0 ≤ sizeLine; exact Nat.zero_le _, fun q2 hq2 => ⟨.ref x, rfl, x, a.cM, dx, [("many", .int (n : Int)), ("terms", .ref q)], rfl, ?_, T.clM, T.nMrows, by show 2 < 1000; decide, ?_⟩⟩
    · have q2x : q2 ≠ x := fun z => by rw [z, upd_same] at hq2; cases hq2
      rw [upd_ne (Ne.symm q2x), upd_same, put2]
    · have q2x : q2 ≠ x := fun z => by rw [z, upd_same] at hq2; cases hq2
      rw [upd_ne q2x] at hq2
      have q2q : q2 ≠ q := fun z => by rw [z, upd_same] at hq2; cases hq2
      have hq20 : H q2 = none := by rw [upd_ne q2q, upd_ne q2x] at hq2; exact hq2
      have gq : G q = none := Evl.fresh_back e hq0
      have gq2 : G q2 = none := Evl.fresh_back e hq20
      refine k _ (upd (upd G q (.lst (rgV 0 (n : Int)))) q2 (.lst [])) (.ref q) (.ref q2) (fun b u hb hu => ?_) (fun b u hb => ?_) (fun b u hb => ?_) (fun b h1 h2 => ?_) (by rw [upd_same, put3]; rfl) ⟨q, _, rfl, by rw [upd_ne (Ne.symm q2q), upd_same], by rw [rg_ints]; exact All2.ofI _⟩ ⟨q2, [], rfl, upd_same, trivial⟩
      · have c1 : b ≠ q2 := fun z => by rw [z, hq20] at hu; cases hu
        have c2 : b ≠ q := fun z => by rw [z, hq0] at hu; cases hu
        rw [upd_ne hb, upd_ne c1, upd_ne hb, upd_ne c2, upd_ne hb]
        exact hu
      · by_cases c1 : b = q2
        · rw [c1, upd_same] at hb
          rw [c1, upd_ne q2x, upd_same]; exact hb
        · rw [upd_ne c1] at hb
          by_cases c2 : b = q
          · rw [c2, upd_same] at hb
            rw [c2, upd_ne qx, upd_ne (Ne.symm q2q), upd_ne qx, upd_same]; exact hb
          · rw [upd_ne c2] at hb
            have c3 : b ≠ x := fun z => by rw [z, gx] at hb; cases hb
            rw [upd_ne c3, upd_ne c1, upd_ne c3, upd_ne c2, upd_ne c3]
            exact e _ _ hb
      · have hu := e _ _ hb
        have c1 : b ≠ q2 := fun z => by rw [z, hq20] at hu; cases hu
        have c2 : b ≠ q := fun z => by rw [z, hq0] at hu; cases hu
        rw [upd_ne c1, upd_ne c2]
        exact hb
      · have c1 : b ≠ q2 := fun z => h2 (by rw [z]; exact hq20)
        have c2 : b ≠ q := fun z => h2 (by rw [z]; exact hq0)
        rw [upd_ne c1, upd_ne c2]
        exact h1
/-- Model(n) -/
theorem mk_model {te : TE} {σ : L2.St} {G H : Hp} {n : Nat} {Q : VK} {E : XK} (h : EV te σ G IntR (n : Int)) (e : Ex G H) (n8 : n ≤ 8)
    (k : ∀ x dx H2 G2 t r, Ok G H H2 G2 → H x = none → G2 x = none → H2 x = some (.ins a.cM dx (mF (n : Int) t r)) → RowR.R G2 t ((List.range n).map fun (i : Nat) => (i : Int)) → (ListR (ObsR K)).R G2 r [] → Q (.ref x) H2) : tMake a.cM (MdlSp K a) [] E (tCons te tNil) σ H Q :=
  h G H (Ex.refl _) e _ fun v H1 G1 o1 r => fun x dx hx hdx hne => by
    have r : v = .int (n : Int) := r
    subst r
    have gx := Evl.fresh_back o1.kn hx
    have gdx := Evl.fresh_back o1.kn hdx
    have hx0 := Evl.fresh_back o1.ex hx
    have hdx0 := Evl.fresh_back o1.ex hdx
    refine ⟨G1, x, dx, n, rfl, upd_same, fun b u hb => ?_, gx, n8, fun H2 G2 t r fr kn up no hx2 rt rr => ⟨rfl, ?_⟩⟩
    · have hu := o1.kn _ _ hb
      rw [upd_ne (fun z => by rw [z, hx] at hu; cases hu), upd_ne (fun z => by rw [z, hdx] at hu; cases hu)]
      exact hu
    · refine k x dx H2 G2 t r ⟨fun b u hb => ?_, kn, o1.up.trans up, fun b h1 h2 => ?_⟩ hx0 ?_ hx2 rt rr
      · have hu := o1.ex _ _ hb
        have c1 : b ≠ x := fun z => by rw [z, hx] at hu; cases hu
        refine fr b u c1 ?_
        rw [upd_ne c1, upd_ne (fun z => by rw [z, hdx] at hu; cases hu)]
        exact hu
      · refine no b (o1.no b h1 h2) ?_
        have c1 : b ≠ x := fun z => h2 (by rw [z]; exact hx0)
        rw [upd_ne c1, upd_ne (fun z => h2 (by rw [z]; exact hdx0))]
        intro z
        cases q : H b with
        | none => exact h2 q
        | some u => rw [o1.ex _ _ q] at z; cases z
      · exact no x gx (by rw [upd_same]; exact fun z => by cases z)
theorem st_mk {te : TE} {tz : TS} {D : Ends} {σ : L2.St} {G H : Hp} {n i : Nat} {E : XK} (h : EV te σ G IntR (n : Int)) (e : Ex G H) (n8 : n ≤ 8)
    (k : ∀ x dx H2 G2 t r, Ok G H H2 G2 → H x = none → G2 x = none → H2 x = some (.ins a.cM dx (mF (n : Int) t r)) → RowR.R G2 t ((List.range n).map fun (i : Nat) => (i : Int)) → (ListR (ObsR K)).R G2 r [] → tz D (σ.set i (some (.ref x))) H2) :
    tSeq (tAsg (tMake a.cM (MdlSp K a) [] E (tCons te tNil)) (gName i)) tz D σ H := mk_model (Q := fun v H1 => tz D (σ.set i (some v)) H1) h e n8 k
/-- model.f = .. -/
theorem st_fld {α : Type} {A : RelS α} {x : α} {te : TE} {tz : TS} {D : Ends} {σ : L2.St} {G H : Hp} {i : Nat} {f : Str} {p C dx : Addr} {fs : List (Str × V)} (e : Ex G H) (h : EV te σ G A x) (hs : σ[i]? = some (some (.ref p))) (hp : H p = some (.ins C dx fs)) (c : Cls K C) (na : NoAttr K C f) (lt : fs.length < 1000)
    (k : ∀ v H2 G2, Ok G H H2 G2 → A.R G2 v x → tz D σ (upd H2 p (.ins C dx (putF f v fs)))) : tSeq (sFld K (tVar i) te f) tz D σ H :=
  h G H (Ex.refl _) e _ fun v H2 G2 o r => ⟨.ref p, hs, p, C, dx, fs, rfl, o.ex _ _ hp, c, na, lt, k v H2 G2 o r⟩
def woM (m : Kxd4.Model) (i : Nat) : Kxd4.Model := ⟨m.columns, List.range m.columns, m.data.take i ++ m.data.drop (i + 1)⟩
theorem sc_model_without : FnScope ["model", "index", "other"] ["model", "index"] (defScope (top 102)) := ⟨rfl, rfl, rfl, by decide +kernel, rfl, by decide +kernel, by decide +kernel⟩
theorem kn_model_without (T : Wd P w K mg base a) : Kn P w K mg base 43 "model_without" (FnS (ModelR K a) (Pre2 (ModelR K a) NatR (fun m i => m.columns ≤ 8 ∧ m.data.length ≤ 100) woM)) := by
  refine T.d_model_without.kn sc_model_without (fun _ _ _ _ _ _ us hl => match us, hl with | [_, _], _ => rfl) (fun G vs y ⟨v, w, _, _, h, _⟩ => by rw [h]; rfl) fun cdv f A outer s H E hr => ⟨_, (pss_cons (ps_set (i := 2) sc_model_without.nd rfl (Or.inl rfl) (pe_knC (knc_Model T) (hr.mono (by decide)) rfl (pa_cons (pe_fldK (K := K) rfl (pv 0) rfl) pa_nil))) (pss_cons (ps_fld (pv 2) (pe_op op_cat (pe_slice (sl_listK (K := K) rfl) (pe_fldK (K := K) rfl (pv 0) rfl) po_none (po_some (pv 1))) (pe_slice (sl_listK (K := K) rfl) (pe_fldK (K := K) rfl (pv 0) rfl) (po_some (pe_op op_add (pv 1) pe_int)) po_none)) rfl) (pss_one (ps_ret (pv 2))))), fun vs G y D e h k => ?_⟩
  obtain ⟨v1, v2, m, i, rfl, hm, hi, ⟨c8, dl⟩, rfl⟩ := h
  have hi' : IntR.R G v2 (i : Int) := hi
  refine st_mk (ev_many T (ev_var rfl hm)) e c8 fun x dx H2 G2 t r o2 hx gx hx2 rt rr => ?_
  have hm2 := (ModelR K a).st o2.up hm
  have hi2 := IntR.st o2.up hi'
  have ev : EV (tOp rCat (tSl (rSlL K) (tFld K (tVar 0) "rows") tNoPart (tPart (tVar 1))) (tSl (rSlL K) (tFld K (tVar 0) "rows") (tPart (tOp rAddI (tVar 1) (tC (.int 1)))) tNoPart)) [some v1, some v2, some (.ref x)] G2 (ListR (ObsR K)) ((m.data.map rowP).take i ++ (m.data.map rowP).drop (i + 1)) :=
    ev_cat (by rw [List.length_take, List.length_drop, List.length_map]; omega) (ev_sliceTo (n := i) rfl (ev_rows T (ev_var rfl hm2)) (ev_var rfl hi2)) (ev_sliceFrom (n := i + 1) (by omega) (ev_rows T (ev_var rfl hm2)) (ev_add (ev_var rfl hi2) ev_int))
  refine st_fld o2.kn ev rfl hx2 T.clM T.nMrows (by show 3 < 1000; decide) fun u3 H3 G3 o3 r3 => ?_
  have gx3 : G3 x = none := o3.no x gx (by rw [hx2]; exact fun z => by cases z)
  have o23 := (o2.trans o3).mut (o := .ins a.cM dx (mF (m.columns : Int) t u3)) hx gx3
  have o4 : Ok G H (upd H3 x (.ins a.cM dx (mF (m.columns : Int) t u3))) (upd G3 x (.ins a.cM dx (mF (m.columns : Int) t u3))) := ⟨o23.ex, fun b u hb => by
      by_cases c : b = x
      · rw [c, upd_same] at hb ⊢; exact hb
      · rw [upd_ne c] at hb ⊢; exact o3.kn b u hb, o23.up.trans (Ex.new gx3), fun b h1 h2 => by
      have c : b ≠ x := fun z => h2 (by rw [z]; exact hx)
      rw [upd_ne c]
      exact o23.no b h1 h2⟩
  rw [putRows]
  have rm : (ModelR K a).R (upd G3 x (.ins a.cM dx (mF (m.columns : Int) t u3))) (.ref x) (woM m i) := by
    refine ⟨x, dx, t, u3, rfl, upd_same, RowR.st (o3.up.trans (Ex.new gx3)) rt, ?_⟩
    have := (ListR (ObsR K)).st (Ex.new (o := .ins a.cM dx (mF (m.columns : Int) t u3)) gx3) r3
    rw [← List.map_take, ← List.map_drop, ← List.map_append] at this
    exact this
  exact st_ret (A := ModelR K a) o4.kn (ev_var (i := 2) rfl rm) fun u H5 G5 o5 ru => k u H5 G5 (o4.trans o5) ru
theorem wo_data (m : Kxd4.Model) (i : Nat) : (woM m i).data = (Kxd4.without m i).data := by
  show _ = m.data.eraseIdx i
  rw [List.eraseIdx_eq_take_drop_succ]
  rfl
theorem good_wo {m : Kxd4.Model} (g : LF.Good m) (i : Nat) : LF.Good (woM m i) := by
  have g2 := g.without i
  have c1 := g.c1
  have hd := wo_data m i
  exact ⟨g.c1, g.c8, List.length_range, by
    show (List.range m.columns).getD 0 1 = 0
    rw [List.getD_eq_getElem?_getD, List.getElem?_range (by omega)]; rfl, fun j hj => by
    have hj : j + 1 < m.columns := hj
    right
    show (List.range m.columns).getD (j + 1) 0 = (List.range m.columns).getD j 0 + 1
    rw [List.getD_eq_getElem?_getD, List.getD_eq_getElem?_getD, List.getElem?_range hj, List.getElem?_range (by omega)]; rfl, by rw [hd]; exact g2.n24, by rw [hd]; exact g2.row, by rw [hd]; exact g2.ent, by rw [hd]; exact g2.resp⟩
theorem wo_est (m : Kxd4.Model) (i : Nat) (v : List Int) : LF.estimableM (woM m i) v = LF.estimableM (Kxd4.without m i) v ∧ LF.estimateM (woM m i) v = LF.estimateM (Kxd4.without m i) v := by
  have hd := wo_data m i
  have e1 : LF.ents (woM m i) = LF.ents (Kxd4.without m i) := by unfold LF.ents; rw [hd]
  have e2 : LF.resps (woM m i) = LF.resps (Kxd4.without m i) := by unfold LF.resps; rw [hd]
  constructor
  · unfold LF.estimableM
    rw [e1]
    rfl
  · unfold LF.estimateM LF.solP
    rw [e1, e2]
    rfl
theorem sc_tell_lost_value : FnScope ["desk", "numbers", "lists", "model", "response", "entries", "other"] ["desk", "numbers", "lists"] (defScope (top 103)) := ⟨rfl, rfl, rfl, by decide +kernel, rfl, by decide +kernel, by decide +kernel⟩
theorem kn_tell_lost_value (T : Wd P w K mg base a) : Kn P w K mg base 60 "tell_lost_value" (Tell K a (fun m ns _ => LF.Good m ∧ One1 ns) fun m ns _ => LF.tellLost m (ns.getD 0 0).toNat) := by
  refine T.d_tell_lost_value.kn sc_tell_lost_value (fun _ _ _ _ _ _ us hl => match us, hl with | [_, _, _], _ => rfl) (fun G vs y ⟨_, _, _, _, _, _, h, _⟩ => by rw [h]; rfl) fun cdv f A outer s H E hr => ⟨_, (pss_cons (ps_set (i := 3) sc_tell_lost_value.nd rfl (Or.inl rfl) (pe_fldK (K := K) rfl (pv 0) rfl)) (pss_cons (ps_if (pt_not (pt_val (pe_kn (kn_is_index T) (hr.mono (by decide)) rfl (pa_cons (pv 3) (pa_cons (pe_ix (ix_listK (K := K) rfl) (pv 1) pe_int (fun _ _ => rfl)) pa_nil))))) (pss_one (ps_ret (pe_lst (pa_cons (pe_gint T.g_NO_SUCH rfl) pa_nil)))) pss_nil) (pss_cons (ps_asg (pe_ix (ix_listK (K := K) rfl) (pe_fldK (K := K) rfl (pv 3) rfl) (pe_ix (ix_listK (K := K) rfl) (pv 1) pe_int (fun _ _ => rfl)) (fun _ _ => rfl)) (pg_tupK (K := K) (n := 2) rfl rfl (pgs_cons (pg_name (i := 4) sc_tell_lost_value.nd rfl (Or.inl rfl)) (pgs_cons (pg_name (i := 5) sc_tell_lost_value.nd rfl (Or.inl rfl)) pgs_nil)))) (pss_cons (ps_set (i := 6) sc_tell_lost_value.nd rfl (Or.inl rfl) (pe_kn (kn_model_without T) (hr.mono (by decide)) rfl (pa_cons (pv 3) (pa_cons (pe_ix (ix_listK (K := K) rfl) (pv 1) pe_int (fun _ _ => rfl)) pa_nil)))) (pss_cons (ps_if (pt_not (pt_val (pe_kn (kn_is_estimable T) (hr.mono (by decide)) rfl (pa_cons (pv 6) (pa_cons (pv 5) pa_nil))))) (pss_one (ps_ret (pe_lst (pa_cons (pe_gint T.g_NO_RESULT rfl) pa_nil)))) pss_nil) (pss_one (ps_ret (pe_op op_cat (pe_lst (pa_cons pe_int pa_nil)) (pe_callTy (cr_listK (K := K) rfl) rfl T.b_list (by decide +kernel) (pa_cons (pe_kn (kn_estimate_of T) (hr.mono (by decide)) rfl (pa_cons (pv 6) (pa_cons (pv 5) pa_nil))) pa_nil)))))))))), fun vs G y D e h k => ?_⟩
  obtain ⟨v1, v2, v3, m, ns, ls, rfl, h1, h2, h3, ⟨g, i, rfl⟩, rfl⟩ := h
  have n24 := g.n24
  refine st_set (A := ModelR K a) (x := m) e (ev_model T (ev_var rfl h1)) fun u1 H1 G1 o1 r1 => ?_
  have hn : EV (tVar 1) ((start ["desk", "numbers", "lists", "model", "response", "entries", "other"] [v1, v2, v3]).set 3 (some u1)) G1 RowR [(i : Int)] := ev_var rfl (RowR.st o1.up h2)
  refine st_when o1.kn (et_not (et_B (ev_call2 (ev_var rfl r1) (ev_num0 (ns := []) hn) trivial))) (fun hb H3 e3 => ?_) (fun hb H3 e3 => ?_)
  · rw [isIndex_nat] at hb
    have hb : ¬ i < m.data.length := by simpa using hb
    refine st_ret (A := RowR) (x := [-2]) (o1.kn.trans e3) (ev_one ev_int) fun u H4 G4 o4 ru => k u H4 G4 ((o1.trans (Ok.grow o1.kn e3)).trans o4) ?_
    show RowR.R G4 u (LF.tellLost m i)
    unfold LF.tellLost
    rw [data_none hb]
    exact ru
  · rw [isIndex_nat] at hb
    have hb : i < m.data.length := by simpa using hb
    have o3 := o1.trans (Ok.grow o1.kn e3)
    have e1 : LF.tellLost m i = if LF.estimableM (woM m i) (obsD m i).row = false then [-33] else 0 :: LF.listP (LF.estimateM (woM m i) (obsD m i).row) := by
      unfold LF.tellLost
      rw [obs_at hb, (wo_est m i _).1, (wo_est m i _).2]
    have gw := good_wo g i
    have VR := vec_row g (obs_mem hb)
    have V : Vec (woM m i) (obsD m i).row := ⟨VR.len, VR.bn⟩
    refine st_unp (A := PairR K IntR RowR) (x := rowP (obsD m i)) o3.kn (tg_pair 4 5 (by decide)) rfl (ev_ix (n := i) rfl (rows_at hb) (ev_rows T (ev_var rfl r1)) (ev_num0 (ns := []) hn)) fun σ2 H2 G2 o2 a2 ⟨f1, f2⟩ => ?_
    have l2 : σ2.length = 7 := a2.1
    have hm2 : EV (tVar 3) σ2 G2 (ModelR K a) m := ev_var ((a2.2 3 (by decide)).trans rfl) ((ModelR K a).st o2.up r1)
    have hn2 : EV (tVar 1) σ2 G2 RowR [(i : Int)] := ev_var ((a2.2 1 (by decide)).trans rfl) (RowR.st (o1.up.trans o2.up) h2)
    refine st_set (A := ModelR K a) (x := woM m i) o2.kn (ev_call2 hm2 (ev_num0N hn2) ⟨g.c8, by omega⟩) fun u4 H4 G4 o4 r4 => ?_
    have f24 := (f2.mono o4.up).put (k := 6) (v := some u4) (by decide)
    have h4 : At (ModelR K a) 6 G4 (σ2.set 6 (some u4)) (woM m i) := At.set (by omega) r4
    have o24 := (o3.trans o2).trans o4
    refine st_when o4.kn (et_not (et_B (ev_call2 h4.ev f24.ev ⟨gw, V⟩))) (fun hc H5 e5 => ?_) (fun hc H5 e5 => ?_)
    · refine st_ret (A := RowR) (x := [-33]) (o4.kn.trans e5) (ev_one ev_int) fun u H6 G6 o6 ru => k u H6 G6 ((o24.trans (Ok.grow o4.kn e5)).trans o6) ?_
      show RowR.R G6 u (LF.tellLost m i)
      have hc : LF.estimableM (woM m i) (obsD m i).row = false := by rw [Bool.not_eq_true'] at hc; exact hc
      rw [e1, if_pos hc]
      exact ru
    · refine st_ret (A := RowR) (o4.kn.trans e5) (ev_told1 ev_int (ev_call2 h4.ev f24.ev ⟨gw, V⟩)) fun u H6 G6 o6 ru => k u H6 G6 ((o24.trans (Ok.grow o4.kn e5)).trans o6) ?_
      show RowR.R G6 u (LF.tellLost m i)
      have hc : LF.estimableM (woM m i) (obsD m i).row = true := by rw [Bool.not_eq_false'] at hc; exact hc
      rw [e1, if_neg (by rw [hc]; exact fun z => by cases z)]
      exact ru
end
end LW

set_option linter.all false
set_option Elab.async false
set_option maxRecDepth 100000
set_option maxHeartbeats 4000000
namespace LW
open PySem PySem.Spec PyProof.Rows L2
open Evl (Ex)
/-! ## instances change: the known heap without them -/
def isIns : HO → Bool
  | .ins _ _ _ => true
  | _ => false
def NoIns (G : Hp) : Prop := ∀ b u, G b = some u → isIns u = false
def strip (G : Hp) : Hp := fun b => (G b).filter fun u => !isIns u
theorem strip_some {G : Hp} {b : Addr} {u : HO} : strip G b = some u ↔ G b = some u ∧ isIns u = false := by
  unfold strip
  rw [Option.filter_eq_some_iff, Bool.not_eq_true']
theorem strip_none {G : Hp} {b : Addr} (h : G b = none) : strip G b = none := by unfold strip; rw [h]; rfl
theorem strip_ins {G : Hp} {b : Addr} {u : HO} (h : G b = some u) (i : isIns u = true) : strip G b = none := by
  unfold strip
  rw [h, Option.filter_some, if_neg (by rw [i]; exact fun z => by cases z)]
theorem strip_ni (G : Hp) : NoIns (strip G) := fun b u h => (strip_some.mp h).2
structure DOk (G H H2 G2 : Hp) : Prop where
  kl : ∀ b u, H b = some u → isIns u = false → H2 b = some u
  kn : Ex G2 H2
  up : Ex G G2
  no : ∀ b, G b = none → H b ≠ none → G2 b = none
  ni : NoIns G2
  th : ∀ b, H b ≠ none → H2 b ≠ none
theorem DOk.trans {G H H2 G2 H3 G3 : Hp} (a : DOk G H H2 G2) (b : DOk G2 H2 H3 G3) : DOk G H H3 G3 :=
  ⟨fun c u h i => b.kl c u (a.kl c u h i) i, b.kn, a.up.trans b.up, fun c h1 h2 => b.no c (a.no c h1 h2) (a.th c h2), b.ni, fun c h => b.th c (a.th c h)⟩
structure Full (G G1 : Hp) : Prop where
  at_ : ∀ b, G1 b = G b ∨ (G b = none ∧ ∃ u, G1 b = some u ∧ isIns u = true)
theorem Full.refl (G : Hp) : Full G G := ⟨fun _ => .inl rfl⟩
theorem Full.up {G G1 : Hp} (F : Full G G1) : Ex G G1 := fun b u h => by
  rcases F.at_ b with c | ⟨c, _⟩
  · rw [c]; exact h
  · rw [c] at h; cases h
theorem Full.dok {G G1 H H2 G2 : Hp} (F : Full G G1) (ni : NoIns G) (o : Ok G1 H H2 G2) : DOk G H H2 (strip G2) where
  kl := fun b u h _ => o.ex b u h
  kn := fun b u h => o.kn b u (strip_some.mp h).1
  up := fun b u h => strip_some.mpr ⟨o.up b u (F.up b u h), ni b u h⟩
  no := fun b h1 h2 => by
    rcases F.at_ b with c | ⟨_, u, c, i⟩
    · exact strip_none (o.no b (c.trans h1) h2)
    · exact strip_ins (o.up b u c) i
  ni := strip_ni G2
  th := fun b h => by
    cases q : H b with
    | none => exact absurd q h
    | some u => rw [o.ex b u q]; exact fun z => by cases z
theorem DOk.mut {G H H2 G2 : Hp} {p : Addr} {u v : HO} (d : DOk G H H2 G2) (hp : H2 p = some u) (hu : isIns u = true) (hh : H p ≠ none → ∀ w, H p = some w → isIns w = true) : DOk G H (upd H2 p v) G2 where
  kl := fun b w h i => by
    have c : b ≠ p := fun z => by
      rw [z] at h
      rw [hh (by rw [h]; exact fun z => by cases z) w h] at i
      cases i
    rw [upd_ne c]
    exact d.kl b w h i
  kn := fun b w h => by
    have c : b ≠ p := fun z => by
      have h2 := d.kn b w h
      rw [z, hp] at h2
      have e : u = w := Option.some.inj h2
      have := d.ni b w h
      rw [← e, hu] at this
      cases this
    rw [upd_ne c]
    exact d.kn b w h
  up := d.up
  no := d.no
  ni := d.ni
  th := fun b h => by
    by_cases c : b = p
    · rw [c, upd_same]; exact fun z => by cases z
    · rw [upd_ne c]; exact d.th b h
section
variable {P : Program} {w : World} {K : PySem.W.Frag} {mg : Str → Option Value} {base : Heap} {a : Ad}
def Sp' {α : Type} (A : RelS α) : Prop := ∀ H v x, A.R H v x → A.R (strip H) v x
theorem sp_int : Sp' IntR := fun _ _ _ h => h
theorem sp_list {α : Type} {A : RelS α} (h : Sp' A) : Sp' (ListR A) := fun H v x ⟨b, vs, h1, h2, h3⟩ => ⟨b, vs, h1, strip_some.mpr ⟨h2, rfl⟩, h3.imp fun _ _ => h H _ _⟩
theorem sp_sqt {H : Hp} {b : Addr} {xs : List V} (h : SqT K H b xs) : SqT K (strip H) b xs := by
  rcases h with h | h
  · rcases h with h | ⟨ob, h⟩
    · exact .inl (.inl (strip_some.mpr ⟨h, rfl⟩))
    · exact .inl (.inr ⟨ob, strip_some.mpr ⟨h, rfl⟩⟩)
  · exact .inr h
theorem sp_pair {α β : Type} {A : RelS α} {B : RelS β} (h : Sp' A) (k : Sp' B) : Sp' (PairR K A B) := fun H v x ⟨b, u, w, h1, h2, h3, h4⟩ => ⟨b, u, w, h1, sp_sqt h2, h H _ _ h3, k H _ _ h4⟩
theorem sp_row : Sp' RowR := sp_list sp_int
theorem sp_tab : Sp' TabR := sp_list sp_row
theorem sp_obs : Sp' (ListR (ObsR K)) := sp_list (sp_pair sp_int sp_row)
/-! ## the desk -/
structure DkV (K : PySem.W.Frag) (a : Ad) (G H : Hp) (p : Addr) (mv : V) (m : Kxd4.Model) : Prop where
  ex : ∃ dx pm dm t r, H p = some (.ins a.cD dx [("model", mv)]) ∧ mv = .ref pm ∧ H pm = some (.ins a.cM dm (mF m.columns t r)) ∧ RowR.R G t (termsI m) ∧ (ListR (ObsR K)).R G r (m.data.map rowP)
def Dk (K : PySem.W.Frag) (a : Ad) (G H : Hp) (p : Addr) : Option Kxd4.Model → Prop
  | none => ∃ dx, H p = some (.ins a.cD dx [("model", .non)])
  | some m => ∃ mv, DkV K a G H p mv m
/-- the desk at p, its model's value mv -/
def DeskP (K : PySem.W.Frag) (a : Ad) (p : Addr) (mv : V) : RelS Kxd4.Model :=
  ⟨fun H v m => v = .ref p ∧ (∃ dx, H p = some (.ins a.cD dx [("model", mv)])) ∧ (ModelR K a).R H mv m, fun e ⟨h1, ⟨dx, h2⟩, h3⟩ => ⟨h1, ⟨dx, e _ _ h2⟩, (ModelR K a).st e h3⟩⟩
def ModelP (K : PySem.W.Frag) (a : Ad) (mv : V) : RelS Kxd4.Model := ⟨fun H v m => v = mv ∧ (ModelR K a).R H v m, fun e ⟨h1, h2⟩ => ⟨h1, (ModelR K a).st e h2⟩⟩
theorem DeskP.desk {H : Hp} {v : V} {p : Addr} {mv : V} {m : Kxd4.Model} (h : (DeskP K a p mv).R H v m) : (DeskR K a).R H v m := by
  obtain ⟨h1, ⟨dx, h2⟩, h3⟩ := h
  exact ⟨p, dx, mv, h1, h2, h3⟩
theorem ev_modelP (T : Wd P w K mg base a) {te : TE} {σ : L2.St} {H : Hp} {p : Addr} {mv : V} {m : Kxd4.Model} (h : EV te σ H (DeskP K a p mv) m) : EV (tFld K te "model") σ H (ModelP K a mv) m := fun G H1 e e1 Q q => h G H1 e e1 _ fun v H2 G2 o ⟨h1, ⟨dx, h2⟩, h3⟩ =>
  ⟨p, a.cD, dx, _, _, h1, o.kn _ _ h2, T.clD, T.nDmodel, lk_here, q _ H2 G2 o ⟨rfl, h3⟩⟩
theorem DkV.pack {G H : Hp} {p : Addr} {mv : V} {m : Kxd4.Model} (ni : NoIns G) (e : Ex G H) (d : DkV K a G H p mv m) : ∃ G1, Full G G1 ∧ Ex G1 H ∧ (DeskP K a p mv).R G1 (.ref p) m := by
  obtain ⟨dx, pm, dm, t, r, h1, rfl, h3, h4, h5⟩ := d.ex
  have hne : pm ≠ p := ne_of h3 h1 (fun z => by
    have := (HO.ins.inj z).2.2
    cases this)
  have g : ∀ b u, H b = some u → isIns u = true → G b = none := fun b u h i => by
    cases q : G b with
    | none => rfl
    | some v =>
      have := e b v q
      rw [h] at this
      have e2 : u = v := Option.some.inj this
      have := ni b v q
      rw [← e2, i] at this
      cases this
  have gp := g p _ h1 rfl
  have gm := g pm _ h3 rfl
  refine ⟨upd (upd G p (.ins a.cD dx [("model", .ref pm)])) pm (.ins a.cM dm (mF m.columns t r)), ⟨fun b => ?_⟩, fun b u hb => ?_, rfl, ⟨dx, by rw [upd_ne (Ne.symm hne), upd_same]⟩, pm, dm, t, r, rfl, upd_same, ?_, ?_⟩
  · by_cases c : b = pm
    · rw [c]; exact .inr ⟨gm, _, upd_same, rfl⟩
    · by_cases c2 : b = p
      · rw [c2, upd_ne (Ne.symm hne)]; exact .inr ⟨gp, _, upd_same, rfl⟩
      · rw [upd_ne c, upd_ne c2]; exact .inl rfl
  · by_cases c : b = pm
    · rw [c, upd_same] at hb; rw [c, h3]; exact hb
    · rw [upd_ne c] at hb
      by_cases c2 : b = p
      · rw [c2, upd_same] at hb; rw [c2, h1]; exact hb
      · rw [upd_ne c2] at hb; exact e b u hb
  · exact RowR.st ((Ex.new gp).trans (Ex.new (by rw [upd_ne hne]; exact gm))) h4
  · exact (ListR (ObsR K)).st ((Ex.new gp).trans (Ex.new (by rw [upd_ne hne]; exact gm))) h5
theorem DkV.of {G2 H2 : Hp} {v : V} {p : Addr} {mv : V} {m : Kxd4.Model} (h : (DeskP K a p mv).R G2 v m) (e : Ex G2 H2) : DkV K a (strip G2) H2 p mv m := by
  obtain ⟨h1, ⟨dx, h2⟩, pm, dm, t, r, h3, h4, h5, h6⟩ := h
  exact ⟨dx, pm, dm, t, r, e _ _ h2, h3, e _ _ h4, sp_row _ _ _ h5, sp_obs _ _ _ h6⟩
theorem Dk.ok {G H H2 G2 : Hp} {p : Addr} {om : Option Kxd4.Model} (o : Ok G H H2 G2) (d : Dk K a G H p om) : Dk K a (strip G2) H2 p om := by
  cases om with
  | none => obtain ⟨dx, h⟩ := d; exact ⟨dx, o.ex _ _ h⟩
  | some m =>
    obtain ⟨mv, ⟨dx, pm, dm, t, r, h1, h2, h3, h4, h5⟩⟩ := d
    exact ⟨mv, ⟨dx, pm, dm, t, r, o.ex _ _ h1, h2, o.ex _ _ h3, sp_row _ _ _ (RowR.st o.up h4), sp_obs _ _ _ ((ListR (ObsR K)).st o.up h5)⟩⟩
/-! ## the deeds' promise -/
abbrev DF := Option Kxd4.Model → List Int → List (List Int) → Option Kxd4.Model × List Int
abbrev DPr := Option Kxd4.Model → List Int → List (List Int) → Prop
def DSp (K : PySem.W.Frag) (a : Ad) (pre : DPr) (f : DF) : Sp := fun vs H Q _ => ∃ (G : Hp) (p : Addr) (om : Option Kxd4.Model) (v2 v3 : V) (ns : List Int) (ls : List (List Int)), vs = [.ref p, v2, v3] ∧ NoIns G ∧ Ex G H ∧ Dk K a G H p om ∧ RowR.R G v2 ns ∧ TabR.R G v3 ls ∧ pre om ns ls ∧
  ∀ u H2 G2, DOk G H H2 G2 → Dk K a G2 H2 p (f om ns ls).1 → RowR.R G2 u (f om ns ls).2 → Q u H2
def telF (g : Kxd4.Model → List Int → List (List Int) → List Int) : DF := fun om ns ls => (om, match om with
  | some m => g m ns ls
  | none => [])
def telP (pre : Kxd4.Model → List Int → List (List Int) → Prop) : DPr := fun om ns ls => ∃ m, om = some m ∧ pre m ns ls
theorem tell_dsp {k : Nat} {x : Str} {pre : Kxd4.Model → List Int → List (List Int) → Prop} {g : Kxd4.Model → List Int → List (List Int) → List Int} (F : Kn P w K mg base k x (Tell K a pre g)) : Kn P w K mg base k x (DSp K a (telP pre) (telF g)) := by
  obtain ⟨f, fd, ps, h1, h2, h3, h4⟩ := F.ex
  refine ⟨f, fd, ps, h1, h2, h3, h4.imp fun vs H Q E ⟨G, p, om, v2, v3, ns, ls, hv, ni, e, dk, r2, r3, ⟨m, hm, hp⟩, q⟩ => ?_⟩
  subst hm
  obtain ⟨mv, d⟩ := dk
  obtain ⟨G1, F1, e1, hd⟩ := d.pack ni e
  exact ⟨G1, g m ns ls, e1, ⟨.ref p, v2, v3, m, ns, ls, hv, DeskP.desk hd, RowR.st F1.up r2, TabR.st F1.up r3, hp, rfl⟩, fun u H2 G2 o ru => q u H2 (strip G2) (F1.dok ni o) ⟨mv, .of ((DeskP K a p mv).st o.up hd) o.kn⟩ (sp_row _ _ _ ru)⟩
theorem Df.knD {k n : Nat} {x : Str} {st : Stmt} {N ps : List Str} {pre : DPr} {g : DF} (D : Df K mg x st n) (S : FnScope N ps (defScope st)) (hps : ps.length = 3)
    (bd : ∀ (kV doc pm : Value) (an : Option Addr) (cdv ct : Value) (us : List Value), us.length = ps.length → bindArgs (PySem.W.fnOf x x (defArgs st) (defBody st) (defScope st) .none kV doc pm an cdv ct) ⟨us, []⟩ = pure (ps.zip us))
    (hbody : ∀ (cdv : Value) (f : Addr) (A : Around) (outer : List Env) (s : Shared) (H : Hp) (E : XK), Room k (A.deeper (envOfC x (defScope st) s.heap.objs.size f cdv)) →
      ∃ t, PSs (cxOf CX0 P w K mg base N x (defScope st) f cdv A outer s H E).nox (defBody st) t ∧
        ∀ (G : Hp) (p : Addr) (om : Option Kxd4.Model) (v2 v3 : V) (ns : List Int) (ls : List (List Int)) (D : Ends), NoIns G → Ex G H → Dk K a G H p om → RowR.R G v2 ns → TabR.R G v3 ls → pre om ns ls →
          (∀ u H2 G2, DOk G H H2 G2 → Dk K a G2 H2 p (g om ns ls).1 → RowR.R G2 u (g om ns ls).2 → D.rt u H2) → t D (start N [.ref p, v2, v3]) H) : Kn P w K mg base (k + 1) x (DSp K a pre g) := by
  obtain ⟨f, fd, h1, F⟩ := D.ex
  refine ⟨f, fd, ps, h1, F.kp, F.binds bd, F.ok S (fun vs H Q E ⟨_, _, _, _, _, _, _, h, _⟩ => by rw [h, hps]; rfl) fun cdv A outer s H vs Q E hr ⟨G, p, om, v2, v3, ns, ls, hv, ni, e, dk, r2, r3, hp, q⟩ => ?_⟩
  obtain ⟨t, h1, h2⟩ := hbody cdv f A outer s H E hr
  subst hv
  exact ⟨t, h1, h2 G p om v2 v3 ns ls _ ni e dk r2 r3 hp q⟩
/-- what is told at the end, no instance read -/
theorem fin {G H H2 G2 H3 G3 : Hp} {p : Addr} {om : Option Kxd4.Model} {u : V} {y : List Int} (d : DOk G H H2 G2) (k : Dk K a G2 H2 p om) (o : Ok G2 H2 H3 G3) (r : RowR.R G3 u y) : DOk G H H3 (strip G3) ∧ Dk K a (strip G3) H3 p om ∧ RowR.R (strip G3) u y :=
  ⟨d.trans ((Full.refl G2).dok d.ni o), k.ok o, sp_row _ _ _ r⟩
theorem DOk.refl {G H : Hp} (ni : NoIns G) (e : Ex G H) : DOk G H H G := ⟨fun _ _ h _ => h, e, Ex.refl _, fun _ h _ => h, ni, fun _ h => h⟩
end
end LW

set_option linter.all false
set_option Elab.async false
set_option maxRecDepth 100000
set_option maxHeartbeats 4000000
namespace LW
open PySem PySem.Spec PyProof.Rows L2
open Evl (Ex)
section
variable {P : Program} {w : World} {K : PySem.W.Frag} {mg : Str → Option Value} {base : Heap} {a : Ad}
theorem after_set {G G1 H H3 G3 : Hp} {p pm dm : Addr} {m m' : Kxd4.Model} {n : Int} {t r t' r' : V} (ni : NoIns G) (F1 : Full G G1) (o : Ok G1 H H3 G3) (hd : (DeskP K a p (.ref pm)).R G1 (.ref p) m) (hpm : G3 pm = some (.ins a.cM dm (mF n t r)))
    (rt : RowR.R G3 t' (termsI m')) (rr : (ListR (ObsR K)).R G3 r' (m'.data.map rowP)) : DOk G H (upd H3 pm (.ins a.cM dm (mF m'.columns t' r'))) (strip G3) ∧ DkV K a (strip G3) (upd H3 pm (.ins a.cM dm (mF m'.columns t' r'))) p (.ref pm) m' := by
  have h3 := o.kn _ _ hpm
  obtain ⟨_, ⟨dx, h1⟩, _⟩ := hd
  have h1 := o.up _ _ h1
  have hne : pm ≠ p := ne_of hpm h1 (fun z => by
    have := (HO.ins.inj z).2.2
    cases this)
  refine ⟨(F1.dok ni o).mut h3 rfl fun _ w h => ?_, dx, pm, dm, t', r', by rw [upd_ne (Ne.symm hne)]; exact o.kn _ _ h1, rfl, upd_same, sp_row _ _ _ rt, sp_obs _ _ _ rr⟩
  have := o.ex _ _ h
  rw [h3] at this
  rw [← Option.some.inj this]
  rfl
/-! ## the deeds -/
def createF : DF := fun om ns _ => if 1 ≤ ns.getD 0 0 ∧ ns.getD 0 0 ≤ 8 then (some ⟨(ns.getD 0 0).toNat, List.range (ns.getD 0 0).toNat, []⟩, [0]) else (om, [-22])
theorem sc_create : FnScope ["desk", "numbers", "lists"] ["desk", "numbers", "lists"] (defScope (top 106)) := ⟨rfl, rfl, rfl, by decide +kernel, rfl, by decide +kernel, by decide +kernel⟩
theorem kn_create (T : Wd P w K mg base a) : Kn P w K mg base 60 "create" (DSp K a (fun _ ns _ => One1 ns) createF) := by
  refine T.d_create.knD sc_create rfl (fun _ _ _ _ _ _ us hl => match us, hl with | [_, _, _], _ => rfl) fun cdv f A outer s H E hr => ⟨_, (pss_cons (ps_if (pt_not (pt_chain op_le op_le pe_int (pe_ix (ix_listK (K := K) rfl) (pv 1) pe_int (fun _ _ => rfl)) (pe_gint T.g_MOST_COLUMNS rfl))) (pss_one (ps_ret (pe_lst (pa_cons (pe_gint T.g_OUT_OF_RANGE rfl) pa_nil)))) pss_nil) (pss_cons (ps_fld (pv 0) (pe_knC (knc_Model T) (hr.mono (by decide)) rfl (pa_cons (pe_ix (ix_listK (K := K) rfl) (pv 1) pe_int (fun _ _ => rfl)) pa_nil)) rfl) (pss_one (ps_ret (pe_lst (pa_cons pe_int pa_nil)))))), fun G p om v2 v3 ns ls D ni e dk r2 r3 hp k => ?_⟩
  obtain ⟨n, rfl⟩ := hp
  have hn : EV (tVar 1) (start ["desk", "numbers", "lists"] [.ref p, v2, v3]) G RowR [(n : Int)] := ev_var rfl r2
  refine st_when e (et_not (et_test (ev_chain (p := fun i j => decide (i ≤ j)) (p' := fun i j => decide (i ≤ j)) ev_int (ev_num0 (ns := []) hn) ev_int))) (fun hb H2 e2 => ?_) (fun hb H2 e2 => ?_)
  · have hb : ¬ (1 ≤ (n : Int) ∧ (n : Int) ≤ 8) := by
      have h' : (n : Int) < 1 ∨ 8 < (n : Int) := by simpa using hb
      omega
    have ef : createF om [(n : Int)] ls = (om, [-22]) := if_neg hb
    refine st_ret (A := RowR) (x := [-22]) (e.trans e2) (ev_one ev_int) fun u H4 G4 o4 ru => ?_
    have o := (Ok.grow e e2).trans o4
    refine k u H4 (strip G4) ((Full.refl G).dok ni o) ?_ ?_
    · rw [ef]; exact dk.ok o
    · rw [ef]; exact sp_row _ _ _ ru
  · have hb : 1 ≤ (n : Int) ∧ (n : Int) ≤ 8 := by simpa using hb
    have ef : createF om [(n : Int)] ls = (some ⟨n, List.range n, []⟩, [0]) := if_pos hb
    have hdesk : ∃ dx v, H2 p = some (.ins a.cD dx [("model", v)]) := by
      cases om with
      | none => obtain ⟨dx, h⟩ := dk; exact ⟨dx, _, e2 _ _ h⟩
      | some m => obtain ⟨mv, ⟨dx, pm, dm, t, r, h, _⟩⟩ := dk; exact ⟨dx, _, e2 _ _ h⟩
    obtain ⟨dx, v0, hp2⟩ := hdesk
    refine mk_model (Q := fun y H1 => tVar 0 (start ["desk", "numbers", "lists"] [.ref p, v2, v3]) H1 fun x H2 => ∃ b C dx fs, x = .ref b ∧ H2 b = some (.ins C dx fs) ∧ Cls K C ∧ NoAttr K C "model" ∧ fs.length < 1000 ∧ tRet (tLst (tCons (tC (.int 0)) tNil)) D (start ["desk", "numbers", "lists"] [.ref p, v2, v3]) (upd H2 b (.ins C dx (putF "model" y fs)))) (ev_num0 (ns := []) hn) (e.trans e2) (by omega) fun x dmx H3 G3 t r o3 hx gx hx3 rt rr => ⟨.ref p, rfl, p, a.cD, dx, _, rfl, o3.ex _ _ hp2, T.clD, T.nDmodel, by show 1 < 1000; decide, ?_⟩
    have hxp : x ≠ p := fun z => by rw [z, hp2] at hx; cases hx
    have o := (Ok.grow e e2).trans o3
    have hp3 := o3.ex _ _ hp2
    rw [putF_here]
    have d : DOk G H (upd H3 p (.ins a.cD dx [("model", .ref x)])) (strip G3) := ((Full.refl G).dok ni o).mut hp3 rfl fun _ w h => by
      have := o.ex _ _ h
      rw [hp3] at this
      rw [← Option.some.inj this]
      rfl
    have kk : Dk K a (strip G3) (upd H3 p (.ins a.cD dx [("model", .ref x)])) p (some ⟨n, List.range n, []⟩) := ⟨.ref x, dx, x, dmx, t, r, upd_same, rfl, by rw [upd_ne hxp]; exact hx3, sp_row _ _ _ rt, sp_obs _ _ _ rr⟩
    refine st_ret (A := RowR) (x := [0]) d.kn (ev_one ev_int) fun u H4 G4 o4 ru => ?_
    obtain ⟨q1, q2, q3⟩ := fin d kk o4 ru
    exact k u H4 (strip G4) q1 (by rw [ef]; exact q2) (by rw [ef]; exact q3)
def addF : DF := fun om ns ls => match om with
  | none => (none, [])
  | some m => if isWithin (ns.getD 0 0) 1000000 = false ∨ Kxd4.isRow m (ls.getD 0 []) = false then (some m, [-22])
    else if 24 ≤ m.data.length then (some m, [-28]) else (some { m with data := m.data ++ [⟨ls.getD 0 [], ns.getD 0 0⟩] }, [(m.data.length : Int) + 1])
theorem sc_add_row : FnScope ["desk", "numbers", "lists", "model"] ["desk", "numbers", "lists"] (defScope (top 107)) := ⟨rfl, rfl, rfl, by decide +kernel, rfl, by decide +kernel, by decide +kernel⟩
theorem kn_add_row (T : Wd P w K mg base a) : Kn P w K mg base 60 "add_row" (DSp K a (telP fun m ns ls => LF.Good m ∧ (∃ y, ns = [y]) ∧ L1 ls) addF) := by
  refine T.d_add_row.knD sc_add_row rfl (fun _ _ _ _ _ _ us hl => match us, hl with | [_, _, _], _ => rfl) fun cdv f A outer s H E hr => ⟨_, (pss_cons (ps_set (i := 3) sc_add_row.nd rfl (Or.inl rfl) (pe_fldK (K := K) rfl (pv 0) rfl)) (pss_cons (ps_if (PW.pt (pw_or (pt_not (pt_val (pe_kn (kn_is_within T) (hr.mono (by decide)) rfl (pa_cons (pe_ix (ix_listK (K := K) rfl) (pv 1) pe_int (fun _ _ => rfl)) (pa_cons (pe_gint T.g_GREATEST rfl) pa_nil))))) (pw_or1 (pt_not (pt_val (pe_kn (kn_is_vector T) (hr.mono (by decide)) rfl (pa_cons (pv 3) (pa_cons (pe_ix (ix_listK (K := K) rfl) (pv 2) pe_int (fun _ _ => rfl)) pa_nil)))))))) (pss_one (ps_ret (pe_lst (pa_cons (pe_gint T.g_OUT_OF_RANGE rfl) pa_nil)))) pss_nil) (pss_cons (ps_if (pt_cmpR op_ge (pe_callB (cr_lenK (K := K) rfl) rfl T.b_len PySem.boot_len (pa_cons (pe_fldK (K := K) rfl (pv 3) rfl) pa_nil)) (pe_gint T.g_MOST_ROWS rfl) (nomark _)) (pss_one (ps_ret (pe_lst (pa_cons (pe_gint T.g_FULL rfl) pa_nil)))) pss_nil) (pss_cons (ps_fld (pv 3) (pe_op op_cat (pe_fldK (K := K) rfl (pv 3) rfl) (pe_lst (pa_cons (pe_tup (pa_cons (pe_ix (ix_listK (K := K) rfl) (pv 1) pe_int (fun _ _ => rfl)) (pa_cons (pe_callTy (cr_listK (K := K) rfl) rfl T.b_list (by decide +kernel) (pa_cons (pe_ix (ix_listK (K := K) rfl) (pv 2) pe_int (fun _ _ => rfl)) pa_nil)) pa_nil))) pa_nil))) rfl) (pss_one (ps_ret (pe_lst (pa_cons (pe_callB (cr_lenK (K := K) rfl) rfl T.b_len PySem.boot_len (pa_cons (pe_fldK (K := K) rfl (pv 3) rfl) pa_nil)) pa_nil)))))))), fun G p om v2 v3 ns ls D ni e dk r2 r3 hp k => ?_⟩
  obtain ⟨m, rfl, g, ⟨y, rfl⟩, v, rfl, hl⟩ := hp
  obtain ⟨mv, dv⟩ := dk
  obtain ⟨G1, F1, e1, hd⟩ := dv.pack ni e
  refine st_set (A := ModelP K a mv) (x := m) e1 (ev_modelP T (ev_var rfl hd)) fun u1 H1 G2 o2 r1 => ?_
  obtain ⟨rfl, r1⟩ := r1
  have hn : EV (tVar 1) ((start ["desk", "numbers", "lists", "model"] [.ref p, v2, v3]).set 3 (some u1)) G2 RowR [y] := ev_var rfl (RowR.st (F1.up.trans o2.up) r2)
  have hv : EV (tOp (rIxL K) (tVar 2) (tC (.int 0))) ((start ["desk", "numbers", "lists", "model"] [.ref p, v2, v3]).set 3 (some u1)) G2 RowR v := ev_ix (n := 0) rfl rfl (ev_var rfl (TabR.st (F1.up.trans o2.up) r3)) ev_int
  have early : ∀ {u : V} {H4 G4 : Hp}, Ok G2 H1 H4 G4 → DOk G H H4 (strip G4) ∧ Dk K a (strip G4) H4 p (some m) := fun {u H4 G4} o => ⟨F1.dok ni (o2.trans o), u1, .of ((DeskP K a p u1).st (o2.trans o).up hd) o.kn⟩
  refine st_when o2.kn (et_or (et_not (et_B (ev_call2 (ev_num0 (ns := []) hn) ev_int trivial))) fun _ => et_not (et_B (ev_call2 (ev_var rfl r1) hv (by omega)))) (fun hb H3 e3 => ?_) (fun hb H3 e3 => ?_)
  · refine st_ret (A := RowR) (x := [-22]) (o2.kn.trans e3) (ev_one ev_int) fun u H4 G4 o4 ru => ?_
    have ef : addF (some m) [y] [v] = (some m, [-22]) := if_pos (by simpa using hb)
    obtain ⟨q1, q2⟩ := early (u := u) ((Ok.grow o2.kn e3).trans o4)
    exact k u H4 (strip G4) q1 (by rw [ef]; exact q2) (by rw [ef]; exact sp_row _ _ _ ru)
  · have c1 : ¬ (isWithin y 1000000 = false ∨ Kxd4.isRow m v = false) := by
      obtain ⟨c1, c2⟩ := Bool.or_eq_false_iff.mp hb
      rw [Bool.not_eq_false'] at c1 c2
      rw [c1, c2]
      simp
    refine st_when (o2.kn.trans e3) (et_test (ev_cmp (p := fun i j => decide (j ≤ i)) (ev_len (ev_rows T (ev_var rfl r1))) ev_int)) (fun hc H4 e4 => ?_) (fun hc H4 e4 => ?_)
    · rw [List.length_map] at hc
      refine st_ret (A := RowR) (x := [-28]) ((o2.kn.trans e3).trans e4) (ev_one ev_int) fun u H5 G5 o5 ru => ?_
      have ef : addF (some m) [y] [v] = (some m, [-28]) := (if_neg c1).trans (if_pos (by have := of_decide_eq_true hc; omega))
      obtain ⟨q1, q2⟩ := early (u := u) ((Ok.grow o2.kn (e3.trans e4)).trans o5)
      exact k u H5 (strip G5) q1 (by rw [ef]; exact q2) (by rw [ef]; exact sp_row _ _ _ ru)
    · rw [List.length_map] at hc
      have hc : ¬ 24 ≤ m.data.length := by have := of_decide_eq_false hc; omega
      have ef : addF (some m) [y] [v] = (some { m with data := m.data ++ [⟨v, y⟩] }, [(m.data.length : Int) + 1]) := (if_neg c1).trans (if_neg hc)
      obtain ⟨pm, dm, t, r, hmv, hpm, ht, hr2⟩ := id r1
      subst hmv
      have e34 := e3.trans e4
      have hH4 := (o2.kn.trans e34) _ _ hpm
      refine st_fld (A := ListR (ObsR K)) (x := m.data.map rowP ++ [(y, v)]) (o2.kn.trans e34) (ev_cat (by rw [List.length_map]; show _ + 1 ≤ _; omega) (ev_rows T (ev_var rfl r1)) (ev_lst (el_cons (ev_pair (ev_num0 (ns := []) hn) (ev_listL hv)) el_nil) (by show 1 ≤ _; decide))) rfl hH4 T.clM T.nMrows (by show 3 < 1000; decide) fun v5 H5 G5 o5 r5 => ?_
      rw [putRows]
      have o := (o2.trans (Ok.grow o2.kn e34)).trans o5
      obtain ⟨q1, q2⟩ := after_set (m' := { m with data := m.data ++ [⟨v, y⟩] }) ni F1 o hd (o5.up _ _ hpm) (RowR.st o5.up ht) (show (ListR (ObsR K)).R G5 v5 _ by rw [List.map_append]; exact r5)
      obtain ⟨G6, F6, e6, hd6⟩ := q2.pack (strip_ni _) q1.kn
      refine st_ret (A := RowR) (x := [(m.data.length : Int) + 1]) e6 ((ev_one (ev_len (ev_rows T (ev_var rfl hd6.2.2)))).to ?_) fun u H7 G7 o7 ru => ?_
      · rw [List.length_map, List.length_append]; rfl
      · exact k u H7 (strip G7) (q1.trans (F6.dok (strip_ni _) o7)) (by rw [ef]; exact ⟨_, .of ((DeskP K a p _).st o7.up hd6) o7.kn⟩) (by rw [ef]; exact sp_row _ _ _ ru)
def removeF : DF := fun om ns _ => match om with
  | none => (none, [])
  | some m => if m.data.length ≤ (ns.getD 0 0).toNat then (some m, [-2]) else (some { m with data := m.data.take (ns.getD 0 0).toNat ++ m.data.drop ((ns.getD 0 0).toNat + 1) }, [(m.data.length : Int) - 1])
theorem sc_remove_row : FnScope ["desk", "numbers", "lists", "model", "index"] ["desk", "numbers", "lists"] (defScope (top 108)) := ⟨rfl, rfl, rfl, by decide +kernel, rfl, by decide +kernel, by decide +kernel⟩
theorem kn_remove_row (T : Wd P w K mg base a) : Kn P w K mg base 60 "remove_row" (DSp K a (telP fun m ns ls => LF.Good m ∧ One1 ns) removeF) := by
  refine T.d_remove_row.knD sc_remove_row rfl (fun _ _ _ _ _ _ us hl => match us, hl with | [_, _, _], _ => rfl) fun cdv f A outer s H E hr => ⟨_, (pss_cons (ps_set (i := 3) sc_remove_row.nd rfl (Or.inl rfl) (pe_fldK (K := K) rfl (pv 0) rfl)) (pss_cons (ps_set (i := 4) sc_remove_row.nd rfl (Or.inl rfl) (pe_ix (ix_listK (K := K) rfl) (pv 1) pe_int (fun _ _ => rfl))) (pss_cons (ps_if (pt_not (pt_val (pe_kn (kn_is_index T) (hr.mono (by decide)) rfl (pa_cons (pv 3) (pa_cons (pv 4) pa_nil))))) (pss_one (ps_ret (pe_lst (pa_cons (pe_gint T.g_NO_SUCH rfl) pa_nil)))) pss_nil) (pss_cons (ps_fld (pv 3) (pe_op op_cat (pe_slice (sl_listK (K := K) rfl) (pe_fldK (K := K) rfl (pv 3) rfl) po_none (po_some (pv 4))) (pe_slice (sl_listK (K := K) rfl) (pe_fldK (K := K) rfl (pv 3) rfl) (po_some (pe_op op_add (pv 4) pe_int)) po_none)) rfl) (pss_one (ps_ret (pe_lst (pa_cons (pe_callB (cr_lenK (K := K) rfl) rfl T.b_len PySem.boot_len (pa_cons (pe_fldK (K := K) rfl (pv 3) rfl) pa_nil)) pa_nil)))))))), fun G p om v2 v3 ns ls D ni e dk r2 r3 hp k => ?_⟩
  obtain ⟨m, rfl, g, i, rfl⟩ := hp
  obtain ⟨mv, dv⟩ := dk
  have n24 := g.n24
  obtain ⟨G1, F1, e1, hd⟩ := dv.pack ni e
  refine st_set (A := ModelP K a mv) (x := m) e1 (ev_modelP T (ev_var rfl hd)) fun u1 H1 G2 o2 r1 => ?_
  obtain ⟨rfl, r1⟩ := r1
  have hn : EV (tVar 1) ((start ["desk", "numbers", "lists", "model", "index"] [.ref p, v2, v3]).set 3 (some u1)) G2 RowR [(i : Int)] := ev_var rfl (RowR.st (F1.up.trans o2.up) r2)
  refine st_set (A := IntR) (x := (i : Int)) o2.kn (ev_num0 (ns := []) hn) fun u4 H2 G3 o3 r4 => ?_
  have r1 := (ModelR K a).st o3.up r1
  have o23 := o2.trans o3
  refine st_when o3.kn (et_not (et_B (ev_call2 (ev_var rfl r1) (ev_var rfl r4) trivial))) (fun hb H3 e3 => ?_) (fun hb H3 e3 => ?_)
  · rw [isIndex_nat] at hb
    have hb : ¬ i < m.data.length := by simpa using hb
    refine st_ret (A := RowR) (x := [-2]) (o3.kn.trans e3) (ev_one ev_int) fun u H4 G4 o4 ru => ?_
    have ef : removeF (some m) [(i : Int)] ls = (some m, [-2]) := if_pos (show m.data.length ≤ i by omega)
    have o := (o23.trans (Ok.grow o3.kn e3)).trans o4
    exact k u H4 (strip G4) (F1.dok ni o) (by rw [ef]; exact ⟨u1, .of ((DeskP K a p u1).st o.up hd) o.kn⟩) (by rw [ef]; exact sp_row _ _ _ ru)
  · rw [isIndex_nat] at hb
    have hb : i < m.data.length := by simpa using hb
    have ef : removeF (some m) [(i : Int)] ls = (some { m with data := m.data.take i ++ m.data.drop (i + 1) }, [(m.data.length : Int) - 1]) := if_neg (show ¬ m.data.length ≤ i by omega)
    obtain ⟨pm, dm, t, r, hmv, hpm, ht, hr2⟩ := id r1
    subst hmv
    have hH4 := (o3.kn.trans e3) _ _ hpm
    refine st_fld (A := ListR (ObsR K)) (x := (m.data.map rowP).take i ++ (m.data.map rowP).drop (i + 1)) (o3.kn.trans e3) (ev_cat (by rw [List.length_take, List.length_drop, List.length_map]; omega) (ev_sliceTo (n := i) rfl (ev_rows T (ev_var rfl r1)) (ev_var rfl r4)) (ev_sliceFrom (n := i + 1) (by omega) (ev_rows T (ev_var rfl r1)) (ev_add (ev_var rfl r4) ev_int))) rfl hH4 T.clM T.nMrows (by show 3 < 1000; decide) fun v5 H5 G5 o5 r5 => ?_
    rw [putRows]
    have o := (o23.trans (Ok.grow o3.kn e3)).trans o5
    obtain ⟨q1, q2⟩ := after_set (m' := { m with data := m.data.take i ++ m.data.drop (i + 1) }) ni F1 o hd (o5.up _ _ hpm) (RowR.st o5.up ht) (show (ListR (ObsR K)).R G5 v5 _ by rw [List.map_append, List.map_take, List.map_drop]; exact r5)
    obtain ⟨G6, F6, e6, hd6⟩ := q2.pack (strip_ni _) q1.kn
    refine st_ret (A := RowR) (x := [(m.data.length : Int) - 1]) e6 ((ev_one (ev_len (ev_rows T (ev_var rfl hd6.2.2)))).to ?_) fun u H7 G7 o7 ru => ?_
    · rw [List.length_map, List.length_append, List.length_take, List.length_drop]
      congr 1
      omega
    · exact k u H7 (strip G7) (q1.trans (F6.dok (strip_ni _) o7)) (by rw [ef]; exact ⟨_, .of ((DeskP K a p _).st o7.up hd6) o7.kn⟩) (by rw [ef]; exact sp_row _ _ _ ru)
def clearF : DF := fun om _ _ => match om with
  | none => (none, [])
  | some m => (some { m with data := [] }, [(m.data.length : Int)])
theorem sc_clear_rows : FnScope ["desk", "numbers", "lists", "model", "many"] ["desk", "numbers", "lists"] (defScope (top 111)) := ⟨rfl, rfl, rfl, by decide +kernel, rfl, by decide +kernel, by decide +kernel⟩
theorem kn_clear_rows (T : Wd P w K mg base a) : Kn P w K mg base 60 "clear_rows" (DSp K a (telP fun m ns ls => LF.Good m) clearF) := by
  refine T.d_clear_rows.knD sc_clear_rows rfl (fun _ _ _ _ _ _ us hl => match us, hl with | [_, _, _], _ => rfl) fun cdv f A outer s H E hr => ⟨_, (pss_cons (ps_set (i := 3) sc_clear_rows.nd rfl (Or.inl rfl) (pe_fldK (K := K) rfl (pv 0) rfl)) (pss_cons (ps_set (i := 4) sc_clear_rows.nd rfl (Or.inl rfl) (pe_callB (cr_lenK (K := K) rfl) rfl T.b_len PySem.boot_len (pa_cons (pe_fldK (K := K) rfl (pv 3) rfl) pa_nil))) (pss_cons (ps_fld (pv 3) (pe_lst pa_nil) rfl) (pss_one (ps_ret (pe_lst (pa_cons (pv 4) pa_nil))))))), fun G p om v2 v3 ns ls D ni e dk r2 r3 hp k => ?_⟩
  obtain ⟨m, rfl, g⟩ := hp
  obtain ⟨mv, dv⟩ := dk
  obtain ⟨G1, F1, e1, hd⟩ := dv.pack ni e
  refine st_set (A := ModelP K a mv) (x := m) e1 (ev_modelP T (ev_var rfl hd)) fun u1 H1 G2 o2 r1 => ?_
  obtain ⟨rfl, r1⟩ := r1
  refine st_set (A := IntR) (x := (m.data.length : Int)) o2.kn ((ev_len (ev_rows T (ev_var rfl r1))).to (by rw [List.length_map])) fun u4 H2 G3 o3 r4 => ?_
  have r1 := (ModelR K a).st o3.up r1
  obtain ⟨pm, dm, t, r, hmv, hpm, ht, hr2⟩ := id r1
  subst hmv
  refine st_fld (A := ListR (ObsR K)) (x := []) o3.kn (ev_lst el_nil (by decide)) rfl (o3.kn _ _ hpm) T.clM T.nMrows (by show 3 < 1000; decide) fun v5 H5 G5 o5 r5 => ?_
  rw [putRows]
  obtain ⟨q1, q2⟩ := after_set (m' := { m with data := [] }) ni F1 ((o2.trans o3).trans o5) hd (o5.up _ _ hpm) (RowR.st o5.up ht) r5
  have h4 : u4 = .int (m.data.length : Int) := r4
  subst h4
  refine st_ret (A := RowR) (x := [(m.data.length : Int)]) q1.kn (ev_one (ev_var (A := IntR) rfl rfl)) fun u H7 G7 o7 ru => ?_
  obtain ⟨z1, z2, z3⟩ := fin (om := some { m with data := [] }) q1 ⟨_, q2⟩ o7 ru
  exact k u H7 (strip G7) z1 z2 z3
end
end LW

set_option linter.all false
set_option Elab.async false
set_option maxRecDepth 100000
set_option maxHeartbeats 4000000
namespace LW
open PySem PySem.Spec PyProof.Rows L2
open Evl (Ex)
section
variable {P : Program} {w : World} {K : PySem.W.Frag} {mg : Str → Option Value} {base : Heap} {a : Ad}
def respF : DF := fun om ns _ => match om with
  | none => (none, [])
  | some m => if m.data.length ≤ (ns.getD 0 0).toNat then (some m, [-2]) else if isWithin (ns.getD 1 0) 1000000 = false then (some m, [-22])
    else (some { m with data := m.data.take (ns.getD 0 0).toNat ++ [⟨(obsD m (ns.getD 0 0).toNat).row, ns.getD 1 0⟩] ++ m.data.drop ((ns.getD 0 0).toNat + 1) }, [(obsD m (ns.getD 0 0).toNat).response])
theorem sc_set_response : FnScope ["desk", "numbers", "lists", "model", "index", "response", "previous", "entries"] ["desk", "numbers", "lists"] (defScope (top 109)) := ⟨rfl, rfl, rfl, by decide +kernel, rfl, by decide +kernel, by decide +kernel⟩
theorem kn_set_response (T : Wd P w K mg base a) : Kn P w K mg base 60 "set_response" (DSp K a (telP fun m ns ls => LF.Good m ∧ ∃ (i : Nat) (y : Int), ns = [(i : Int), y]) respF) := by
  refine T.d_set_response.knD sc_set_response rfl (fun _ _ _ _ _ _ us hl => match us, hl with | [_, _, _], _ => rfl) fun cdv f A outer s H E hr => ⟨_, (pss_cons (ps_set (i := 3) sc_set_response.nd rfl (Or.inl rfl) (pe_fldK (K := K) rfl (pv 0) rfl)) (pss_cons (ps_asg (pv 1) (pg_unlK (K := K) (n := 2) rfl rfl (pgs_cons (pg_name (i := 4) sc_set_response.nd rfl (Or.inl rfl)) (pgs_cons (pg_name (i := 5) sc_set_response.nd rfl (Or.inl rfl)) pgs_nil)))) (pss_cons (ps_if (pt_not (pt_val (pe_kn (kn_is_index T) (hr.mono (by decide)) rfl (pa_cons (pv 3) (pa_cons (pv 4) pa_nil))))) (pss_one (ps_ret (pe_lst (pa_cons (pe_gint T.g_NO_SUCH rfl) pa_nil)))) pss_nil) (pss_cons (ps_if (pt_not (pt_val (pe_kn (kn_is_within T) (hr.mono (by decide)) rfl (pa_cons (pv 5) (pa_cons (pe_gint T.g_GREATEST rfl) pa_nil))))) (pss_one (ps_ret (pe_lst (pa_cons (pe_gint T.g_OUT_OF_RANGE rfl) pa_nil)))) pss_nil) (pss_cons (ps_asg (pe_ix (ix_listK (K := K) rfl) (pe_fldK (K := K) rfl (pv 3) rfl) (pv 4) (fun _ _ => rfl)) (pg_tupK (K := K) (n := 2) rfl rfl (pgs_cons (pg_name (i := 6) sc_set_response.nd rfl (Or.inl rfl)) (pgs_cons (pg_name (i := 7) sc_set_response.nd rfl (Or.inl rfl)) pgs_nil)))) (pss_cons (ps_fld (pv 3) (pe_op op_cat (pe_op op_cat (pe_slice (sl_listK (K := K) rfl) (pe_fldK (K := K) rfl (pv 3) rfl) po_none (po_some (pv 4))) (pe_lst (pa_cons (pe_tup (pa_cons (pv 5) (pa_cons (pv 7) pa_nil))) pa_nil))) (pe_slice (sl_listK (K := K) rfl) (pe_fldK (K := K) rfl (pv 3) rfl) (po_some (pe_op op_add (pv 4) pe_int)) po_none)) rfl) (pss_one (ps_ret (pe_lst (pa_cons (pv 6) pa_nil)))))))))), fun G p om v2 v3 ns ls D ni e dk r2 r3 hp k => ?_⟩
  obtain ⟨m, rfl, g, i, y, rfl⟩ := hp
  obtain ⟨mv, dv⟩ := dk
  have n24 := g.n24
  obtain ⟨G1, F1, e1, hd⟩ := dv.pack ni e
  refine st_set (A := ModelP K a mv) (x := m) e1 (ev_modelP T (ev_var rfl hd)) fun u1 H1 G2 o2 r1 => ?_
  obtain ⟨rfl, r1⟩ := r1
  refine st_unp (A := TwoR IntR) (x := ((i : Int), y)) o2.kn (tg_unl 4 5 (by decide)) rfl (ev_var rfl (RowR.st (F1.up.trans o2.up) r2)) fun σ3 H3 G3 o3 a3 ⟨f1, f2⟩ => ?_
  have l3 : σ3.length = 8 := a3.1
  have hm3 : At (ModelR K a) 3 G3 σ3 m := ⟨u1, (a3.2 3 (by decide)).trans rfl, (ModelR K a).st o3.up r1⟩
  have s3 : σ3[3]? = some (some u1) := (a3.2 3 (by decide)).trans rfl
  have r1 := (ModelR K a).st o3.up r1
  have o23 := o2.trans o3
  refine st_when o3.kn (et_not (et_B (ev_call2 hm3.ev f1.ev trivial))) (fun hb H4 e4 => ?_) (fun hb H4 e4 => ?_)
  · rw [isIndex_nat] at hb
    have hb : ¬ i < m.data.length := by simpa using hb
    refine st_ret (A := RowR) (x := [-2]) (o3.kn.trans e4) (ev_one ev_int) fun u H5 G5 o5 ru => ?_
    have ef : respF (some m) [(i : Int), y] ls = (some m, [-2]) := if_pos (show m.data.length ≤ i by omega)
    have o := (o23.trans (Ok.grow o3.kn e4)).trans o5
    exact k u H5 (strip G5) (F1.dok ni o) (by rw [ef]; exact ⟨u1, .of ((DeskP K a p u1).st o.up hd) o.kn⟩) (by rw [ef]; exact sp_row _ _ _ ru)
  · rw [isIndex_nat] at hb
    have hb : i < m.data.length := by simpa using hb
    refine st_when (o3.kn.trans e4) (et_not (et_B (ev_call2 f2.ev ev_int trivial))) (fun hc H5 e5 => ?_) (fun hc H5 e5 => ?_)
    · refine st_ret (A := RowR) (x := [-22]) ((o3.kn.trans e4).trans e5) (ev_one ev_int) fun u H6 G6 o6 ru => ?_
      have ef : respF (some m) [(i : Int), y] ls = (some m, [-22]) := (if_neg (show ¬ m.data.length ≤ i by omega)).trans (if_pos (by rw [Bool.not_eq_true'] at hc; exact hc))
      have o := (o23.trans (Ok.grow o3.kn (e4.trans e5))).trans o6
      exact k u H6 (strip G6) (F1.dok ni o) (by rw [ef]; exact ⟨u1, .of ((DeskP K a p u1).st o.up hd) o.kn⟩) (by rw [ef]; exact sp_row _ _ _ ru)
    · have hc : ¬ isWithin y 1000000 = false := by rw [Bool.not_eq_false'] at hc; rw [hc]; exact fun z => by cases z
      have ef : respF (some m) [(i : Int), y] ls = (some { m with data := m.data.take i ++ [⟨(obsD m i).row, y⟩] ++ m.data.drop (i + 1) }, [(obsD m i).response]) := (if_neg (show ¬ m.data.length ≤ i by omega)).trans (if_neg hc)
      refine st_unp (A := PairR K IntR RowR) (x := rowP (obsD m i)) ((o3.kn.trans e4).trans e5) (tg_pair 6 7 (by decide)) (by unfold inb; rw [l3]; rfl) (ev_ix (n := i) rfl (rows_at hb) (ev_rows T hm3.ev) f1.ev) fun σ6 H6 G6 o6 a6 ⟨f3, f4⟩ => ?_
      have hm6 := (hm3.mono o6.up).agr a6 (by decide)
      have f16 := (f1.mono o6.up).agr a6 (by decide)
      have f26 := (f2.mono o6.up).agr a6 (by decide)
      have s6 : σ6[3]? = some (some u1) := (a6.2 3 (by decide)).trans s3
      obtain ⟨pm, dm, t, r, hmv, hpm, ht, hr2⟩ := (ModelR K a).st o6.up r1
      subst hmv
      have o36 := (o23.trans (Ok.grow o3.kn (e4.trans e5))).trans o6
      refine st_fld (A := ListR (ObsR K)) (x := (m.data.map rowP).take i ++ [(y, (obsD m i).row)] ++ (m.data.map rowP).drop (i + 1)) o6.kn (ev_cat (by rw [List.length_append, List.length_take, List.length_drop, List.length_map]; show _ + 1 + _ ≤ _; omega) (ev_cat (by rw [List.length_take, List.length_map]; show _ + 1 ≤ _; omega) (ev_sliceTo (n := i) rfl (ev_rows T hm6.ev) f16.ev) (ev_lst (el_cons (ev_pair f26.ev f4.ev) el_nil) (by show 1 ≤ _; decide))) (ev_sliceFrom (n := i + 1) (by omega) (ev_rows T hm6.ev) (ev_add f16.ev ev_int))) s6 (o6.kn _ _ hpm) T.clM T.nMrows (by show 3 < 1000; decide) fun v5 H7 G7 o7 r5 => ?_
      rw [putRows]
      obtain ⟨q1, q2⟩ := after_set (m' := { m with data := m.data.take i ++ [⟨(obsD m i).row, y⟩] ++ m.data.drop (i + 1) }) ni F1 (o36.trans o7) hd (o7.up _ _ hpm) (RowR.st o7.up ht) (show (ListR (ObsR K)).R G7 v5 _ by rw [List.map_append, List.map_append, List.map_take, List.map_drop]; exact r5)
      obtain ⟨w6, p6, h6⟩ := f3
      have h6 : w6 = .int (obsD m i).response := h6
      subst h6
      refine st_ret (A := RowR) (x := [(obsD m i).response]) q1.kn (ev_one (ev_var (A := IntR) p6 rfl)) fun u H8 G8 o8 ru => ?_
      obtain ⟨z1, z2, z3⟩ := fin (om := some { m with data := m.data.take i ++ [⟨(obsD m i).row, y⟩] ++ m.data.drop (i + 1) }) q1 ⟨_, q2⟩ o8 ru
      exact k u H8 (strip G8) z1 (by rw [ef]; exact z2) (by rw [ef]; exact z3)
def termF : DF := fun om _ ls => match om with
  | none => (none, [])
  | some m => if areTermsI m (ls.getD 0 []) = false then (some m, [-22]) else (some { m with terms := (ls.getD 0 []).map Int.toNat }, [((((ls.getD 0 []).map Int.toNat).getLastD 0 + 1 : Nat) : Int)])
theorem nat_back {l : List Int} (h : ∀ z ∈ l, 0 ≤ z) : ((l.map Int.toNat).map fun (n : Nat) => (n : Int)) = l := by
  rw [List.map_map]
  conv => rhs; rw [← List.map_id l]
  refine List.map_congr_left fun z hz => ?_
  have := h z hz
  show ((z.toNat : Nat) : Int) = z
  omega
theorem terms_len {m : Kxd4.Model} {l : List Int} (h : areTermsI m l = true) : l.length = m.columns := by
  unfold areTermsI at h
  by_cases c : l.length = m.columns
  · exact c
  · rw [if_pos (by rw [decide_eq_false (show ¬ (l.length : Int) = (m.columns : Int) by omega)]; rfl)] at h
    cases h
theorem sc_set_terms : FnScope ["desk", "numbers", "lists", "model"] ["desk", "numbers", "lists"] (defScope (top 110)) := ⟨rfl, rfl, rfl, by decide +kernel, rfl, by decide +kernel, by decide +kernel⟩
theorem kn_set_terms (T : Wd P w K mg base a) : Kn P w K mg base 60 "set_terms" (DSp K a (telP fun m ns ls => LF.Good m ∧ ∃ l, ls = [l] ∧ l.length ≤ 60 ∧ ∀ z ∈ l, 0 ≤ z) termF) := by
  refine T.d_set_terms.knD sc_set_terms rfl (fun _ _ _ _ _ _ us hl => match us, hl with | [_, _, _], _ => rfl) fun cdv f A outer s H E hr => ⟨_, (pss_cons (ps_set (i := 3) sc_set_terms.nd rfl (Or.inl rfl) (pe_fldK (K := K) rfl (pv 0) rfl)) (pss_cons (ps_if (pt_not (pt_val (pe_kn (kn_are_terms T) (hr.mono (by decide)) rfl (pa_cons (pv 3) (pa_cons (pe_ix (ix_listK (K := K) rfl) (pv 2) pe_int (fun _ _ => rfl)) pa_nil))))) (pss_one (ps_ret (pe_lst (pa_cons (pe_gint T.g_OUT_OF_RANGE rfl) pa_nil)))) pss_nil) (pss_cons (ps_fld (pv 3) (pe_callTy (cr_listK (K := K) rfl) rfl T.b_list (by decide +kernel) (pa_cons (pe_ix (ix_listK (K := K) rfl) (pv 2) pe_int (fun _ _ => rfl)) pa_nil)) rfl) (pss_one (ps_ret (pe_lst (pa_cons (pe_kn (kn_term_count T) (hr.mono (by decide)) rfl (pa_cons (pv 3) pa_nil)) pa_nil))))))), fun G p om v2 v3 ns ls D ni e dk r2 r3 hp k => ?_⟩
  obtain ⟨m, rfl, g, l, rfl, hl, h0⟩ := hp
  obtain ⟨mv, dv⟩ := dk
  have c1 := g.c1
  obtain ⟨G1, F1, e1, hd⟩ := dv.pack ni e
  refine st_set (A := ModelP K a mv) (x := m) e1 (ev_modelP T (ev_var rfl hd)) fun u1 H1 G2 o2 r1 => ?_
  obtain ⟨rfl, r1⟩ := r1
  have hv : EV (tOp (rIxL K) (tVar 2) (tC (.int 0))) ((start ["desk", "numbers", "lists", "model"] [.ref p, v2, v3]).set 3 (some u1)) G2 RowR l := ev_ix (n := 0) rfl rfl (ev_var rfl (TabR.st (F1.up.trans o2.up) r3)) ev_int
  refine st_when o2.kn (et_not (et_B (ev_call2 (ev_var rfl r1) hv ⟨c1, g.c8, by omega⟩))) (fun hb H3 e3 => ?_) (fun hb H3 e3 => ?_)
  · refine st_ret (A := RowR) (x := [-22]) (o2.kn.trans e3) (ev_one ev_int) fun u H4 G4 o4 ru => ?_
    have ef : termF (some m) ns [l] = (some m, [-22]) := if_pos (by rw [Bool.not_eq_true'] at hb; exact hb)
    have o := (o2.trans (Ok.grow o2.kn e3)).trans o4
    exact k u H4 (strip G4) (F1.dok ni o) (by rw [ef]; exact ⟨u1, .of ((DeskP K a p u1).st o.up hd) o.kn⟩) (by rw [ef]; exact sp_row _ _ _ ru)
  · have hb : areTermsI m l = true := by rw [Bool.not_eq_false'] at hb; exact hb
    have hlen := terms_len hb
    have ef : termF (some m) ns [l] = (some { m with terms := l.map Int.toNat }, [(((l.map Int.toNat).getLastD 0 + 1 : Nat) : Int)]) := if_neg (by rw [show areTermsI m ([l].getD 0 []) = true from hb]; exact fun z => by cases z)
    obtain ⟨pm, dm, t, r, hmv, hpm, ht, hr2⟩ := id r1
    subst hmv
    refine st_fld (A := RowR) (x := l) (o2.kn.trans e3) (ev_listL hv) rfl ((o2.kn.trans e3) _ _ hpm) T.clM T.nMterms (by show 3 < 1000; decide) fun v5 H5 G5 o5 r5 => ?_
    rw [putTerms]
    have o := (o2.trans (Ok.grow o2.kn e3)).trans o5
    obtain ⟨q1, q2⟩ := after_set (m' := { m with terms := l.map Int.toNat }) ni F1 o hd (o5.up _ _ hpm) (show RowR.R G5 v5 (termsI { m with terms := l.map Int.toNat }) by
      unfold termsI
      rw [nat_back h0]
      exact r5) ((ListR (ObsR K)).st o5.up hr2)
    obtain ⟨G6, F6, e6, hd6⟩ := q2.pack (strip_ni _) q1.kn
    refine st_ret (A := RowR) (x := [(((l.map Int.toNat).getLastD 0 + 1 : Nat) : Int)]) e6 (ev_one (ev_call1 (ev_var rfl hd6.2.2) (show l.map Int.toNat ≠ [] from fun z => by
      have := congrArg List.length z
      rw [List.length_map] at this
      have : l.length = 0 := this
      omega))) fun u H7 G7 o7 ru => ?_
    exact k u H7 (strip G7) (q1.trans (F6.dok (strip_ni _) o7)) (by rw [ef]; exact ⟨_, .of ((DeskP K a p _).st o7.up hd6) o7.kn⟩) (by rw [ef]; exact sp_row _ _ _ ru)
end
end LW

set_option linter.all false
set_option Elab.async false
set_option maxRecDepth 100000
set_option maxHeartbeats 4000000
namespace LW
open PySem PySem.Spec PyProof.Rows L2
open Evl (Ex)
/-! # What the deeds tell is what the specification tells -/
theorem nat_of {a : Int} (h : Kxd4Neutral.nat32 a = true) : a = ((a.toNat : Nat) : Int) := by
  unfold Kxd4Neutral.nat32 at h
  rw [Bool.and_eq_true, decide_eq_true_eq] at h
  omega
theorem one_of {a : Int} (h : Kxd4Neutral.nat32 a = true) : One1 [a] := ⟨a.toNat, by rw [← nat_of h]⟩
theorem list_of {f : Int → Bool} {x : List Int} (h : Kxd4Neutral.list32 f x = true) : x.length ≤ 60 := by
  unfold Kxd4Neutral.list32 at h
  rw [Bool.and_eq_true, decide_eq_true_eq] at h
  exact h.2
theorem stat_of {a b : Int} {x y : List Int} (h : (Kxd4Neutral.nat32 a && Kxd4Neutral.int32 b && Kxd4Neutral.list32 Kxd4Neutral.int32 x && Kxd4Neutral.list32 Kxd4Neutral.int32 y) = true) : StatPre [a, b] [x, y] := by
  obtain ⟨h, h4⟩ := Bool.and_eq_true_iff.mp h
  obtain ⟨h, h3⟩ := Bool.and_eq_true_iff.mp h
  obtain ⟨h1, h2⟩ := Bool.and_eq_true_iff.mp h
  exact ⟨a.toNat, b, x, y, by rw [← nat_of h1], rfl, list_of h3, list_of h4⟩
theorem tell_row (m : Kxd4.Model) (i : Nat) : Kxd4Neutral.fields (Kxd4.query m (.getRow i)) = tellRow m i := by
  show Kxd4Neutral.fields (Kxd4.withObservation m i _) = _
  unfold Kxd4.withObservation tellRow
  cases m.data[i]? <;> rfl
def deedF : Nat → DF
  | 0 => createF
  | 1 => addF
  | 2 => removeF
  | 3 => respF
  | 4 => termF
  | 5 => clearF
  | 6 => telF fun m ns ls => tellRow m (ns.getD 0 0).toNat
  | 7 => telF fun m ns ls => LF.tellRank m
  | 8 => telF fun m ns ls => LF.tellCoef m
  | 9 => telF fun m ns ls => LF.tellEstimate m (ls.getD 0 [])
  | 10 => telF fun m ns ls => LF.tellCov m (ls.getD 0 []) (ls.getD 1 [])
  | 11 => telF fun m ns ls => LF.tellSq m (ls.getD 0 [])
  | 12 => telF fun m ns ls => LF.tellFitted m (ns.getD 0 0).toNat
  | 13 => telF fun m ns ls => LF.tellLeverage m (ns.getD 0 0).toNat
  | 14 => telF fun m ns ls => LF.tellDeleted m (ns.getD 0 0).toNat
  | 15 => telF fun m ns ls => LF.tellResid m
  | 16 => telF fun m ns ls => LF.tellVar m
  | 17 => telF fun m ns ls => LF.tellSeq m
  | 18 => telF fun m ns ls => LF.tellMarg m
  | 19 => telF fun m ns ls => LF.tellF m (ns.getD 0 0).toNat
  | 20 => telF fun m ns ls => LF.tellLack m
  | 21 => telF fun m ns ls => LF.tellPredict m (ls.getD 0 [])
  | 22 => telF fun m ns ls => LF.tellLost m (ns.getD 0 0).toNat
  | 23 => telF fun m ns ls => LF.tellNormal m
  | 24 => telF fun m ns ls => LF.tellStat (ns.getD 0 0).toNat (ns.getD 1 0) (ls.getD 0 []) (ls.getD 1 [])
  | 25 => telF fun m ns ls => [(m.columns : Int), (m.data.length : Int), ((LF.termCountN m : Nat) : Int)]
  | _ => fun om _ _ => (om, [])
def deedP : Nat → DPr
  | 0 => fun _ ns _ => One1 ns
  | 1 => telP fun m ns ls => LF.Good m ∧ (∃ y, ns = [y]) ∧ L1 ls
  | 2 => telP fun m ns ls => LF.Good m ∧ One1 ns
  | 3 => telP fun m ns ls => LF.Good m ∧ ∃ (i : Nat) (y : Int), ns = [(i : Int), y]
  | 4 => telP fun m ns ls => LF.Good m ∧ ∃ l, ls = [l] ∧ l.length ≤ 60 ∧ ∀ z ∈ l, 0 ≤ z
  | 5 => telP fun m ns ls => LF.Good m
  | 6 => telP fun m ns ls => LF.Good m ∧ One1 ns
  | 7 => telP fun m ns ls => LF.Good m
  | 8 => telP fun m ns ls => LF.Good m
  | 9 => telP fun m ns ls => LF.Good m ∧ L1 ls
  | 10 => telP fun m ns ls => LF.Good m ∧ L2' ls
  | 11 => telP fun m ns ls => LF.Good m ∧ L1 ls
  | 12 => telP fun m ns ls => LF.Good m ∧ One1 ns
  | 13 => telP fun m ns ls => LF.Good m ∧ One1 ns
  | 14 => telP fun m ns ls => LF.Good m ∧ One1 ns
  | 15 => telP fun m ns ls => LF.Good m
  | 16 => telP fun m ns ls => LF.Good m
  | 17 => telP fun m ns ls => LF.Good m
  | 18 => telP fun m ns ls => LF.Good m
  | 19 => telP fun m ns ls => LF.Good m ∧ One1 ns
  | 20 => telP fun m ns ls => LF.Good m
  | 21 => telP fun m ns ls => LF.Good m ∧ L1 ls
  | 22 => telP fun m ns ls => LF.Good m ∧ One1 ns
  | 23 => telP fun m ns ls => LF.Good m
  | 24 => telP fun m ns ls => StatPre ns ls
  | 25 => telP fun m ns ls => LF.Good m
  | _ => fun _ _ _ => False
def ansF (i : Nat) : DF := fun om ns ls => if i ≠ 0 ∧ om = none then (om, [-11]) else deedF i om ns ls
structure Lawful (i : Nat) (om : Option Kxd4.Model) (ns : List Int) (ls : List (List Int)) : Prop where
  st : Kxd4Neutral.step om (((i : Int) :: ns) :: ls) = ansF i om ns ls
  pre : i = 0 ∨ om ≠ none → deedP i om ns ls
  good : ∀ m, (ansF i om ns ls).1 = some m → LF.Good m
theorem law6 (om : Option Kxd4.Model) (hG : ∀ m, om = some m → LF.Good m) (a : Int)  (ha : Kxd4Neutral.asked1 [[6, a]] = true) : Lawful 6 om [a] [] := by
  cases om with
  | none => exact ⟨rfl, fun h => by rcases h with h | h; exact absurd h (by decide); exact absurd rfl h, fun m h => by cases h⟩
  | some m =>
    have g := hG m rfl
    refine ⟨?_, fun _ => ⟨m, rfl, hG m rfl, one_of ha⟩, fun m' h => ?_⟩
    · show ((some m, Kxd4Neutral.fields (Kxd4.query m (.getRow a.toNat))) : Option Kxd4.Model × List Int) = (some m, tellRow m a.toNat)
      exact congrArg (Prod.mk (some m)) (tell_row m _)
    · have e : m = m' := Option.some.inj h
      exact e ▸ g
theorem law7 (om : Option Kxd4.Model) (hG : ∀ m, om = some m → LF.Good m)   (ha : Kxd4Neutral.asked1 [[7]] = true) : Lawful 7 om [] [] := by
  cases om with
  | none => exact ⟨rfl, fun h => by rcases h with h | h; exact absurd h (by decide); exact absurd rfl h, fun m h => by cases h⟩
  | some m =>
    have g := hG m rfl
    refine ⟨?_, fun _ => ⟨m, rfl, hG m rfl⟩, fun m' h => ?_⟩
    · show ((some m, Kxd4Neutral.fields (Kxd4.query m (.rank))) : Option Kxd4.Model × List Int) = (some m, LF.tellRank m)
      exact congrArg (Prod.mk (some m)) (LF.t_rank g)
    · have e : m = m' := Option.some.inj h
      exact e ▸ g
theorem law8 (om : Option Kxd4.Model) (hG : ∀ m, om = some m → LF.Good m)   (ha : Kxd4Neutral.asked1 [[8]] = true) : Lawful 8 om [] [] := by
  cases om with
  | none => exact ⟨rfl, fun h => by rcases h with h | h; exact absurd h (by decide); exact absurd rfl h, fun m h => by cases h⟩
  | some m =>
    have g := hG m rfl
    refine ⟨?_, fun _ => ⟨m, rfl, hG m rfl⟩, fun m' h => ?_⟩
    · show ((some m, Kxd4Neutral.fields (Kxd4.query m (.coefficients))) : Option Kxd4.Model × List Int) = (some m, LF.tellCoef m)
      exact congrArg (Prod.mk (some m)) (LF.t_coef g)
    · have e : m = m' := Option.some.inj h
      exact e ▸ g
theorem law9 (om : Option Kxd4.Model) (hG : ∀ m, om = some m → LF.Good m)  (x : List Int) (ha : Kxd4Neutral.asked1 [[9], x] = true) : Lawful 9 om [] [x] := by
  cases om with
  | none => exact ⟨rfl, fun h => by rcases h with h | h; exact absurd h (by decide); exact absurd rfl h, fun m h => by cases h⟩
  | some m =>
    have g := hG m rfl
    refine ⟨?_, fun _ => ⟨m, rfl, hG m rfl, x, rfl, list_of ha⟩, fun m' h => ?_⟩
    · show ((some m, Kxd4Neutral.fields (Kxd4.query m (.estimate x))) : Option Kxd4.Model × List Int) = (some m, LF.tellEstimate m x)
      exact congrArg (Prod.mk (some m)) (LF.t_estimate g x)
    · have e : m = m' := Option.some.inj h
      exact e ▸ g
theorem law10 (om : Option Kxd4.Model) (hG : ∀ m, om = some m → LF.Good m)  (x : List Int) (y : List Int) (ha : Kxd4Neutral.asked1 [[10], x, y] = true) : Lawful 10 om [] [x, y] := by
  cases om with
  | none => exact ⟨rfl, fun h => by rcases h with h | h; exact absurd h (by decide); exact absurd rfl h, fun m h => by cases h⟩
  | some m =>
    have g := hG m rfl
    refine ⟨?_, fun _ => ⟨m, rfl, hG m rfl, x, y, rfl, list_of (Bool.and_eq_true_iff.mp ha).1, list_of (Bool.and_eq_true_iff.mp ha).2⟩, fun m' h => ?_⟩
    · show ((some m, Kxd4Neutral.fields (Kxd4.query m (.covariance x y))) : Option Kxd4.Model × List Int) = (some m, LF.tellCov m x y)
      exact congrArg (Prod.mk (some m)) (LF.t_cov g x y)
    · have e : m = m' := Option.some.inj h
      exact e ▸ g
theorem law11 (om : Option Kxd4.Model) (hG : ∀ m, om = some m → LF.Good m)  (x : List Int) (ha : Kxd4Neutral.asked1 [[11], x] = true) : Lawful 11 om [] [x] := by
  cases om with
  | none => exact ⟨rfl, fun h => by rcases h with h | h; exact absurd h (by decide); exact absurd rfl h, fun m h => by cases h⟩
  | some m =>
    have g := hG m rfl
    refine ⟨?_, fun _ => ⟨m, rfl, hG m rfl, x, rfl, list_of ha⟩, fun m' h => ?_⟩
    · show ((some m, Kxd4Neutral.fields (Kxd4.query m (.squaredRatio x))) : Option Kxd4.Model × List Int) = (some m, LF.tellSq m x)
      exact congrArg (Prod.mk (some m)) (LF.t_sq g x)
    · have e : m = m' := Option.some.inj h
      exact e ▸ g
theorem law12 (om : Option Kxd4.Model) (hG : ∀ m, om = some m → LF.Good m) (a : Int)  (ha : Kxd4Neutral.asked1 [[12, a]] = true) : Lawful 12 om [a] [] := by
  cases om with
  | none => exact ⟨rfl, fun h => by rcases h with h | h; exact absurd h (by decide); exact absurd rfl h, fun m h => by cases h⟩
  | some m =>
    have g := hG m rfl
    refine ⟨?_, fun _ => ⟨m, rfl, hG m rfl, one_of ha⟩, fun m' h => ?_⟩
    · show ((some m, Kxd4Neutral.fields (Kxd4.query m (.fitted a.toNat))) : Option Kxd4.Model × List Int) = (some m, LF.tellFitted m a.toNat)
      exact congrArg (Prod.mk (some m)) (LF.t_fitted g _)
    · have e : m = m' := Option.some.inj h
      exact e ▸ g
theorem law13 (om : Option Kxd4.Model) (hG : ∀ m, om = some m → LF.Good m) (a : Int)  (ha : Kxd4Neutral.asked1 [[13, a]] = true) : Lawful 13 om [a] [] := by
  cases om with
  | none => exact ⟨rfl, fun h => by rcases h with h | h; exact absurd h (by decide); exact absurd rfl h, fun m h => by cases h⟩
  | some m =>
    have g := hG m rfl
    refine ⟨?_, fun _ => ⟨m, rfl, hG m rfl, one_of ha⟩, fun m' h => ?_⟩
    · show ((some m, Kxd4Neutral.fields (Kxd4.query m (.leverage a.toNat))) : Option Kxd4.Model × List Int) = (some m, LF.tellLeverage m a.toNat)
      exact congrArg (Prod.mk (some m)) (LF.t_leverage g _)
    · have e : m = m' := Option.some.inj h
      exact e ▸ g
theorem law14 (om : Option Kxd4.Model) (hG : ∀ m, om = some m → LF.Good m) (a : Int)  (ha : Kxd4Neutral.asked1 [[14, a]] = true) : Lawful 14 om [a] [] := by
  cases om with
  | none => exact ⟨rfl, fun h => by rcases h with h | h; exact absurd h (by decide); exact absurd rfl h, fun m h => by cases h⟩
  | some m =>
    have g := hG m rfl
    refine ⟨?_, fun _ => ⟨m, rfl, hG m rfl, one_of ha⟩, fun m' h => ?_⟩
    · show ((some m, Kxd4Neutral.fields (Kxd4.query m (.deleted a.toNat))) : Option Kxd4.Model × List Int) = (some m, LF.tellDeleted m a.toNat)
      exact congrArg (Prod.mk (some m)) (LF.t_deleted g _)
    · have e : m = m' := Option.some.inj h
      exact e ▸ g
theorem law15 (om : Option Kxd4.Model) (hG : ∀ m, om = some m → LF.Good m)   (ha : Kxd4Neutral.asked1 [[15]] = true) : Lawful 15 om [] [] := by
  cases om with
  | none => exact ⟨rfl, fun h => by rcases h with h | h; exact absurd h (by decide); exact absurd rfl h, fun m h => by cases h⟩
  | some m =>
    have g := hG m rfl
    refine ⟨?_, fun _ => ⟨m, rfl, hG m rfl⟩, fun m' h => ?_⟩
    · show ((some m, Kxd4Neutral.fields (Kxd4.query m (.residualSum))) : Option Kxd4.Model × List Int) = (some m, LF.tellResid m)
      exact congrArg (Prod.mk (some m)) (LF.t_resid g)
    · have e : m = m' := Option.some.inj h
      exact e ▸ g
theorem law16 (om : Option Kxd4.Model) (hG : ∀ m, om = some m → LF.Good m)   (ha : Kxd4Neutral.asked1 [[16]] = true) : Lawful 16 om [] [] := by
  cases om with
  | none => exact ⟨rfl, fun h => by rcases h with h | h; exact absurd h (by decide); exact absurd rfl h, fun m h => by cases h⟩
  | some m =>
    have g := hG m rfl
    refine ⟨?_, fun _ => ⟨m, rfl, hG m rfl⟩, fun m' h => ?_⟩
    · show ((some m, Kxd4Neutral.fields (Kxd4.query m (.varianceEstimate))) : Option Kxd4.Model × List Int) = (some m, LF.tellVar m)
      exact congrArg (Prod.mk (some m)) (LF.t_var g)
    · have e : m = m' := Option.some.inj h
      exact e ▸ g
theorem law17 (om : Option Kxd4.Model) (hG : ∀ m, om = some m → LF.Good m)   (ha : Kxd4Neutral.asked1 [[17]] = true) : Lawful 17 om [] [] := by
  cases om with
  | none => exact ⟨rfl, fun h => by rcases h with h | h; exact absurd h (by decide); exact absurd rfl h, fun m h => by cases h⟩
  | some m =>
    have g := hG m rfl
    refine ⟨?_, fun _ => ⟨m, rfl, hG m rfl⟩, fun m' h => ?_⟩
    · show ((some m, Kxd4Neutral.fields (Kxd4.query m (.sequential))) : Option Kxd4.Model × List Int) = (some m, LF.tellSeq m)
      exact congrArg (Prod.mk (some m)) (LF.t_seq g)
    · have e : m = m' := Option.some.inj h
      exact e ▸ g
theorem law18 (om : Option Kxd4.Model) (hG : ∀ m, om = some m → LF.Good m)   (ha : Kxd4Neutral.asked1 [[18]] = true) : Lawful 18 om [] [] := by
  cases om with
  | none => exact ⟨rfl, fun h => by rcases h with h | h; exact absurd h (by decide); exact absurd rfl h, fun m h => by cases h⟩
  | some m =>
    have g := hG m rfl
    refine ⟨?_, fun _ => ⟨m, rfl, hG m rfl⟩, fun m' h => ?_⟩
    · show ((some m, Kxd4Neutral.fields (Kxd4.query m (.marginal))) : Option Kxd4.Model × List Int) = (some m, LF.tellMarg m)
      exact congrArg (Prod.mk (some m)) (LF.t_marg g)
    · have e : m = m' := Option.some.inj h
      exact e ▸ g
theorem law19 (om : Option Kxd4.Model) (hG : ∀ m, om = some m → LF.Good m) (a : Int)  (ha : Kxd4Neutral.asked1 [[19, a]] = true) : Lawful 19 om [a] [] := by
  cases om with
  | none => exact ⟨rfl, fun h => by rcases h with h | h; exact absurd h (by decide); exact absurd rfl h, fun m h => by cases h⟩
  | some m =>
    have g := hG m rfl
    refine ⟨?_, fun _ => ⟨m, rfl, hG m rfl, one_of ha⟩, fun m' h => ?_⟩
    · show ((some m, Kxd4Neutral.fields (Kxd4.query m (.fRatio a.toNat))) : Option Kxd4.Model × List Int) = (some m, LF.tellF m a.toNat)
      exact congrArg (Prod.mk (some m)) (LF.t_f g _)
    · have e : m = m' := Option.some.inj h
      exact e ▸ g
theorem law20 (om : Option Kxd4.Model) (hG : ∀ m, om = some m → LF.Good m)   (ha : Kxd4Neutral.asked1 [[20]] = true) : Lawful 20 om [] [] := by
  cases om with
  | none => exact ⟨rfl, fun h => by rcases h with h | h; exact absurd h (by decide); exact absurd rfl h, fun m h => by cases h⟩
  | some m =>
    have g := hG m rfl
    refine ⟨?_, fun _ => ⟨m, rfl, hG m rfl⟩, fun m' h => ?_⟩
    · show ((some m, Kxd4Neutral.fields (Kxd4.query m (.lackOfFit))) : Option Kxd4.Model × List Int) = (some m, LF.tellLack m)
      exact congrArg (Prod.mk (some m)) (LF.t_lack g)
    · have e : m = m' := Option.some.inj h
      exact e ▸ g
theorem law21 (om : Option Kxd4.Model) (hG : ∀ m, om = some m → LF.Good m)  (x : List Int) (ha : Kxd4Neutral.asked1 [[21], x] = true) : Lawful 21 om [] [x] := by
  cases om with
  | none => exact ⟨rfl, fun h => by rcases h with h | h; exact absurd h (by decide); exact absurd rfl h, fun m h => by cases h⟩
  | some m =>
    have g := hG m rfl
    refine ⟨?_, fun _ => ⟨m, rfl, hG m rfl, x, rfl, list_of ha⟩, fun m' h => ?_⟩
    · show ((some m, Kxd4Neutral.fields (Kxd4.query m (.predict x))) : Option Kxd4.Model × List Int) = (some m, LF.tellPredict m x)
      exact congrArg (Prod.mk (some m)) (LF.t_predict g x)
    · have e : m = m' := Option.some.inj h
      exact e ▸ g
theorem law22 (om : Option Kxd4.Model) (hG : ∀ m, om = some m → LF.Good m) (a : Int)  (ha : Kxd4Neutral.asked1 [[22, a]] = true) : Lawful 22 om [a] [] := by
  cases om with
  | none => exact ⟨rfl, fun h => by rcases h with h | h; exact absurd h (by decide); exact absurd rfl h, fun m h => by cases h⟩
  | some m =>
    have g := hG m rfl
    refine ⟨?_, fun _ => ⟨m, rfl, hG m rfl, one_of ha⟩, fun m' h => ?_⟩
    · show ((some m, Kxd4Neutral.fields (Kxd4.query m (.lostValue a.toNat))) : Option Kxd4.Model × List Int) = (some m, LF.tellLost m a.toNat)
      exact congrArg (Prod.mk (some m)) (LF.t_lost g _)
    · have e : m = m' := Option.some.inj h
      exact e ▸ g
theorem law23 (om : Option Kxd4.Model) (hG : ∀ m, om = some m → LF.Good m)   (ha : Kxd4Neutral.asked1 [[23]] = true) : Lawful 23 om [] [] := by
  cases om with
  | none => exact ⟨rfl, fun h => by rcases h with h | h; exact absurd h (by decide); exact absurd rfl h, fun m h => by cases h⟩
  | some m =>
    have g := hG m rfl
    refine ⟨?_, fun _ => ⟨m, rfl, hG m rfl⟩, fun m' h => ?_⟩
    · show ((some m, Kxd4Neutral.fields (Kxd4.query m (.normalEquations))) : Option Kxd4.Model × List Int) = (some m, LF.tellNormal m)
      exact congrArg (Prod.mk (some m)) (LF.t_normal g)
    · have e : m = m' := Option.some.inj h
      exact e ▸ g
theorem law24 (om : Option Kxd4.Model) (hG : ∀ m, om = some m → LF.Good m) (a : Int) (b : Int) (x : List Int) (y : List Int) (ha : Kxd4Neutral.asked1 [[24, a, b], x, y] = true) : Lawful 24 om [a, b] [x, y] := by
  cases om with
  | none => exact ⟨rfl, fun h => by rcases h with h | h; exact absurd h (by decide); exact absurd rfl h, fun m h => by cases h⟩
  | some m =>
    have g := hG m rfl
    refine ⟨?_, fun _ => ⟨m, rfl, stat_of ha⟩, fun m' h => ?_⟩
    · show ((some m, Kxd4Neutral.fields (Kxd4.query m (.stationary a.toNat b x y))) : Option Kxd4.Model × List Int) = (some m, LF.tellStat a.toNat b x y)
      exact congrArg (Prod.mk (some m)) (LF.t_stat m _ _ _ _)
    · have e : m = m' := Option.some.inj h
      exact e ▸ g
theorem law25 (om : Option Kxd4.Model) (hG : ∀ m, om = some m → LF.Good m)   (ha : Kxd4Neutral.asked1 [[25]] = true) : Lawful 25 om [] [] := by
  cases om with
  | none => exact ⟨rfl, fun h => by rcases h with h | h; exact absurd h (by decide); exact absurd rfl h, fun m h => by cases h⟩
  | some m =>
    have g := hG m rfl
    refine ⟨?_, fun _ => ⟨m, rfl, hG m rfl⟩, fun m' h => ?_⟩
    · show ((some m, Kxd4Neutral.fields (Kxd4.query m (.summary))) : Option Kxd4.Model × List Int) = (some m, [(m.columns : Int), (m.data.length : Int), ((LF.termCountN m : Nat) : Int)])
      exact congrArg (Prod.mk (some m)) rfl
    · have e : m = m' := Option.some.inj h
      exact e ▸ g
theorem law0 (om : Option Kxd4.Model) (hG : ∀ m, om = some m → LF.Good m) (a : Int) (ha : Kxd4Neutral.asked1 [[0, a]] = true) : Lawful 0 om [a] [] := by
  have ha : Kxd4Neutral.nat32 a = true := ha
  have h0 := nat_of ha
  have e0 : ansF 0 om [a] [] = createF om [a] [] := if_neg fun h => h.1 rfl
  have st : Kxd4Neutral.step om [[0, a]] = if a.toNat = 0 ∨ 8 < a.toNat then (om, [-22]) else (some ⟨a.toNat, List.range a.toNat, []⟩, [0]) := by
    show ((Kxd4.step om (.create a.toNat)).1, Kxd4Neutral.fields (Kxd4.step om (.create a.toNat)).2) = _
    have e : Kxd4.step om (.create a.toNat) = if a.toNat = 0 ∨ 8 < a.toNat then (om, .value (-22)) else (some ⟨a.toNat, List.range a.toNat, []⟩, .value 0) := by cases om <;> rfl
    rw [e]
    split <;> rfl
  by_cases c : a.toNat = 0 ∨ 8 < a.toNat
  · have e1 : createF om [a] [] = (om, [-22]) := if_neg (show ¬ (1 ≤ a ∧ a ≤ 8) by omega)
    exact ⟨by rw [e0, e1]; exact st.trans (if_pos c), fun _ => one_of ha, fun m h => by rw [e0, e1] at h; exact hG m h⟩
  · have e1 : createF om [a] [] = (some ⟨a.toNat, List.range a.toNat, []⟩, [0]) := if_pos (show 1 ≤ a ∧ a ≤ 8 by omega)
    refine ⟨by rw [e0, e1]; exact st.trans (if_neg c), fun _ => one_of ha, fun m h => ?_⟩
    rw [e0, e1] at h
    have h : (⟨a.toNat, List.range a.toNat, []⟩ : Kxd4.Model) = m := Option.some.inj h
    subst h
    refine ⟨by show 1 ≤ a.toNat; omega, by show a.toNat ≤ 8; omega, List.length_range, ?_, fun j hj => ?_, by show 0 ≤ 24; decide, fun o ho => (List.not_mem_nil ho).elim, fun o ho => (List.not_mem_nil ho).elim, fun o ho => (List.not_mem_nil ho).elim⟩
    · show (List.range a.toNat).getD 0 1 = 0
      rw [List.getD_eq_getElem?_getD, List.getElem?_range (by omega)]; rfl
    · have hj : j + 1 < a.toNat := hj
      right
      show (List.range a.toNat).getD (j + 1) 0 = (List.range a.toNat).getD j 0 + 1
      rw [List.getD_eq_getElem?_getD, List.getD_eq_getElem?_getD, List.getElem?_range hj, List.getElem?_range (by omega)]; rfl
theorem noneLaw {i : Nat} {ns : List Int} {ls : List (List Int)} (hi : i ≠ 0) (st : Kxd4Neutral.step none (((i : Int) :: ns) :: ls) = (none, [-11])) : Lawful i none ns ls := by
  have e : ansF i none ns ls = (none, [-11]) := if_pos ⟨hi, rfl⟩
  exact ⟨by rw [e]; exact st, fun h => by rcases h with h | h; exact absurd h hi; exact absurd rfl h, fun m h => by rw [e] at h; cases h⟩
theorem ans_some {i : Nat} {m : Kxd4.Model} {ns : List Int} {ls : List (List Int)} : ansF i (some m) ns ls = deedF i (some m) ns ls := if_neg fun h => by cases h.2
theorem row_ok {m : Kxd4.Model} {l : List Int} (h : Kxd4.isRow m l = true) : l.length = m.columns ∧ ∀ z ∈ l, -1000 ≤ z ∧ z ≤ 1000 := by
  unfold Kxd4.isRow at h
  rw [Bool.and_eq_true, beq_iff_eq, List.all_eq_true] at h
  refine ⟨h.1, fun z hz => ?_⟩
  have := h.2 z hz
  rw [Bool.and_eq_true, decide_eq_true_eq, decide_eq_true_eq] at this
  exact this
theorem resp_ok {z : Int} (h : Kxd4.isResponse z = true) : -1000000 ≤ z ∧ z ≤ 1000000 := by
  unfold Kxd4.isResponse at h
  rw [Bool.and_eq_true, decide_eq_true_eq, decide_eq_true_eq] at h
  exact h
theorem good_data {m : Kxd4.Model} (g : LF.Good m) {d : List Kxd4.Observation} (hl : d.length ≤ 24) (hd : ∀ o ∈ d, o.row.length = m.columns ∧ (∀ z ∈ o.row, -1000 ≤ z ∧ z ≤ 1000) ∧ -1000000 ≤ o.response ∧ o.response ≤ 1000000) : LF.Good { m with data := d } :=
  ⟨g.c1, g.c8, g.tl, g.t0, g.ts, hl, fun o ho => (hd o ho).1, fun o ho => (hd o ho).2.1, fun o ho => (hd o ho).2.2⟩
theorem good_obs {m : Kxd4.Model} (g : LF.Good m) {o : Kxd4.Observation} (ho : o ∈ m.data) : o.row.length = m.columns ∧ (∀ z ∈ o.row, -1000 ≤ z ∧ z ≤ 1000) ∧ -1000000 ≤ o.response ∧ o.response ≤ 1000000 := ⟨g.row o ho, g.ent o ho, g.resp o ho⟩
theorem law1 (om : Option Kxd4.Model) (hG : ∀ m, om = some m → LF.Good m) (a : Int) (x : List Int) (ha : Kxd4Neutral.asked1 [[1, a], x] = true) : Lawful 1 om [a] [x] := by
  have ha : (Kxd4Neutral.int32 a && Kxd4Neutral.list32 Kxd4Neutral.int32 x) = true := ha
  have hx := list_of (Bool.and_eq_true_iff.mp ha).2
  cases om with
  | none => exact noneLaw (by decide) rfl
  | some m =>
    have g := hG m rfl
    have st : Kxd4Neutral.step (some m) [[((1 : Nat) : Int), a], x] = ((Kxd4.step (some m) (.addRow a x)).1, Kxd4Neutral.fields (Kxd4.step (some m) (.addRow a x)).2) := rfl
    have e : Kxd4.step (some m) (.addRow a x) = if Kxd4.isRow m x = false ∨ Kxd4.isResponse a = false then (some m, .value (-22)) else if 24 ≤ m.data.length then (some m, .value (-28)) else (some { m with data := m.data ++ [⟨x, a⟩] }, .value (m.data.length + 1 : Nat)) := rfl
    have f : deedF 1 (some m) [a] [x] = if isWithin a 1000000 = false ∨ Kxd4.isRow m x = false then (some m, [-22]) else if 24 ≤ m.data.length then (some m, [-28]) else (some { m with data := m.data ++ [⟨x, a⟩] }, [(m.data.length : Int) + 1]) := rfl
    rw [within_resp] at f
    refine ⟨?_, fun _ => ⟨m, rfl, g, ⟨a, rfl⟩, x, rfl, hx⟩, fun m' h => ?_⟩
    · rw [ans_some, st, e, f]
      by_cases c1 : Kxd4.isRow m x = false ∨ Kxd4.isResponse a = false
      · rw [if_pos c1, if_pos c1.symm]; rfl
      · have c1' : ¬ (Kxd4.isResponse a = false ∨ Kxd4.isRow m x = false) := fun z => c1 z.symm
        rw [if_neg c1, if_neg c1']
        by_cases c2 : 24 ≤ m.data.length
        · rw [if_pos c2, if_pos c2]; rfl
        · rw [if_neg c2, if_neg c2]; rfl
    · rw [ans_some, f] at h
      by_cases c1 : Kxd4.isResponse a = false ∨ Kxd4.isRow m x = false
      · rw [if_pos c1] at h
        exact (Option.some.inj h) ▸ g
      · rw [if_neg c1] at h
        by_cases c2 : 24 ≤ m.data.length
        · rw [if_pos c2] at h
          exact (Option.some.inj h) ▸ g
        · rw [if_neg c2] at h
          have h := Option.some.inj h
          subst h
          have r1 : Kxd4.isRow m x = true := by cases q : Kxd4.isRow m x with | true => rfl | false => exact absurd (.inr q) c1
          have r2 : Kxd4.isResponse a = true := by cases q : Kxd4.isResponse a with | true => rfl | false => exact absurd (.inl q) c1
          refine good_data g (by rw [List.length_append]; show _ + 1 ≤ 24; omega) fun o ho => ?_
          rcases List.mem_append.mp ho with ho | ho
          · exact good_obs g ho
          · rw [List.mem_singleton.mp ho]
            exact ⟨(row_ok r1).1, (row_ok r1).2, resp_ok r2⟩
theorem law2 (om : Option Kxd4.Model) (hG : ∀ m, om = some m → LF.Good m) (a : Int) (ha : Kxd4Neutral.asked1 [[2, a]] = true) : Lawful 2 om [a] [] := by
  have ha : Kxd4Neutral.nat32 a = true := ha
  cases om with
  | none => exact noneLaw (by decide) rfl
  | some m =>
    have g := hG m rfl
    have n24 := g.n24
    have st : Kxd4Neutral.step (some m) [[((2 : Nat) : Int), a]] = ((Kxd4.step (some m) (.removeRow a.toNat)).1, Kxd4Neutral.fields (Kxd4.step (some m) (.removeRow a.toNat)).2) := rfl
    have e : Kxd4.step (some m) (.removeRow a.toNat) = if m.data.length ≤ a.toNat then (some m, .value (-2)) else (some (Kxd4.without m a.toNat), .value (m.data.length - 1 : Nat)) := rfl
    have f : deedF 2 (some m) [a] [] = if m.data.length ≤ a.toNat then (some m, [-2]) else (some { m with data := m.data.take a.toNat ++ m.data.drop (a.toNat + 1) }, [(m.data.length : Int) - 1]) := rfl
    have w : Kxd4.without m a.toNat = { m with data := m.data.take a.toNat ++ m.data.drop (a.toNat + 1) } := by
      unfold Kxd4.without
      rw [List.eraseIdx_eq_take_drop_succ]
    refine ⟨?_, fun _ => ⟨m, rfl, g, one_of ha⟩, fun m' h => ?_⟩
    · rw [ans_some, st, e, f]
      by_cases c1 : m.data.length ≤ a.toNat
      · rw [if_pos c1, if_pos c1]; rfl
      · rw [if_neg c1, if_neg c1, w]
        show (_, [_]) = (_, [_])
        congr 2
        omega
    · rw [ans_some, f] at h
      by_cases c1 : m.data.length ≤ a.toNat
      · rw [if_pos c1] at h
        exact (Option.some.inj h) ▸ g
      · rw [if_neg c1, ← w] at h
        have h : Kxd4.without m a.toNat = m' := Option.some.inj h
        exact h ▸ g.without _
theorem law3 (om : Option Kxd4.Model) (hG : ∀ m, om = some m → LF.Good m) (a b : Int) (ha : Kxd4Neutral.asked1 [[3, a, b]] = true) : Lawful 3 om [a, b] [] := by
  have ha : (Kxd4Neutral.nat32 a && Kxd4Neutral.int32 b) = true := ha
  have h0 := nat_of (Bool.and_eq_true_iff.mp ha).1
  cases om with
  | none => exact noneLaw (by decide) rfl
  | some m =>
    have g := hG m rfl
    have n24 := g.n24
    have st : Kxd4Neutral.step (some m) [[((3 : Nat) : Int), a, b]] = ((Kxd4.step (some m) (.setResponse a.toNat b)).1, Kxd4Neutral.fields (Kxd4.step (some m) (.setResponse a.toNat b)).2) := rfl
    have e : Kxd4.step (some m) (.setResponse a.toNat b) = match m.data[a.toNat]? with
      | none => (some m, .value (-2))
      | some o => if Kxd4.isResponse b = false then (some m, .value (-22)) else (some { m with data := m.data.set a.toNat { o with response := b } }, .value o.response) := rfl
    have f : deedF 3 (some m) [a, b] [] = if m.data.length ≤ a.toNat then (some m, [-2]) else if isWithin b 1000000 = false then (some m, [-22])
        else (some { m with data := m.data.take a.toNat ++ [⟨(obsD m a.toNat).row, b⟩] ++ m.data.drop (a.toNat + 1) }, [(obsD m a.toNat).response]) := rfl
    rw [within_resp] at f
    refine ⟨?_, fun _ => ⟨m, rfl, g, a.toNat, b, by rw [← h0]⟩, fun m' h => ?_⟩
    · rw [ans_some, st, e, f]
      by_cases c1 : m.data.length ≤ a.toNat
      · rw [if_pos c1, List.getElem?_eq_none c1]; rfl
      · rw [if_neg c1, obs_at (by omega)]
        simp only
        by_cases c2 : Kxd4.isResponse b = false
        · rw [if_pos c2, if_pos c2]; rfl
        · rw [if_neg c2, if_neg c2, List.set_eq_take_append_cons_drop, if_pos (by omega), List.append_assoc]
          rfl
    · rw [ans_some, f] at h
      by_cases c1 : m.data.length ≤ a.toNat
      · rw [if_pos c1] at h
        exact (Option.some.inj h) ▸ g
      · rw [if_neg c1] at h
        by_cases c2 : Kxd4.isResponse b = false
        · rw [if_pos c2] at h
          exact (Option.some.inj h) ▸ g
        · rw [if_neg c2] at h
          have h := Option.some.inj h
          subst h
          have r2 : Kxd4.isResponse b = true := by cases q : Kxd4.isResponse b with | true => rfl | false => exact absurd q c2
          refine good_data g (by rw [List.length_append, List.length_append, List.length_take, List.length_drop]; show _ + 1 + _ ≤ 24; omega) fun o ho => ?_
          rcases List.mem_append.mp ho with ho | ho
          · rcases List.mem_append.mp ho with ho | ho
            · exact good_obs g (List.mem_of_mem_take ho)
            · rw [List.mem_singleton.mp ho]
              have q := good_obs g (obs_mem (m := m) (i := a.toNat) (by omega))
              exact ⟨q.1, q.2.1, resp_ok r2⟩
          · exact good_obs g (List.mem_of_mem_drop ho)
theorem law5 (om : Option Kxd4.Model) (hG : ∀ m, om = some m → LF.Good m) (ha : Kxd4Neutral.asked1 [[5]] = true) : Lawful 5 om [] [] := by
  cases om with
  | none => exact noneLaw (by decide) rfl
  | some m =>
    have g := hG m rfl
    exact ⟨rfl, fun _ => ⟨m, rfl, g⟩, fun m' h => (Option.some.inj h) ▸ good_data g (Nat.zero_le _) fun o ho => by cases ho⟩
/-! terms -/
theorem termsI_facts {m : Kxd4.Model} {l : List Int} : areTermsI m l = true ↔ l.length = m.columns ∧ l.getD 0 0 = 0 ∧ ∀ p, p + 1 < l.length → 0 ≤ l.getD (p + 1) 0 - l.getD p 0 ∧ l.getD (p + 1) 0 - l.getD p 0 ≤ 1 := by
  unfold areTermsI
  by_cases c : l.length = m.columns ∧ l.getD 0 0 = 0
  · rw [if_neg (by rw [decide_eq_true (show (l.length : Int) = (m.columns : Int) by omega), decide_eq_true c.2]; exact fun z => by cases z), List.all_map, List.all_eq_true]
    refine ⟨fun h => ⟨c.1, c.2, fun p hp => ?_⟩, fun h p hp => ?_⟩
    · have := h (p + 1) (List.mem_range'_1.mpr (by omega))
      have e : p + 1 - 1 = p := rfl
      simpa using this
    · have hp := List.mem_range'_1.mp hp
      have := h.2.2 (p - 1) (by omega)
      rw [show p - 1 + 1 = p by omega] at this
      simpa using this
  · rw [if_pos ?_]
    · exact ⟨fun h => (by cases h), fun h => absurd ⟨h.1, h.2.1⟩ c⟩
    · by_cases c1 : l.length = m.columns
      · rw [decide_eq_true (show (l.length : Int) = (m.columns : Int) by omega), decide_eq_false (fun z => c ⟨c1, z⟩)]; rfl
      · rw [decide_eq_false (show ¬ (l.length : Int) = (m.columns : Int) by omega)]; rfl
theorem termsN_facts {m : Kxd4.Model} {l : List Nat} (h1 : 1 ≤ m.columns) : Kxd4.areTerms m l = true ↔ l.length = m.columns ∧ l.getD 0 0 = 0 ∧ ∀ p, p + 1 < l.length → l.getD (p + 1) 0 = l.getD p 0 ∨ l.getD (p + 1) 0 = l.getD p 0 + 1 := by
  unfold Kxd4.areTerms
  rw [Bool.and_eq_true, Bool.and_eq_true, beq_iff_eq, beq_iff_eq, List.all_eq_true]
  have hd : l.length = m.columns → l.headD 1 = l.getD 0 0 := fun h => by
    cases l with
    | nil => have : 0 = m.columns := h; omega
    | cons x l => rfl
  have gd : ∀ j (hj : j < l.length), l.getD j 0 = l[j] := fun j hj => by rw [List.getD_eq_getElem?_getD, List.getElem?_eq_getElem hj]; rfl
  constructor
  · rintro ⟨⟨a, b⟩, c⟩
    refine ⟨a, (hd a).symm.trans b, fun p hp => ?_⟩
    have hz : (l.zip (l.drop 1))[p]? = some (l[p], l[p + 1]) := by
      rw [List.getElem?_zip_eq_some, List.getElem?_drop]
      exact ⟨List.getElem?_eq_getElem _, by rw [Nat.add_comm 1 p]; exact List.getElem?_eq_getElem _⟩
    have := c _ (List.mem_of_getElem? hz)
    rw [Bool.or_eq_true, beq_iff_eq, beq_iff_eq] at this
    rw [gd p (by omega), gd (p + 1) hp]
    exact this
  · rintro ⟨a, b, c⟩
    refine ⟨⟨a, (hd a).trans b⟩, fun z hz => ?_⟩
    obtain ⟨p, hp⟩ := List.mem_iff_getElem?.mp hz
    rw [List.getElem?_zip_eq_some, List.getElem?_drop, Nat.add_comm 1 p] at hp
    obtain ⟨q1, q2⟩ := List.getElem?_eq_some_iff.mp hp.1
    obtain ⟨q3, q4⟩ := List.getElem?_eq_some_iff.mp hp.2
    have := c p q3
    rw [gd p q1, gd (p + 1) q3, q2, q4] at this
    rw [Bool.or_eq_true, beq_iff_eq, beq_iff_eq]
    exact this
theorem toNat_get {l : List Int} (p : Nat) : (l.map Int.toNat).getD p 0 = (l.getD p 0).toNat := by
  rw [List.getD_eq_getElem?_getD, List.getD_eq_getElem?_getD, List.getElem?_map]
  cases l[p]? <;> rfl
theorem nonneg_get {l : List Int} (h : ∀ z ∈ l, 0 ≤ z) (p : Nat) : 0 ≤ l.getD p 0 := by
  rw [List.getD_eq_getElem?_getD]
  cases q : l[p]? with
  | none => exact Int.le_refl 0
  | some z => exact h z (List.mem_of_getElem? q)
theorem terms_same {m : Kxd4.Model} {l : List Int} (h1 : 1 ≤ m.columns) (h0 : ∀ z ∈ l, 0 ≤ z) : Kxd4.areTerms m (l.map Int.toNat) = areTermsI m l := by
  rw [Bool.eq_iff_iff, termsN_facts h1, termsI_facts, List.length_map]
  refine and_congr Iff.rfl (and_congr ?_ (forall_congr' fun p => forall_congr' fun hp => ?_))
  · rw [toNat_get]
    have := nonneg_get h0 0
    omega
  · rw [toNat_get, toNat_get]
    have a1 := nonneg_get h0 p
    have a2 := nonneg_get h0 (p + 1)
    omega
theorem law4 (om : Option Kxd4.Model) (hG : ∀ m, om = some m → LF.Good m) (x : List Int) (ha : Kxd4Neutral.asked1 [[4], x] = true) : Lawful 4 om [] [x] := by
  have ha : Kxd4Neutral.list32 Kxd4Neutral.nat32 x = true := ha
  have hx := list_of ha
  have h0 : ∀ z ∈ x, 0 ≤ z := fun z hz => by
    unfold Kxd4Neutral.list32 at ha
    have := List.all_eq_true.mp (Bool.and_eq_true_iff.mp ha).1 z hz
    have := nat_of this
    omega
  cases om with
  | none => exact noneLaw (by decide) rfl
  | some m =>
    have g := hG m rfl
    have c1 := g.c1
    have st : Kxd4Neutral.step (some m) [[((4 : Nat) : Int)], x] = ((Kxd4.step (some m) (.setTerms (x.map Int.toNat))).1, Kxd4Neutral.fields (Kxd4.step (some m) (.setTerms (x.map Int.toNat))).2) := rfl
    have e : Kxd4.step (some m) (.setTerms (x.map Int.toNat)) = if Kxd4.areTerms m (x.map Int.toNat) = false then (some m, .value (-22)) else (some { m with terms := x.map Int.toNat }, .value (Kxd4.termCount { m with terms := x.map Int.toNat })) := rfl
    have f : deedF 4 (some m) [] [x] = if areTermsI m x = false then (some m, [-22]) else (some { m with terms := x.map Int.toNat }, [(((x.map Int.toNat).getLastD 0 + 1 : Nat) : Int)]) := rfl
    refine ⟨?_, fun _ => ⟨m, rfl, g, x, rfl, hx, h0⟩, fun m' h => ?_⟩
    · rw [ans_some, st, e, f, terms_same c1 h0]
      by_cases c : areTermsI m x = false
      · rw [if_pos c, if_pos c]; rfl
      · rw [if_neg c, if_neg c]; rfl
    · rw [ans_some, f] at h
      by_cases c : areTermsI m x = false
      · rw [if_pos c] at h
        exact (Option.some.inj h) ▸ g
      · rw [if_neg c] at h
        have h := Option.some.inj h
        subst h
        have c : Kxd4.areTerms m (x.map Int.toNat) = true := by rw [terms_same c1 h0]; cases q : areTermsI m x with | true => rfl | false => exact absurd q c
        obtain ⟨q1, q2, q3⟩ := (termsN_facts c1).mp c
        refine ⟨g.c1, g.c8, q1, ?_, fun i hi => q3 i (by rw [q1]; exact hi), g.n24, g.row, g.ent, g.resp⟩
        show (x.map Int.toNat).getD 0 1 = 0
        rw [List.getD_eq_getElem?_getD] at q2 ⊢
        rw [List.getElem?_eq_getElem (by rw [q1]; omega)] at q2 ⊢
        exact q2
end LW

set_option linter.all false
set_option Elab.async false
set_option maxRecDepth 100000
set_option maxHeartbeats 4000000
namespace LW
open PySem PySem.Spec PyProof.Rows L2
open Evl (Ex)
def numsL : List Int := [1, 1, 1, 2, 0, 0, 1, 0, 0, 0, 0, 0, 1, 1, 1, 0, 0, 0, 0, 1, 0, 0, 1, 0, 2, 0]
def lstsL : List Int := [0, 1, 0, 0, 1, 0, 0, 0, 0, 1, 2, 1, 0, 0, 0, 0, 0, 0, 0, 0, 0, 1, 0, 0, 2, 0]
def numsN : List Nat := [1, 1, 1, 2, 0, 0, 1, 0, 0, 0, 0, 0, 1, 1, 1, 0, 0, 0, 0, 1, 0, 0, 1, 0, 2, 0]
def lstsN : List Nat := [0, 1, 0, 0, 1, 0, 0, 0, 0, 1, 2, 1, 0, 0, 0, 0, 0, 0, 0, 0, 0, 1, 0, 0, 2, 0]
theorem lawAll : ∀ (i : Nat), i < 26 → ∀ (om : Option Kxd4.Model), (∀ m, om = some m → LF.Good m) → ∀ (ns : List Int) (ls : List (List Int)), ns.length = numsN.getD i 0 → ls.length = lstsN.getD i 0 → Kxd4Neutral.asked1 (((i : Int) :: ns) :: ls) = true → Lawful i om ns ls
  | 0, _, om, hG, ns, ls, hn, hl, ha => by
    obtain ⟨a, rfl⟩ := LF.len1 hn
    obtain rfl := List.length_eq_zero_iff.mp hl
    exact law0 om hG a ha
  | 1, _, om, hG, ns, ls, hn, hl, ha => by
    obtain ⟨a, rfl⟩ := LF.len1 hn
    obtain ⟨x, rfl⟩ := LF.len1 hl
    exact law1 om hG a x ha
  | 2, _, om, hG, ns, ls, hn, hl, ha => by
    obtain ⟨a, rfl⟩ := LF.len1 hn
    obtain rfl := List.length_eq_zero_iff.mp hl
    exact law2 om hG a ha
  | 3, _, om, hG, ns, ls, hn, hl, ha => by
    obtain ⟨a, b, rfl⟩ := LF.len2 hn
    obtain rfl := List.length_eq_zero_iff.mp hl
    exact law3 om hG a b ha
  | 4, _, om, hG, ns, ls, hn, hl, ha => by
    obtain rfl := List.length_eq_zero_iff.mp hn
    obtain ⟨x, rfl⟩ := LF.len1 hl
    exact law4 om hG x ha
  | 5, _, om, hG, ns, ls, hn, hl, ha => by
    obtain rfl := List.length_eq_zero_iff.mp hn
    obtain rfl := List.length_eq_zero_iff.mp hl
    exact law5 om hG  ha
  | 6, _, om, hG, ns, ls, hn, hl, ha => by
    obtain ⟨a, rfl⟩ := LF.len1 hn
    obtain rfl := List.length_eq_zero_iff.mp hl
    exact law6 om hG a ha
  | 7, _, om, hG, ns, ls, hn, hl, ha => by
    obtain rfl := List.length_eq_zero_iff.mp hn
    obtain rfl := List.length_eq_zero_iff.mp hl
    exact law7 om hG  ha
  | 8, _, om, hG, ns, ls, hn, hl, ha => by
    obtain rfl := List.length_eq_zero_iff.mp hn
    obtain rfl := List.length_eq_zero_iff.mp hl
    exact law8 om hG  ha
  | 9, _, om, hG, ns, ls, hn, hl, ha => by
    obtain rfl := List.length_eq_zero_iff.mp hn
    obtain ⟨x, rfl⟩ := LF.len1 hl
    exact law9 om hG x ha
  | 10, _, om, hG, ns, ls, hn, hl, ha => by
    obtain rfl := List.length_eq_zero_iff.mp hn
    obtain ⟨x, y, rfl⟩ := LF.len2 hl
    exact law10 om hG x y ha
  | 11, _, om, hG, ns, ls, hn, hl, ha => by
    obtain rfl := List.length_eq_zero_iff.mp hn
    obtain ⟨x, rfl⟩ := LF.len1 hl
    exact law11 om hG x ha
  | 12, _, om, hG, ns, ls, hn, hl, ha => by
    obtain ⟨a, rfl⟩ := LF.len1 hn
    obtain rfl := List.length_eq_zero_iff.mp hl
    exact law12 om hG a ha
  | 13, _, om, hG, ns, ls, hn, hl, ha => by
    obtain ⟨a, rfl⟩ := LF.len1 hn
    obtain rfl := List.length_eq_zero_iff.mp hl
    exact law13 om hG a ha
  | 14, _, om, hG, ns, ls, hn, hl, ha => by
    obtain ⟨a, rfl⟩ := LF.len1 hn
    obtain rfl := List.length_eq_zero_iff.mp hl
    exact law14 om hG a ha
  | 15, _, om, hG, ns, ls, hn, hl, ha => by
    obtain rfl := List.length_eq_zero_iff.mp hn
    obtain rfl := List.length_eq_zero_iff.mp hl
    exact law15 om hG  ha
  | 16, _, om, hG, ns, ls, hn, hl, ha => by
    obtain rfl := List.length_eq_zero_iff.mp hn
    obtain rfl := List.length_eq_zero_iff.mp hl
    exact law16 om hG  ha
  | 17, _, om, hG, ns, ls, hn, hl, ha => by
    obtain rfl := List.length_eq_zero_iff.mp hn
    obtain rfl := List.length_eq_zero_iff.mp hl
    exact law17 om hG  ha
  | 18, _, om, hG, ns, ls, hn, hl, ha => by
    obtain rfl := List.length_eq_zero_iff.mp hn
    obtain rfl := List.length_eq_zero_iff.mp hl
    exact law18 om hG  ha
  | 19, _, om, hG, ns, ls, hn, hl, ha => by
    obtain ⟨a, rfl⟩ := LF.len1 hn
    obtain rfl := List.length_eq_zero_iff.mp hl
    exact law19 om hG a ha
  | 20, _, om, hG, ns, ls, hn, hl, ha => by
    obtain rfl := List.length_eq_zero_iff.mp hn
    obtain rfl := List.length_eq_zero_iff.mp hl
    exact law20 om hG  ha
  | 21, _, om, hG, ns, ls, hn, hl, ha => by
    obtain rfl := List.length_eq_zero_iff.mp hn
    obtain ⟨x, rfl⟩ := LF.len1 hl
    exact law21 om hG x ha
  | 22, _, om, hG, ns, ls, hn, hl, ha => by
    obtain ⟨a, rfl⟩ := LF.len1 hn
    obtain rfl := List.length_eq_zero_iff.mp hl
    exact law22 om hG a ha
  | 23, _, om, hG, ns, ls, hn, hl, ha => by
    obtain rfl := List.length_eq_zero_iff.mp hn
    obtain rfl := List.length_eq_zero_iff.mp hl
    exact law23 om hG  ha
  | 24, _, om, hG, ns, ls, hn, hl, ha => by
    obtain ⟨a, b, rfl⟩ := LF.len2 hn
    obtain ⟨x, y, rfl⟩ := LF.len2 hl
    exact law24 om hG a b x y ha
  | 25, _, om, hG, ns, ls, hn, hl, ha => by
    obtain rfl := List.length_eq_zero_iff.mp hn
    obtain rfl := List.length_eq_zero_iff.mp hl
    exact law25 om hG  ha
  | i + 26, h, _, _, _, _, _, _, _ => by omega
section
variable {P : Program} {w : World} {K : PySem.W.Frag} {mg : Str → Option Value} {base : Heap} {a : Ad}
theorem held_of {x : Str} {b : Addr} {sp : Sp} {k : Nat} (F : Kn P w K mg base k x sp) (h : mg x = some (.ref b)) : Held P w K mg base k b sp := by
  obtain ⟨f, fd, ps, h1, h2, h3, h4⟩ := F.ex
  rw [h] at h1
  have e : b = f := Value.ref.inj (Option.some.inj h1)
  subst e
  exact ⟨fd, ps, h4, h2, h3⟩
theorem deed_kn (T : Wd P w K mg base a) : ∀ i, i < 26 → Held P w K mg base 60 (a.deed i) (DSp K a (deedP i) (deedF i))
  | 0, _ => held_of (kn_create T) T.dd0
  | 1, _ => held_of (kn_add_row T) T.dd1
  | 2, _ => held_of (kn_remove_row T) T.dd2
  | 3, _ => held_of (kn_set_response T) T.dd3
  | 4, _ => held_of (kn_set_terms T) T.dd4
  | 5, _ => held_of (kn_clear_rows T) T.dd5
  | 6, _ => held_of (tell_dsp (kn_get_row T)) T.dd6
  | 7, _ => held_of (tell_dsp (kn_tell_rank T)) T.dd7
  | 8, _ => held_of (tell_dsp (kn_tell_coefficients T)) T.dd8
  | 9, _ => held_of (tell_dsp (kn_tell_estimate T)) T.dd9
  | 10, _ => held_of (tell_dsp (kn_tell_covariance T)) T.dd10
  | 11, _ => held_of (tell_dsp (kn_tell_squared_ratio T)) T.dd11
  | 12, _ => held_of (tell_dsp (kn_tell_fitted T)) T.dd12
  | 13, _ => held_of (tell_dsp (kn_tell_leverage T)) T.dd13
  | 14, _ => held_of (tell_dsp (kn_tell_deleted T)) T.dd14
  | 15, _ => held_of (tell_dsp (kn_tell_residual_sum T)) T.dd15
  | 16, _ => held_of (tell_dsp (kn_tell_variance T)) T.dd16
  | 17, _ => held_of (tell_dsp (kn_tell_sequential T)) T.dd17
  | 18, _ => held_of (tell_dsp (kn_tell_marginal T)) T.dd18
  | 19, _ => held_of (tell_dsp (kn_tell_f_ratio T)) T.dd19
  | 20, _ => held_of (tell_dsp (kn_tell_lack_of_fit T)) T.dd20
  | 21, _ => held_of (tell_dsp (kn_tell_predict T)) T.dd21
  | 22, _ => held_of (tell_dsp (kn_tell_lost_value T)) T.dd22
  | 23, _ => held_of (tell_dsp (kn_normal_equations T)) T.dd23
  | 24, _ => held_of (tell_dsp (kn_tell_stationary T)) T.dd24
  | 25, _ => held_of (tell_dsp (kn_summary T)) T.dd25
  | i + 26, h => by omega
end
end LW

set_option linter.all false
set_option Elab.async false
set_option maxRecDepth 100000
set_option maxHeartbeats 4000000
namespace LW
open PySem PySem.Spec PyProof.Rows L2
open Evl (Ex)
section
variable {P : Program} {w : World} {K : PySem.W.Frag} {mg : Str → Option Value} {base : Heap} {a : Ad}
/-! ## answer -/
open Classical in
noncomputable def Sdeed (K : PySem.W.Frag) (a : Ad) : Addr → Option Sp := fun f => if h : ∃ i, i < 26 ∧ a.deed i = f then some (DSp K a (deedP h.choose) (deedF h.choose)) else none
theorem deed_held (T : Wd P w K mg base a) (f : Addr) (sp : Sp) (h : Sdeed K a f = some sp) : Held P w K mg base 60 f sp := by
  unfold Sdeed at h
  split at h
  · rename_i hx
    have e := Option.some.inj h
    have q := hx.choose_spec
    have key : ∀ j, j < 26 → a.deed j = f → Held P w K mg base 60 f (DSp K a (deedP j) (deedF j)) := fun j h1 h2 => h2 ▸ deed_kn T j h1
    exact e ▸ key _ q.1 q.2
  · cases h
theorem sdeed_at (T : Wd P w K mg base a) {i : Nat} (hi : i < 26) : Sdeed K a (a.deed i) = some (DSp K a (deedP i) (deedF i)) := by
  have hx : ∃ j, j < 26 ∧ a.deed j = a.deed i := ⟨i, hi, rfl⟩
  have q := hx.choose_spec
  have e : hx.choose = i := T.inj _ _ q.1 hi q.2
  unfold Sdeed
  rw [dif_pos hx, e]
def VR (mv : V) : RelS Unit := ⟨fun _ v _ => v = mv, fun _ h => h⟩
theorem ev_fldV (T : Wd P w K mg base a) {σ : L2.St} {G : Hp} {i : Nat} {p dx : Addr} {mv : V} (hs : σ[i]? = some (some (.ref p))) (hp : G p = some (.ins a.cD dx [("model", mv)])) : EV (tFld K (tVar i) "model") σ G (VR mv) () := fun G1 H1 e e1 Q q =>
  ⟨.ref p, hs, p, a.cD, dx, _, _, rfl, e1 _ _ (e _ _ hp), T.clD, T.nDmodel, lk_here, q _ H1 G1 (Ok.refl e1) rfl⟩
theorem ev_isNV {σ : L2.St} {G : Hp} {ta : TE} {mv : V} (ha : EV ta σ G (VR mv) ()) : EV (tOp rIsNone ta (tC .non)) σ G BoolR (decide (mv = .non)) := fun G1 H1 e e1 Q q =>
  ha G1 H1 e e1 _ fun u H2 G2 o hu => ⟨rfl, q _ H2 G2 o (by
    have hu : u = mv := hu
    rw [hu]
    rfl)⟩
theorem ev_ixC {σ : L2.St} {G : Hp} {tb : TE} {b : Addr} {xs : List V} {n : Nat} {v : V} (hT : ∀ H, SqT K H b xs) (hx : xs[n]? = some v) (hb : EV tb σ G IntR (n : Int)) : EV (tOp (rIxT K) (tC (.ref b)) tb) σ G (VR v) () := fun G1 H1 e e1 Q q =>
  hb G1 H1 e e1 _ fun w' H2 G2 o hw => ⟨b, xs, (n : Int), v, rfl, hw, hT H2, atI_nat hx, q _ H2 G2 o rfl⟩
theorem Dk.pack1 {G H : Hp} {p : Addr} {om : Option Kxd4.Model} (ni : NoIns G) (e : Ex G H) (d : Dk K a G H p om) : ∃ G1 dx mv, Full G G1 ∧ Ex G1 H ∧ G1 p = some (.ins a.cD dx [("model", mv)]) ∧ decide (mv = .non) = om.isNone := by
  have hd : ∃ dx mv, H p = some (.ins a.cD dx [("model", mv)]) ∧ decide (mv = .non) = om.isNone := by
    cases om with
    | none => obtain ⟨dx, h⟩ := d; exact ⟨dx, _, h, rfl⟩
    | some m => obtain ⟨mv, ⟨dx, pm, dm, t, r, h1, h2, _⟩⟩ := d; exact ⟨dx, mv, h1, by rw [h2]; rfl⟩
  obtain ⟨dx, mv, h1, h2⟩ := hd
  have gp : G p = none := by
    cases q : G p with
    | none => rfl
    | some v =>
      have := e p v q
      rw [h1] at this
      have e2 := Option.some.inj this
      have := ni p v q
      rw [← e2] at this
      cases this
  refine ⟨upd G p (.ins a.cD dx [("model", mv)]), dx, mv, ⟨fun b => ?_⟩, fun b u hb => ?_, upd_same, h2⟩
  · by_cases c : b = p
    · rw [c]; exact .inr ⟨gp, _, upd_same, rfl⟩
    · exact .inl (upd_ne c)
  · by_cases c : b = p
    · rw [c, upd_same] at hb; rw [c, h1]; exact hb
    · rw [upd_ne c] at hb; exact e b u hb
theorem Dk.ex {G H H2 G2 : Hp} {p : Addr} {om : Option Kxd4.Model} (e1 : Ex G G2) (e2 : Ex H H2) (d : Dk K a G H p om) : Dk K a (strip G2) H2 p om := by
  cases om with
  | none => obtain ⟨dx, h⟩ := d; exact ⟨dx, e2 _ _ h⟩
  | some m =>
    obtain ⟨mv, ⟨dx, pm, dm, t, r, h1, h2, h3, h4, h5⟩⟩ := d
    exact ⟨mv, ⟨dx, pm, dm, t, r, e2 _ _ h1, h2, e2 _ _ h3, sp_row _ _ _ (RowR.st e1 h4), sp_obs _ _ _ ((ListR (ObsR K)).st e1 h5)⟩⟩
def AnsSp (K : PySem.W.Frag) (a : Ad) : Sp := fun vs H Q _ => ∃ (G : Hp) (p : Addr) (i : Nat) (om : Option Kxd4.Model) (v2 v3 : V) (ns : List Int) (ls : List (List Int)), vs = [.ref p, .int (i : Int), v2, v3] ∧ i < 26 ∧ NoIns G ∧ Ex G H ∧ Dk K a G H p om ∧ RowR.R G v2 ns ∧ TabR.R G v3 ls ∧
  (i = 0 ∨ om ≠ none → deedP i om ns ls) ∧ ∀ u H2 G2, DOk G H H2 G2 → Dk K a G2 H2 p (ansF i om ns ls).1 → RowR.R G2 u (ansF i om ns ls).2 → Q u H2
theorem sc_answer : FnScope ["desk", "call", "numbers", "lists", "deed"] ["desk", "call", "numbers", "lists"] (defScope (top 121)) := ⟨rfl, rfl, rfl, by decide +kernel, rfl, by decide +kernel, by decide +kernel⟩
theorem kn_answer (T : Wd P w K mg base a) : Kn P w K mg base 61 "answer" (AnsSp K a) := by
  obtain ⟨f, fd, h1, F⟩ := T.d_answer.ex
  refine ⟨f, fd, ["desk", "call", "numbers", "lists"], h1, F.kp, F.binds (fun _ _ _ _ _ _ us hl => match us, hl with | [_, _, _, _], _ => rfl), F.ok sc_answer (fun vs H Q E ⟨_, _, _, _, _, _, _, _, h, _⟩ => by rw [h]; rfl) fun cdv A outer s H vs Q E hr ⟨G, p, i, om, v2, v3, ns, ls, hv, hi, ni, e, dk, r2, r3, hp, k⟩ => ⟨_, (pss_cons (ps_if (PW.pt (pw_and (pt_cmpR op_ne (pv 1) (pe_gint T.g_CREATE rfl) (nomark _)) (pw_and1 (pt_cmpR op_isNone (pe_fldK (K := K) rfl (pv 0) rfl) pe_non (nomark _))))) (pss_one (ps_ret (pe_lst (pa_cons (pe_gint T.g_NO_MODEL rfl) pa_nil)))) pss_nil) (pss_cons (ps_set (i := 4) sc_answer.nd rfl (Or.inl rfl) (pe_ix (ix_tupK (K := K) rfl) (pe_gref T.g_DEEDS rfl) (pv 1) (fun _ _ => rfl))) (pss_one (ps_ret (pe_callA (i := 4) (S := Sdeed K a) (fun f sp h => deed_held T f sp h) (hr.mono (by decide)) rfl (Or.inl rfl) (pa_cons (pv 0) (pa_cons (pv 2) (pa_cons (pv 3) pa_nil)))))))), ?_⟩⟩
  subst hv
  obtain ⟨G1, dx, mv, F1, e1, hd, hm⟩ := dk.pack1 ni e
  refine st_when (b := (!decide ((i : Int) = 0)) && om.isNone) e1 (et_and (et_test (ev_neI (ev_var rfl (show IntR.R G1 (.int (i : Int)) (i : Int) from rfl)) ev_int)) fun _ => et_test ((ev_isNV (ev_fldV T rfl hd)).to hm)) (fun hb H2 e2 => ?_) (fun hb H2 e2 => ?_)
  · obtain ⟨b1, b2⟩ := Bool.and_eq_true_iff.mp hb
    have hn : om = none := Option.isNone_iff_eq_none.mp b2
    subst hn
    have ef : ansF i none ns ls = (none, [-11]) := if_pos ⟨fun z => by rw [z] at b1; exact absurd b1 (by decide), rfl⟩
    refine st_ret (A := RowR) (x := [-11]) (e1.trans e2) (ev_one ev_int) fun u H4 G4 o4 ru => ?_
    have o := (Ok.grow e1 e2).trans o4
    exact k u H4 (strip G4) (F1.dok ni o) (by rw [ef]; exact dk.ex (F1.up.trans o.up) o.ex) (by rw [ef]; exact sp_row _ _ _ ru)
  · have hc : i = 0 ∨ om ≠ none := by
      by_cases c : i = 0
      · exact .inl c
      · refine .inr fun z => ?_
        rw [z, decide_eq_false (show ¬ (i : Int) = 0 by omega)] at hb
        cases hb
    have ef : ansF i om ns ls = deedF i om ns ls := if_neg fun z => by rcases hc with c | c; exact z.1 c; exact c z.2
    refine st_set (A := VR (.ref (a.deed i))) (x := ()) (e1.trans e2) (ev_ixC (n := i) T.t_deeds (by rw [List.getElem?_map, List.getElem?_range hi]; rfl) (ev_var (A := IntR) rfl rfl)) fun u3 H3 G3 o3 q3 => ?_
    have q3 : u3 = .ref (a.deed i) := q3
    subst q3
    have o := (Ok.grow e1 e2).trans o3
    have d := F1.dok ni o
    refine ⟨a.deed i, _, rfl, sdeed_at T hi, .ref p, rfl, v2, rfl, v3, rfl, strip G3, p, om, v2, v3, ns, ls, rfl, d.ni, d.kn, dk.ex (F1.up.trans o.up) o.ex, sp_row _ _ _ (RowR.st (F1.up.trans o.up) r2), sp_tab _ _ _ (TabR.st (F1.up.trans o.up) r3), hp hc, fun u H4 G4 d4 dk4 r4 => ?_⟩
    exact k u H4 G4 (d.trans d4) (by rw [ef]; exact dk4) (by rw [ef]; exact r4)
/-! ## the list that is handed in -/
def CallsR (K : PySem.W.Frag) : RelS (List Int) := ⟨fun H v xs => ∃ b, v = .ref b ∧ SqL K H b (xs.map V.int), fun e ⟨b, h1, h2⟩ => ⟨b, h1, Evl.ex_l e h2⟩⟩
theorem sp_sql {H : Hp} {b : Addr} {xs : List V} (h : SqL K H b xs) : SqL K (strip H) b xs := by
  rcases h with h | h
  · rcases h with h | ⟨ob, h⟩
    · exact .inl (.inl (strip_some.mpr ⟨h, rfl⟩))
    · exact .inl (.inr ⟨ob, strip_some.mpr ⟨h, rfl⟩⟩)
  · exact .inr h
theorem sp_calls : Sp' (CallsR K) := fun H v x ⟨b, h1, h2⟩ => ⟨b, h1, sp_sql h2⟩
section
variable {σ : L2.St} {H : Hp} {ta tb te : TE} {xs : List Int}
theorem ev_ixS {i : Int} {n : Nat} (hi : i = (n : Int)) (hn : n < xs.length) (ha : EV ta σ H (CallsR K) xs) (hb : EV tb σ H IntR i) : EV (tOp (rIxL K) ta tb) σ H IntR (xs.getD n 0) := ev_op ha hb fun G H1 u w _ e ⟨b, h1, h2⟩ hw Q q =>
  ⟨b, _, i, .int (xs.getD n 0), h1, hw, Evl.ex_l e h2, by rw [hi]; exact atI_nat (by rw [List.getElem?_map, get_D hn]; rfl), q _ H1 G (Ok.refl e) rfl⟩
theorem ev_lenS (ha : EV ta σ H (CallsR K) xs) : EV (tCB (rLenT K) (tCons ta tNil)) σ H IntR (xs.length : Int) := fun G H1 e e1 Q q =>
  ha G H1 e e1 _ fun v H2 G2 o ⟨b, h1, h2⟩ => ⟨b, _, by rw [h1], .inl (Evl.ex_l o.kn h2), q _ H2 G2 o (by show V.int _ = V.int _; rw [List.length_map])⟩
theorem cut_both {vs : List V} {i j : Int} {n m : Nat} (hi : i = (n : Int)) (hj : j = (m : Int)) (hm : m ≤ vs.length) (hn : n ≤ m) : cutV vs (some i) (some j) = (vs.drop n).take (m - n) := by
  unfold cutV
  rw [hi, hj, HT.sIx_nat, HT.sIx_nat, Nat.min_eq_left hm, Nat.min_eq_left (Nat.le_trans hn hm)]
theorem ev_slS {i j : Int} {n m : Nat} (hi : i = (n : Int)) (hj : j = (m : Int)) (hm : m ≤ xs.length) (hn : n ≤ m) (h : EV te σ H (CallsR K) xs) (ha : EV ta σ H IntR i) (hb : EV tb σ H IntR j) : EV (tSl (rSlL K) te (tPart ta) (tPart tb)) σ H RowR ((xs.drop n).take (m - n)) := fun G H1 e e1 Q q =>
  h G H1 e e1 _ fun u H2 G2 o2 hu => ha G2 H2 (e.trans o2.up) o2.kn _ fun w3 H3 G3 o3 h3 => ⟨i, h3, hb G3 H3 ((e.trans o2.up).trans o3.up) o3.kn _ fun w4 H4 G4 o4 h4 => by
    obtain ⟨b, h1, h2⟩ := hu
    refine ⟨j, h4, b, _, h1, Evl.ex_l (o3.ex.trans o4.ex) (Evl.ex_l o2.kn h2), fun p hp => q _ _ _ (((o2.trans o3).trans o4).trans (Ok.new o4.kn hp)) ⟨p, _, rfl, upd_same, ?_⟩⟩
    rw [cut_both hi hj (by rw [List.length_map]; exact hm) hn, ← List.map_drop, ← List.map_take]
    exact All2.ofI _⟩
end
/-! ## lists_at -/
theorem rows_succ {k : Nat} {r : List Int} {xs : List (List Int)} {t : List Int} (h : PyFlat.rows (k + 1) r = some (xs, t)) : ∃ n r' xs', r = n :: r' ∧ 0 ≤ n ∧ n.toNat ≤ r'.length ∧ xs = r'.take n.toNat :: xs' ∧ PyFlat.rows k (r'.drop n.toNat) = some (xs', t) := by
  unfold PyFlat.rows at h
  cases q : PyFlat.row r with
  | none => rw [q] at h; cases h
  | some xs1 =>
    obtain ⟨x, s⟩ := xs1
    rw [q] at h
    simp only at h
    cases r with
    | nil => cases q
    | cons n r' =>
      have q : (if 0 ≤ n ∧ n.toNat ≤ r'.length then some (r'.take n.toNat, r'.drop n.toNat) else none) = some (x, s) := q
      by_cases hc : 0 ≤ n ∧ n.toNat ≤ r'.length
      · rw [if_pos hc] at q
        have q := Option.some.inj q
        have q1 : r'.take n.toNat = x := congrArg Prod.fst q
        have q2 : r'.drop n.toNat = s := congrArg Prod.snd q
        subst q1 q2
        cases q3 : PyFlat.rows k (r'.drop n.toNat) with
        | none => rw [q3] at h; cases h
        | some ys =>
          obtain ⟨ys, t'⟩ := ys
          rw [q3] at h
          have h := Option.some.inj h
          have e1 : r'.take n.toNat :: ys = xs := congrArg Prod.fst h
          have e2 : t' = t := congrArg Prod.snd h
          exact ⟨n, r', ys, rfl, hc.1, hc.2, e1.symm, by rw [← e2]; exact q3⟩
      · rw [if_neg hc] at q
        cases q
def listsF (calls : List Int) (place many : Nat) : List (List Int) × Nat := match PyFlat.rows many (calls.drop place) with
  | some (xs, t) => (xs, calls.length - t.length)
  | none => ([], 0)
def ListsP (calls : List Int) (place many : Nat) : Prop := place ≤ calls.length ∧ calls.length ≤ 25000 ∧ many ≤ 2 ∧ ∃ xs t, PyFlat.rows many (calls.drop place) = some (xs, t)
theorem sc_lists_at : FnScope ["calls", "place", "many", "found", "turn", "behind"] ["calls", "place", "many"] (defScope (top 120)) := ⟨rfl, rfl, rfl, by decide +kernel, rfl, by decide +kernel, by decide +kernel⟩
theorem kn_lists_at (T : Wd P w K mg base a) : Kn P w K mg base 41 "lists_at" (FnS (PairR K TabR NatR) (Pre3 (CallsR K) NatR NatR ListsP listsF)) := by
  refine T.d_lists_at.kn sc_lists_at (fun _ _ _ _ _ _ us hl => match us, hl with | [_, _, _], _ => rfl) (fun G vs y ⟨_, _, _, _, _, _, h, _⟩ => by rw [h]; rfl) fun cdv f A outer s H E hr => ⟨_, (pss_cons (ps_set (i := 3) sc_lists_at.nd rfl (Or.inl rfl) (pe_lst pa_nil)) (pss_cons (ps_for PassesOwn.never rfl (pi_range1 rfl T.b_range (pa_cons (pv 2) pa_nil)) (pg_name (i := 4) sc_lists_at.nd rfl (Or.inl rfl)) (pss_cons (ps_set (i := 5) sc_lists_at.nd rfl (Or.inl rfl) (pe_op op_add (pe_op op_add (pv 1) pe_int) (pe_ix (ix_listK (K := K) rfl) (pv 0) (pv 1) (fun _ _ => rfl)))) (pss_cons (ps_expr (pe_bmK (K := K) rfl PySem.F.plainAttrs_list PySem.F.slot_list_append PySem.F.type_list_append mt_append (pv 3) (pa_cons (pe_slice (sl_listK (K := K) rfl) (pv 0) (po_some (pe_op op_add (pv 1) pe_int)) (po_some (pv 5))) pa_nil))) (pss_one (ps_set (i := 1) sc_lists_at.nd rfl (Or.inl rfl) (pv 5)))))) (pss_one (ps_ret (pe_tup (pa_cons (pv 3) (pa_cons (pv 1) pa_nil))))))), fun vs G y D e h k => ?_⟩
  obtain ⟨v1, v2, v3, calls, place, many, rfl, h1, h2, h3, ⟨hp, hl, hm, xs, t, hr⟩, rfl⟩ := h
  have h3' : IntR.R G v3 (many : Int) := h3
  refine st_new (A := RowR) (xs := []) e el_nil (by decide) fun q H1 G1 o1 hq m1 => ?_
  refine st_for o1.kn (src_rng1 (k := many) rfl (by omega) (ev_var (σ := [some v1, some v2, some v3, some (.ref q), none, none]) rfl (IntR.st o1.up h3'))) fun H2 G2 o2 => ⟨fun i σ' G' H' => Ok G H H' G' ∧ Ex G2 G' ∧ Agr [1, 4, 5] [some v1, some v2, some v3, some (.ref q), none, none] σ' ∧ Mu G' H' q RowR (xs.take i) ∧
    ∃ pl : Nat, At NatR 1 G' σ' pl ∧ pl ≤ calls.length ∧ PyFlat.rows (many - i) (calls.drop pl) = some (xs.drop i, t), ⟨o1.trans o2, Ex.refl _, Agr.refl _ _, m1.ok o2, place, ⟨v2, rfl, NatR.st (o1.up.trans o2.up) h2⟩, hp, hr⟩, ?_, ?_⟩
  · rintro i z σ' G' H' hz ⟨o', e', ag, mm, pl, hpl, hle, hrow⟩
    obtain ⟨rfl, hi⟩ := range_at hz
    obtain ⟨n, r', xs', er, n0, nl, ex, er2⟩ := rows_succ (show PyFlat.rows ((many - z - 1) + 1) (calls.drop pl) = some (xs.drop z, t) by rw [show many - z - 1 + 1 = many - z by omega]; exact hrow)
    have lr : calls.length - pl = r'.length + 1 := by have := congrArg List.length er; rw [List.length_drop] at this; exact this
    have hn : calls.getD pl 0 = n := by
      have := congrArg (fun l => l[0]?) er
      simp only [List.getElem?_drop, List.getElem?_cons_zero, Nat.add_zero] at this
      rw [List.getD_eq_getElem?_getD, this]
      rfl
    have er' : calls.drop (pl + 1) = r' := by
      have := congrArg (List.drop 1) er
      rw [List.drop_drop] at this
      exact this
    refine ⟨e', o'.kn, fun v G3 H3 o3 rz => ?_⟩
    obtain ⟨σ2, kk, a2, f1⟩ := tg_name (A := NatR) 4 G3 v z rz σ' fun j hj => by
      rw [ag.1]
      exact of_decide_eq_true (List.all_eq_true.mp (show ([4].all fun j => decide (j < 6)) = true from rfl) j hj)
    have a3 := ag.trans (a2.sub (ks := [1, 4, 5]) (by decide))
    have hpl3 := (hpl.mono o3.up).agr a2 (by decide)
    have hplI : EV (tVar 1) σ2 G3 IntR (pl : Int) := hpl3.ev.as fun v H2 _ r => r
    have hc3 : At (CallsR K) 0 G3 σ2 calls := ⟨v1, (a3.2 0 (by decide)).trans rfl, (CallsR K).st (o'.trans o3).up h1⟩
    refine kk H3 _ o3.kn (st_set (A := IntR) (x := (pl : Int) + 1 + n) o3.kn (ev_add (ev_add hplI ev_int) ((ev_ixS (n := pl) rfl (by omega) hc3.ev hplI).to hn)) fun u4 H4 G4 o4 r4 => ?_)
    have l2 : σ2.length = 6 := a3.1
    have hb4 : At IntR 5 G4 (σ2.set 5 (some u4)) ((pl : Int) + 1 + n) := At.set (by omega) r4
    have hpl4 := (hpl3.mono o4.up).put (k := 5) (v := some u4) (by decide)
    have hc4 := (hc3.mono o4.up).put (k := 5) (v := some u4) (by decide)
    have a4 : Agr [1, 4, 5] [some v1, some v2, some v3, some (.ref q), none, none] (σ2.set 5 (some u4)) := a3.trans (Agr.set (by decide))
    have q4 : (σ2.set 5 (some u4))[3]? = some (some (.ref q)) := (a4.2 3 (by decide)).trans rfl
    have l4 : (σ2.set 5 (some u4)).length = 6 := a4.1
    generalize σ2.set 5 (some u4) = σ4 at hb4 hpl4 hc4 a4 q4 l4 ⊢
    have hplI4 : EV (tVar 1) σ4 G4 IntR (pl : Int) := hpl4.ev.as fun v H2 _ r => r
    have o04 := (o'.trans o3).trans o4
    refine st_app (D := { D with nx := _, ct := _, bk := _ }) (A := RowR) (x := r'.take n.toNat) o04 hq (mm.ok (o3.trans o4)) q4 ((ev_slS (n := pl + 1) (m := pl + 1 + n.toNat) (by omega) (by omega) (by omega) (by omega) hc4.ev (ev_add hplI4 ev_int) hb4.ev).to ?_) (by rw [List.length_take]; omega) fun H5 G5 o5 e5 _ _ m5 => ?_
    · rw [er', show pl + 1 + n.toNat - (pl + 1) = n.toNat by omega]
    · refine st_setL (A := IntR) (x := (pl : Int) + 1 + n) o5.kn (hb4.mono e5).ev fun u6 H6 G6 o6 r6 => ⟨G6, o5.trans o6, ((e'.trans (o3.trans o4).up).trans e5).trans o6.up, a4.trans (Agr.set (by decide)), ?_, pl + 1 + n.toNat, ?_, by omega, ?_⟩
      · have hx : xs[z]? = some (r'.take n.toNat) := by
          have := congrArg (fun l => l[0]?) ex
          simp only [List.getElem?_drop, List.getElem?_cons_zero, Nat.add_zero] at this
          exact this
        rw [take_next hx]
        exact m5.ok o6
      · refine At.set (A := NatR) (by omega) ?_
        have r6 : u6 = .int ((pl : Int) + 1 + n) := r6
        show u6 = .int ((pl + 1 + n.toNat : Nat) : Int)
        rw [r6]
        congr 1
        omega
      · rw [← er', List.drop_drop] at er2
        rw [show many - (z + 1) = many - z - 1 by omega, er2]
        have := congrArg (List.drop 1) ex
        rw [List.drop_drop] at this
        rw [this]
        rfl
  · rintro σ' G' H' ⟨o', e', ag, mm, pl, hpl, hle, hrow⟩
    rw [List.length_range, Nat.sub_self] at hrow
    rw [List.length_range] at mm
    have hrow : some (([] : List (List Int)), calls.drop pl) = some (xs.drop many, t) := hrow
    have hrow := Option.some.inj hrow
    have h5 : xs.drop many = [] := (congrArg Prod.fst hrow).symm
    have h6 : calls.drop pl = t := congrArg Prod.snd hrow
    have h7 : xs.take many = xs := List.take_of_length_le (List.drop_eq_nil_iff.mp h5)
    rw [h7] at mm
    obtain ⟨G3, o3, e3, r3⟩ := mm.know o' hq
    refine ⟨e', o'.kn, st_ret (A := PairR K TabR NatR) (x := (xs, pl)) o3.kn (ev_pair (ev_var (A := TabR) (x := xs) ((ag.2 3 (by decide)).trans rfl) r3) (hpl.mono e3).ev) fun u H4 G4 o4 ru => k u H4 G4 (o3.trans o4) ?_⟩
    have ef : listsF calls place many = (xs, pl) := by
      unfold listsF
      rw [hr]
      show (xs, calls.length - t.length) = _
      rw [← h6, List.length_drop]
      congr 1
      omega
    rw [ef]
    exact ru
end
end LW

set_option linter.all false
set_option Elab.async false
set_option maxRecDepth 100000
set_option maxHeartbeats 4000000
namespace LW
open PySem PySem.Spec PyProof.Rows L2
open Evl (Ex)
/-! ## how the one list is read -/
theorem shape_facts {p : Int} {n k : Nat} (h : PyKxd4.shape p = some (n, k)) : ∃ i : Nat, i < 26 ∧ p = (i : Int) ∧ n = numsN.getD i 0 ∧ k = lstsN.getD i 0 := by
  unfold PyKxd4.shape at h
  by_cases c0 : p = 0
  · rw [if_pos c0] at h
    have e := Option.some.inj h
    exact ⟨0, by decide, c0, (congrArg Prod.fst e).symm, (congrArg Prod.snd e).symm⟩
  rw [if_neg c0] at h
  by_cases c1 : p = 1
  · rw [if_pos c1] at h
    have e := Option.some.inj h
    exact ⟨1, by decide, c1, (congrArg Prod.fst e).symm, (congrArg Prod.snd e).symm⟩
  rw [if_neg c1] at h
  by_cases c2 : p = 2
  · rw [if_pos c2] at h
    have e := Option.some.inj h
    exact ⟨2, by decide, c2, (congrArg Prod.fst e).symm, (congrArg Prod.snd e).symm⟩
  rw [if_neg c2] at h
  by_cases c3 : p = 3
  · rw [if_pos c3] at h
    have e := Option.some.inj h
    exact ⟨3, by decide, c3, (congrArg Prod.fst e).symm, (congrArg Prod.snd e).symm⟩
  rw [if_neg c3] at h
  by_cases c4 : p = 4
  · rw [if_pos c4] at h
    have e := Option.some.inj h
    exact ⟨4, by decide, c4, (congrArg Prod.fst e).symm, (congrArg Prod.snd e).symm⟩
  rw [if_neg c4] at h
  by_cases c5 : p = 5
  · rw [if_pos c5] at h
    have e := Option.some.inj h
    exact ⟨5, by decide, c5, (congrArg Prod.fst e).symm, (congrArg Prod.snd e).symm⟩
  rw [if_neg c5] at h
  by_cases c6 : p = 6
  · rw [if_pos c6] at h
    have e := Option.some.inj h
    exact ⟨6, by decide, c6, (congrArg Prod.fst e).symm, (congrArg Prod.snd e).symm⟩
  rw [if_neg c6] at h
  by_cases c7 : p = 7
  · rw [if_pos c7] at h
    have e := Option.some.inj h
    exact ⟨7, by decide, c7, (congrArg Prod.fst e).symm, (congrArg Prod.snd e).symm⟩
  rw [if_neg c7] at h
  by_cases c8 : p = 8
  · rw [if_pos c8] at h
    have e := Option.some.inj h
    exact ⟨8, by decide, c8, (congrArg Prod.fst e).symm, (congrArg Prod.snd e).symm⟩
  rw [if_neg c8] at h
  by_cases c9 : p = 9
  · rw [if_pos c9] at h
    have e := Option.some.inj h
    exact ⟨9, by decide, c9, (congrArg Prod.fst e).symm, (congrArg Prod.snd e).symm⟩
  rw [if_neg c9] at h
  by_cases c10 : p = 10
  · rw [if_pos c10] at h
    have e := Option.some.inj h
    exact ⟨10, by decide, c10, (congrArg Prod.fst e).symm, (congrArg Prod.snd e).symm⟩
  rw [if_neg c10] at h
  by_cases c11 : p = 11
  · rw [if_pos c11] at h
    have e := Option.some.inj h
    exact ⟨11, by decide, c11, (congrArg Prod.fst e).symm, (congrArg Prod.snd e).symm⟩
  rw [if_neg c11] at h
  by_cases c12 : p = 12
  · rw [if_pos c12] at h
    have e := Option.some.inj h
    exact ⟨12, by decide, c12, (congrArg Prod.fst e).symm, (congrArg Prod.snd e).symm⟩
  rw [if_neg c12] at h
  by_cases c13 : p = 13
  · rw [if_pos c13] at h
    have e := Option.some.inj h
    exact ⟨13, by decide, c13, (congrArg Prod.fst e).symm, (congrArg Prod.snd e).symm⟩
  rw [if_neg c13] at h
  by_cases c14 : p = 14
  · rw [if_pos c14] at h
    have e := Option.some.inj h
    exact ⟨14, by decide, c14, (congrArg Prod.fst e).symm, (congrArg Prod.snd e).symm⟩
  rw [if_neg c14] at h
  by_cases c15 : p = 15
  · rw [if_pos c15] at h
    have e := Option.some.inj h
    exact ⟨15, by decide, c15, (congrArg Prod.fst e).symm, (congrArg Prod.snd e).symm⟩
  rw [if_neg c15] at h
  by_cases c16 : p = 16
  · rw [if_pos c16] at h
    have e := Option.some.inj h
    exact ⟨16, by decide, c16, (congrArg Prod.fst e).symm, (congrArg Prod.snd e).symm⟩
  rw [if_neg c16] at h
  by_cases c17 : p = 17
  · rw [if_pos c17] at h
    have e := Option.some.inj h
    exact ⟨17, by decide, c17, (congrArg Prod.fst e).symm, (congrArg Prod.snd e).symm⟩
  rw [if_neg c17] at h
  by_cases c18 : p = 18
  · rw [if_pos c18] at h
    have e := Option.some.inj h
    exact ⟨18, by decide, c18, (congrArg Prod.fst e).symm, (congrArg Prod.snd e).symm⟩
  rw [if_neg c18] at h
  by_cases c19 : p = 19
  · rw [if_pos c19] at h
    have e := Option.some.inj h
    exact ⟨19, by decide, c19, (congrArg Prod.fst e).symm, (congrArg Prod.snd e).symm⟩
  rw [if_neg c19] at h
  by_cases c20 : p = 20
  · rw [if_pos c20] at h
    have e := Option.some.inj h
    exact ⟨20, by decide, c20, (congrArg Prod.fst e).symm, (congrArg Prod.snd e).symm⟩
  rw [if_neg c20] at h
  by_cases c21 : p = 21
  · rw [if_pos c21] at h
    have e := Option.some.inj h
    exact ⟨21, by decide, c21, (congrArg Prod.fst e).symm, (congrArg Prod.snd e).symm⟩
  rw [if_neg c21] at h
  by_cases c22 : p = 22
  · rw [if_pos c22] at h
    have e := Option.some.inj h
    exact ⟨22, by decide, c22, (congrArg Prod.fst e).symm, (congrArg Prod.snd e).symm⟩
  rw [if_neg c22] at h
  by_cases c23 : p = 23
  · rw [if_pos c23] at h
    have e := Option.some.inj h
    exact ⟨23, by decide, c23, (congrArg Prod.fst e).symm, (congrArg Prod.snd e).symm⟩
  rw [if_neg c23] at h
  by_cases c24 : p = 24
  · rw [if_pos c24] at h
    have e := Option.some.inj h
    exact ⟨24, by decide, c24, (congrArg Prod.fst e).symm, (congrArg Prod.snd e).symm⟩
  rw [if_neg c24] at h
  by_cases c25 : p = 25
  · rw [if_pos c25] at h
    have e := Option.some.inj h
    exact ⟨25, by decide, c25, (congrArg Prod.fst e).symm, (congrArg Prod.snd e).symm⟩
  rw [if_neg c25] at h
  cases h
def TabAt (j : Nat) : Prop := (([1, 1, 1, 2, 0, 0, 1, 0, 0, 0, 0, 0, 1, 1, 1, 0, 0, 0, 0, 1, 0, 0, 1, 0, 2, 0] : List Int).map V.int)[j]? = some (.int ((numsN.getD j 0 : Nat) : Int)) ∧ (([0, 1, 0, 0, 1, 0, 0, 0, 0, 1, 2, 1, 0, 0, 0, 0, 0, 0, 0, 0, 0, 1, 0, 0, 2, 0] : List Int).map V.int)[j]? = some (.int ((lstsN.getD j 0 : Nat) : Int)) ∧ lstsN.getD j 0 ≤ 2
theorem tab_at : ∀ j, j < 26 → TabAt j
  | 0, _ => ⟨rfl, rfl, by decide⟩
  | 1, _ => ⟨rfl, rfl, by decide⟩
  | 2, _ => ⟨rfl, rfl, by decide⟩
  | 3, _ => ⟨rfl, rfl, by decide⟩
  | 4, _ => ⟨rfl, rfl, by decide⟩
  | 5, _ => ⟨rfl, rfl, by decide⟩
  | 6, _ => ⟨rfl, rfl, by decide⟩
  | 7, _ => ⟨rfl, rfl, by decide⟩
  | 8, _ => ⟨rfl, rfl, by decide⟩
  | 9, _ => ⟨rfl, rfl, by decide⟩
  | 10, _ => ⟨rfl, rfl, by decide⟩
  | 11, _ => ⟨rfl, rfl, by decide⟩
  | 12, _ => ⟨rfl, rfl, by decide⟩
  | 13, _ => ⟨rfl, rfl, by decide⟩
  | 14, _ => ⟨rfl, rfl, by decide⟩
  | 15, _ => ⟨rfl, rfl, by decide⟩
  | 16, _ => ⟨rfl, rfl, by decide⟩
  | 17, _ => ⟨rfl, rfl, by decide⟩
  | 18, _ => ⟨rfl, rfl, by decide⟩
  | 19, _ => ⟨rfl, rfl, by decide⟩
  | 20, _ => ⟨rfl, rfl, by decide⟩
  | 21, _ => ⟨rfl, rfl, by decide⟩
  | 22, _ => ⟨rfl, rfl, by decide⟩
  | 23, _ => ⟨rfl, rfl, by decide⟩
  | 24, _ => ⟨rfl, rfl, by decide⟩
  | 25, _ => ⟨rfl, rfl, by decide⟩
  | j + 26, h => by omega
theorem rows_facts : ∀ {k : Nat} {r : List Int} {xs : List (List Int)} {t : List Int}, PyFlat.rows k r = some (xs, t) → xs.length = k ∧ t <:+ r
  | 0, r, xs, t, h => by
    have h := Option.some.inj h
    have h1 : [] = xs := congrArg Prod.fst h
    have h2 : r = t := congrArg Prod.snd h
    exact ⟨by rw [← h1]; rfl, by rw [h2]; exact List.suffix_refl t⟩
  | k + 1, r, xs, t, h => by
    obtain ⟨n, r', xs', e1, _, _, e2, e3⟩ := rows_succ h
    obtain ⟨q1, q2⟩ := rows_facts e3
    refine ⟨by rw [e2, List.length_cons, q1], ?_⟩
    rw [e1]
    exact (q2.trans (List.drop_suffix _ _)).trans (List.suffix_cons _ _)
theorem parse_step {f : Nat} {p : Int} {r : List Int} {cs : List (List (List Int))} (h : PyFlat.calls PyKxd4.shape f (p :: r) = some cs) : ∃ f' n k xs t cs', PyKxd4.shape p = some (n, k) ∧ n ≤ r.length ∧ PyFlat.rows k (r.drop n) = some (xs, t) ∧ cs = ((p :: r.take n) :: xs) :: cs' ∧ PyFlat.calls PyKxd4.shape f' t = some cs' := by
  cases f with
  | zero => cases h
  | succ f =>
    unfold PyFlat.calls at h
    cases q : PyFlat.call PyKxd4.shape (p :: r) with
    | none => rw [q] at h; cases h
    | some ct =>
      obtain ⟨c, t⟩ := ct
      rw [q] at h
      simp only at h
      cases q2 : PyFlat.calls PyKxd4.shape f t with
      | none => rw [q2] at h; cases h
      | some cs' =>
        rw [q2] at h
        have h := Option.some.inj h
        have q : (match PyKxd4.shape p with
          | none => none
          | some (n, k) => if r.length < n then none else match PyFlat.rows k (r.drop n) with
            | none => none
            | some (xs, t) => some ((p :: r.take n) :: xs, t)) = some (c, t) := q
        cases q3 : PyKxd4.shape p with
        | none => rw [q3] at q; cases q
        | some nk =>
          obtain ⟨n, k⟩ := nk
          rw [q3] at q
          simp only at q
          by_cases hc : r.length < n
          · rw [if_pos hc] at q; cases q
          · rw [if_neg hc] at q
            cases q4 : PyFlat.rows k (r.drop n) with
            | none => rw [q4] at q; cases q
            | some xt =>
              obtain ⟨xs, t'⟩ := xt
              rw [q4] at q
              have q := Option.some.inj q
              have e1 : (p :: r.take n) :: xs = c := congrArg Prod.fst q
              have e2 : t' = t := congrArg Prod.snd q
              subst e2
              exact ⟨f, n, k, xs, t', cs', rfl, by omega, q4, by rw [e1]; exact h.symm, q2⟩
theorem whole_id (c : List (List Int)) : PyKxd4.whole c = c := by
  unfold PyKxd4.whole
  split <;> rfl
section
variable {P : Program} {w : World} {K : PySem.W.Frag} {mg : Str → Option Value} {base : Heap} {a : Ad}
/-! ## long lists -/
section
variable {α : Type} {A : RelS α} {σ : L2.St} {H G H0 G0 : Hp} {ta tb te : TE} {D : Ends}
theorem ev_catS {xs ys : List α} (hl : xs.length + ys.length ≤ sizeLine) (ha : EV ta σ H (ListR A) xs) (hb : EV tb σ H (ListR A) ys) : EV (tOp rCat ta tb) σ H (ListR A) (xs ++ ys) := ev_op ha hb fun G H1 u w _ e ⟨a, vs, h1, h2, h3⟩ ⟨b, ws, k1, k2, k3⟩ Q q =>
  ⟨a, b, vs, ws, h1, k1, e _ _ h2, e _ _ k2, by rw [h3.len, k3.len]; exact hl, fun p hp => q _ _ _ (Ok.new e hp) (ListR.mk (Evl.fresh_back e hp) (h3.app k3) rfl)⟩
theorem st_extS {i : Nat} {p : Addr} {xs ys : List α} (e : Ex G H) (m : Mu G H p A xs) (hi : σ[i]? = some (some (.ref p))) (h : EV te σ G (ListR A) ys) (hl : xs.length + ys.length ≤ sizeLine)
    (k : ∀ H2 G2, Ok G H H2 G2 → ∀ vs, Mu G2 (upd H2 p (.lst vs)) p A (xs ++ ys) → D.nx σ (upd H2 p (.lst vs))) : tDrop (tBM K "list" rExtend (tVar i) (tCons te tNil)) D σ H := by
  obtain ⟨⟨vs, h1, h2⟩, h3⟩ := m
  refine ⟨.ref p, hi, .inl ⟨rfl, vs, Evl.sq_of h1⟩, h G H (Ex.refl _) e _ fun w H2 G2 o2 ⟨b, ws, k1, k2, k3⟩ => ?_⟩
  have n2 : G2 p = none := o2.no p h3 (by rw [h1]; exact fun z => by cases z)
  exact ⟨p, b, vs, ws, rfl, by rw [k1], o2.ex _ _ h1, o2.kn _ _ k2, by rw [h2.len, k3.len]; exact hl, k _ G2 o2 _ ⟨⟨_, upd_same, (h2.imp fun _ _ => A.st o2.up).app k3⟩, n2⟩⟩
end
/-! ## Desk() -/
def DskSp (a : Ad) : Sp := fun vs H Q _ => ∃ x dx, vs = [.ref x] ∧ H x = some (.ins a.cD dx []) ∧ Q .non (upd H x (.ins a.cD dx [("model", .non)]))
theorem sc_Desk : FnScope ["self"] ["self"] (defScope (inClass (top 30) 0)) := ⟨rfl, rfl, rfl, by decide +kernel, rfl, by decide +kernel, by decide +kernel⟩
theorem knc_Desk (T : Wd P w K mg base a) : KnC P w K mg base 41 "Desk" a.cD (DskSp a) := by
  obtain ⟨f, fd, M, F⟩ := T.mkD
  refine ⟨f, fd, ["self"], T.gD, M, F.binds (fun _ _ _ _ _ _ us hl => match us, hl with | [_], _ => rfl), F.ok sc_Desk (fun vs H Q E ⟨_, _, h, _⟩ => by rw [h]; rfl) fun cdv A outer s H vs Q E hr ⟨x, dx, hv, hx, k⟩ => ⟨_, (pss_one (ps_fld (pv 0) pe_non rfl)), ?_⟩⟩
  subst hv
  exact ⟨.ref x, rfl, x, a.cD, dx, [], rfl, hx, T.clD, T.nDmodel, by show 0 < 1000; decide, k⟩
theorem Dk.grow {G H H2 : Hp} {p : Addr} {om : Option Kxd4.Model} (e2 : Ex H H2) (d : Dk K a G H p om) : Dk K a G H2 p om := by
  cases om with
  | none => obtain ⟨dx, h⟩ := d; exact ⟨dx, e2 _ _ h⟩
  | some m =>
    obtain ⟨mv, ⟨dx, pm, dm, t, r, h1, h2, h3, h4, h5⟩⟩ := d
    exact ⟨mv, ⟨dx, pm, dm, t, r, e2 _ _ h1, h2, e2 _ _ h3, h4, h5⟩⟩
theorem Dk.upd {G H : Hp} {p q : Addr} {om : Option Kxd4.Model} {vs : List V} {us : List V} (h : H q = some (.lst us)) (d : Dk K a G H p om) : Dk K a G (upd H q (.lst vs)) p om := by
  cases om with
  | none =>
    obtain ⟨dx, h1⟩ := d
    exact ⟨dx, by rw [upd_ne (fun z => by rw [z, h] at h1; cases h1)]; exact h1⟩
  | some m =>
    obtain ⟨mv, ⟨dx, pm, dm, t, r, h1, h2, h3, h4, h5⟩⟩ := d
    exact ⟨mv, ⟨dx, pm, dm, t, r, by rw [upd_ne (fun z => by rw [z, h] at h1; cases h1)]; exact h1, h2, by rw [upd_ne (fun z => by rw [z, h] at h3; cases h3)]; exact h3, h4, h5⟩⟩
theorem Mu.strip {G H : Hp} {p : Addr} {xs : List Int} (m : Mu G H p IntR xs) : Mu (strip G) H p IntR xs := by
  obtain ⟨⟨vs, h1, h2⟩, h3⟩ := m
  exact ⟨⟨vs, h1, h2⟩, strip_none h3⟩
theorem Mu.dok {G H H2 G2 : Hp} {p : Addr} {xs : List Int} (d : DOk G H H2 G2) (m : Mu G H p IntR xs) : Mu G2 H2 p IntR xs := by
  obtain ⟨⟨vs, h1, h2⟩, h3⟩ := m
  exact ⟨⟨vs, d.kl _ _ h1 rfl, h2⟩, d.no _ h3 (by rw [h1]; exact fun z => by cases z)⟩
structure LoopI (K : PySem.W.Frag) (a : Ad) (calls total : List Int) (σ : L2.St) (H G : Hp) (pl : Nat) (dp fp : Addr) (om : Option Kxd4.Model) (acc : List Int) (cs : List (List (List Int))) : Prop where
  ni : NoIns G
  e : Ex G H
  c0 : At (CallsR K) 0 G σ calls
  s1 : σ[1]? = some (some (.ref dp))
  s2 : σ[2]? = some (some (.ref fp))
  s3 : σ[3]? = some (some (.int (pl : Int)))
  len : σ.length = 9
  dk : Dk K a G H dp om
  mu : Mu G H fp IntR acc
  le : pl ≤ calls.length
  parse : ∃ f, PyFlat.calls PyKxd4.shape f (calls.drop pl) = some cs
  ask : ∀ c ∈ cs, Kxd4Neutral.asked1 c = true
  good : ∀ m, om = some m → LF.Good m
  sum : acc ++ PyFlat.told (PyFlat.played Kxd4Neutral.step om cs) = total
def TopSp (K : PySem.W.Frag) : Sp := fun vs H Q _ => ∃ b calls, vs = [.ref b] ∧ SqL K H b (calls.map V.int) ∧ NoIns H ∧ calls.length ≤ 25000 ∧ PyKxd4.answers_asked calls = true ∧ ∀ p H2, H2 p = some (.lst ((PyKxd4.answers calls).map V.int)) → Q (.ref p) H2
theorem asked_facts {calls : List Int} (h : PyKxd4.answers_asked calls = true) : ∃ cs, PyFlat.calls PyKxd4.shape calls.length calls = some cs ∧ (∀ c ∈ cs, Kxd4Neutral.asked1 c = true) ∧ PyKxd4.answers calls = PyFlat.told (PyFlat.played Kxd4Neutral.step none cs) ∧ (PyKxd4.answers calls).length ≤ 10000000 := by
  unfold PyKxd4.answers_asked at h
  cases q : PyFlat.calls PyKxd4.shape calls.length calls with
  | none => rw [q] at h; cases h
  | some cs =>
    rw [q] at h
    have wid : cs.map PyKxd4.whole = cs := by
      conv => rhs; rw [← List.map_id cs]
      exact List.map_congr_left fun c _ => whole_id c
    simp only [wid, Bool.and_eq_true] at h
    obtain ⟨⟨_, h2⟩, h3⟩ := h
    refine ⟨cs, rfl, ?_, ?_, of_decide_eq_true h3⟩
    · unfold Kxd4Neutral.asked at h2
      rw [Bool.and_eq_true, Bool.and_eq_true, Bool.and_eq_true, List.all_eq_true] at h2
      exact h2.1.2.1
    · unfold PyKxd4.answers PyKxd4.calls
      rw [q]
      show PyFlat.told (PyFlat.played _ _ (cs.map PyKxd4.whole)) = _
      rw [wid]
      rfl
theorem sc_answers : FnScope ["calls", "desk", "found", "place", "call", "first", "numbers", "lists", "told"] ["calls"] (defScope (top 122)) := ⟨rfl, rfl, rfl, by decide +kernel, rfl, by decide +kernel, by decide +kernel⟩
theorem ok_answers (T : Wd P w K mg base a) {f : Addr} {fd : FuncData} (F : Fun K "answers" "answers" (top 122) f fd) : FnOk P w K mg base CX0 62 f fd ["calls"] (TopSp K) := by
  refine F.ok sc_answers (fun vs H Q E ⟨_, _, h, _⟩ => by rw [h]; rfl) fun cdv A outer s H vs Q E hr ⟨b, calls, hv, hb, ni, l25, ask, k⟩ => ⟨_, (pss_cons (ps_set (i := 1) sc_answers.nd rfl (Or.inl rfl) (pe_knC0 (knc_Desk T) (hr.mono (by decide)) rfl)) (pss_cons (ps_set (i := 2) sc_answers.nd rfl (Or.inl rfl) (pe_lst pa_nil)) (pss_cons (ps_set (i := 3) sc_answers.nd rfl (Or.inl rfl) pe_int) (pss_cons (ps_while PassesOwn.never (pt_cmpR op_lt (pv 3) (pe_callB (cr_lenK (K := K) rfl) rfl T.b_len PySem.boot_len (pa_cons (pv 0) pa_nil)) (nomark _)) (pss_cons (ps_set (i := 4) sc_answers.nd rfl (Or.inl rfl) (pe_ix (ix_listK (K := K) rfl) (pv 0) (pv 3) (fun _ _ => rfl))) (pss_cons (ps_set (i := 5) sc_answers.nd rfl (Or.inl rfl) (pe_op op_add (pe_op op_add (pv 3) pe_int) (pe_ix (ix_tupK (K := K) rfl) (pe_gref T.g_NUMBERS rfl) (pv 4) (fun _ _ => rfl)))) (pss_cons (ps_set (i := 6) sc_answers.nd rfl (Or.inl rfl) (pe_slice (sl_listK (K := K) rfl) (pv 0) (po_some (pe_op op_add (pv 3) pe_int)) (po_some (pv 5)))) (pss_cons (ps_asg (pe_kn (kn_lists_at T) (hr.mono (by decide)) rfl (pa_cons (pv 0) (pa_cons (pv 5) (pa_cons (pe_ix (ix_tupK (K := K) rfl) (pe_gref T.g_LISTS rfl) (pv 4) (fun _ _ => rfl)) pa_nil)))) (pg_tupK (K := K) (n := 2) rfl rfl (pgs_cons (pg_name (i := 7) sc_answers.nd rfl (Or.inl rfl)) (pgs_cons (pg_name (i := 3) sc_answers.nd rfl (Or.inl rfl)) pgs_nil)))) (pss_cons (ps_set (i := 8) sc_answers.nd rfl (Or.inl rfl) (pe_kn (kn_answer T) (hr.mono (by decide)) rfl (pa_cons (pv 1) (pa_cons (pv 4) (pa_cons (pv 6) (pa_cons (pv 7) pa_nil)))))) (pss_one (ps_expr (pe_bmK (K := K) rfl PySem.F.plainAttrs_list PySem.F.slot_list_extend PySem.F.type_list_extend mt_extend (pv 2) (pa_cons (pe_op op_cat (pe_lst (pa_cons (pe_callB (cr_lenK (K := K) rfl) rfl T.b_len PySem.boot_len (pa_cons (pv 8) pa_nil)) pa_nil)) (pv 8)) pa_nil)))))))))) (pss_one (ps_ret (pv 2))))))), ?_⟩
  subst hv
  obtain ⟨cs0, parse0, ask0, ans0, short0⟩ := asked_facts ask
  generalize PyKxd4.answers calls = total at ans0 short0 k
  intro x dx hx hdx hne
  refine ⟨x, dx, rfl, upd_same, rfl, ?_⟩
  have e1 : Ex H (upd (upd (upd H dx (.own x)) x (.ins a.cD dx [])) x (.ins a.cD dx [("model", .non)])) := fun b u hu => by
    have c1 : b ≠ x := fun z => by rw [z, hx] at hu; cases hu
    have c2 : b ≠ dx := fun z => by rw [z, hdx] at hu; cases hu
    rw [upd_ne c1, upd_ne c1, upd_ne c2]
    exact hu
  have dk1 : Dk K a H (upd (upd (upd H dx (.own x)) x (.ins a.cD dx [])) x (.ins a.cD dx [("model", .non)])) x none := ⟨dx, upd_same⟩
  generalize upd (upd (upd H dx (.own x)) x (.ins a.cD dx [])) x (.ins a.cD dx [("model", .non)]) = H1 at e1 dk1 ⊢
  refine st_new (A := IntR) (xs := []) e1 el_nil (by decide) fun fp H2 G2 o2 hfp m2 => ?_
  refine st_set (A := IntR) (x := 0) o2.kn ev_int fun u3 H3 G3 o3 r3 => ?_
  have r3 : u3 = .int 0 := r3
  subst r3
  have o23 := o2.trans o3
  refine st_while (fun m σ' H' => ∃ G' pl om acc cs, m = calls.length - pl ∧ LoopI K a calls total σ' H' G' pl x fp om acc cs) calls.length ⟨strip G3, 0, none, [], cs0, rfl, ?_⟩ fun m σ' H' h => ?_
  · exact ⟨strip_ni _, fun b u h => o23.kn b u (strip_some.mp h).1, ⟨.ref b, rfl, sp_calls _ _ _ ((CallsR K).st o23.up ⟨b, rfl, hb⟩)⟩, rfl, rfl, rfl, rfl, dk1.ex o23.up o23.ex, (m2.ok o3).strip, Nat.zero_le _, ⟨_, parse0⟩, ask0, fun m h => (by cases h), ans0.symm⟩
  obtain ⟨G', pl, om, acc, cs, rfl, L⟩ := h
  refine ⟨G', decide ((pl : Int) < (calls.length : Int)), L.e, et_test (ev_cmp (p := fun i j => decide (i < j)) (ev_var (A := IntR) L.s3 rfl) (ev_lenS L.c0.ev)), fun hlt H4 e4 => ?_, fun hge H4 e4 => ?_⟩
  · have hlt : pl < calls.length := by have := of_decide_eq_true hlt; omega
    obtain ⟨p, r, er⟩ : ∃ p r, calls.drop pl = p :: r := by
      cases q : calls.drop pl with
      | nil => have := congrArg List.length q; rw [List.length_drop] at this; simp at this; omega
      | cons p r => exact ⟨p, r, rfl⟩
    obtain ⟨f0, parse⟩ := L.parse
    rw [er] at parse
    obtain ⟨f', n, kk, xs, t, cs', hsh, hn, hrow, ecs, parse'⟩ := parse_step parse
    obtain ⟨i, hi, rfl, rfl, rfl⟩ := shape_facts hsh
    obtain ⟨hxl, hsuf⟩ := rows_facts hrow
    subst ecs
    have lr : calls.length - pl = r.length + 1 := by have := congrArg List.length er; rw [List.length_drop] at this; exact this
    have hp0 : calls.getD pl 0 = (i : Int) := by
      have := congrArg (fun l => l[0]?) er
      simp only [List.getElem?_drop, List.getElem?_cons_zero, Nat.add_zero] at this
      rw [List.getD_eq_getElem?_getD, this]
      rfl
    have er' : calls.drop (pl + 1) = r := by
      have := congrArg (List.drop 1) er
      rw [List.drop_drop] at this
      exact this
    obtain ⟨nx1, nx2, n2⟩ := tab_at i hi
    generalize hnn : numsN.getD i 0 = n at *
    generalize hkk : lstsN.getD i 0 = kk at *
    have lns : (r.take n).length = n := by rw [List.length_take]; omega
    have law := lawAll i hi om L.good (r.take n) xs (by rw [lns, hnn]) (by rw [hxl, hkk]) (L.ask _ List.mem_cons_self)
    have nxt : ∀ {σ : L2.St} {j q : Nat} {v : Option V} {y : Option (Option V)}, σ[j]? = y → q ≠ j → (σ.set q v)[j]? = y := fun h hne => by rw [List.getElem?_set_ne hne]; exact h
    have len9 := L.len
    have c0 := L.c0
    have s1 := L.s1
    have s2 := L.s2
    have s3 := L.s3
    refine st_set (A := IntR) (x := (i : Int)) (L.e.trans e4) ((ev_ixS (n := pl) rfl hlt c0.ev (ev_var (A := IntR) s3 rfl)).to hp0) fun u5 H5 G5 o5 r5 => ?_
    have r5 : u5 = .int (i : Int) := r5
    subst r5
    have c0 := (c0.mono o5.up).put (k := 4) (v := some (.int (i : Int))) (by decide)
    have s4 : (σ'.set 4 (some (.int (i : Int))))[4]? = some (some (.int (i : Int))) := List.getElem?_set_self (by omega)
    replace s1 := nxt (q := 4) (v := some (.int (i : Int))) s1 (by decide)
    replace s2 := nxt (q := 4) (v := some (.int (i : Int))) s2 (by decide)
    replace s3 := nxt (q := 4) (v := some (.int (i : Int))) s3 (by decide)
    replace len9 : (σ'.set 4 (some (.int (i : Int)))).length = 9 := by rw [List.length_set]; exact len9
    generalize σ'.set 4 (some (.int (i : Int))) = σ5 at c0 s1 s2 s3 s4 len9 ⊢
    refine st_set (A := IntR) (x := ((pl + 1 + n : Nat) : Int)) o5.kn ((ev_add (ev_add (ev_var (A := IntR) s3 rfl) ev_int) ((ev_ixC (n := i) T.t_numbers nx1 (ev_var (A := IntR) s4 rfl)).as (B := IntR) (y := (n : Int)) fun v H2 _ r => r)).to (by omega)) fun u6 H6 G6 o6 r6 => ?_
    have r6 : u6 = .int ((pl + 1 + n : Nat) : Int) := r6
    subst r6
    have c0 := (c0.mono o6.up).put (k := 5) (v := some (.int ((pl + 1 + n : Nat) : Int))) (by decide)
    have s5 : (σ5.set 5 (some (.int ((pl + 1 + n : Nat) : Int))))[5]? = some (some (.int ((pl + 1 + n : Nat) : Int))) := List.getElem?_set_self (by omega)
    replace s1 := nxt (q := 5) (v := some (.int ((pl + 1 + n : Nat) : Int))) s1 (by decide)
    replace s2 := nxt (q := 5) (v := some (.int ((pl + 1 + n : Nat) : Int))) s2 (by decide)
    replace s3 := nxt (q := 5) (v := some (.int ((pl + 1 + n : Nat) : Int))) s3 (by decide)
    replace s4 := nxt (q := 5) (v := some (.int ((pl + 1 + n : Nat) : Int))) s4 (by decide)
    replace len9 : (σ5.set 5 (some (.int ((pl + 1 + n : Nat) : Int)))).length = 9 := by rw [List.length_set]; exact len9
    generalize σ5.set 5 (some (.int ((pl + 1 + n : Nat) : Int))) = σ6 at c0 s1 s2 s3 s4 s5 len9 ⊢
    refine st_set (A := RowR) (x := r.take n) o6.kn ((ev_slS (n := pl + 1) (m := pl + 1 + n) (by omega) rfl (by omega) (by omega) c0.ev (ev_add (ev_var (A := IntR) s3 rfl) ev_int) (ev_var (A := IntR) s5 rfl)).to (by rw [er', show pl + 1 + n - (pl + 1) = n by omega])) fun u7 H7 G7 o7 r7 => ?_
    have c0 := (c0.mono o7.up).put (k := 6) (v := some u7) (by decide)
    have s6 : At RowR 6 G7 (σ6.set 6 (some u7)) (r.take n) := At.set (by omega) r7
    replace s1 := nxt (q := 6) (v := some u7) s1 (by decide)
    replace s2 := nxt (q := 6) (v := some u7) s2 (by decide)
    replace s4 := nxt (q := 6) (v := some u7) s4 (by decide)
    replace s5 := nxt (q := 6) (v := some u7) s5 (by decide)
    replace len9 : (σ6.set 6 (some u7)).length = 9 := by rw [List.length_set]; exact len9
    generalize σ6.set 6 (some u7) = σ7 at c0 s1 s2 s4 s5 s6 len9 ⊢
    have dr : calls.drop (pl + 1 + n) = r.drop n := by rw [← er', List.drop_drop]
    have ef : listsF calls (pl + 1 + n) kk = (xs, calls.length - t.length) := by
      unfold listsF
      rw [dr, hrow]
    refine st_unp (A := PairR K TabR NatR) (x := (xs, calls.length - t.length)) o7.kn (tg_pair 7 3 (by decide)) (by unfold inb; rw [len9]; rfl) ((ev_call3 (B := NatR) (y := pl + 1 + n) (C := NatR) (z := kk) c0.ev (ev_var s5 rfl) ((ev_ixC (n := i) T.t_lists nx2 (ev_var (A := IntR) s4 rfl)).as (B := NatR) (y := kk) fun v H2 _ r => r) ⟨by omega, l25, n2, xs, t, by rw [dr]; exact hrow⟩).to ef) fun σ8 H8 G8 o8 a8 ⟨f7, f3⟩ => ?_
    have c0 := (c0.mono o8.up).agr a8 (by decide)
    have s6 := (s6.mono o8.up).agr a8 (by decide)
    replace s1 := (a8.2 1 (by decide)).trans s1
    replace s2 := (a8.2 2 (by decide)).trans s2
    replace s4 := (a8.2 4 (by decide)).trans s4
    replace len9 := a8.1.trans len9
    have oA : Ok G' H4 H8 G8 := ((o5.trans o6).trans o7).trans o8
    have d0 := (Full.refl G').dok L.ni oA
    have dk8 : Dk K a (strip G8) H8 x om := (L.dk.grow e4).ex oA.up oA.ex
    have mu8 : Mu (strip G8) H8 fp IntR acc := ((L.mu.ok (Ok.grow L.e e4)).ok oA).strip
    obtain ⟨w6, p6, r6⟩ := s6
    obtain ⟨w7, p7, r7⟩ := f7
    refine ⟨.ref x, s1, .int (i : Int), s4, w6, p6, w7, p7, strip G8, x, i, om, w6, w7, r.take n, xs, rfl, hi, d0.ni, d0.kn, dk8, sp_row _ _ _ r6, sp_tab _ _ _ r7, law.pre, fun u H9 G9 d9 dk9 r9 => ?_⟩
    have st9 := law.st
    have gd9 := law.good
    generalize ansF i om (r.take n) xs = an at dk9 r9 st9 gd9
    obtain ⟨om', told⟩ := an
    have hsum := L.sum
    have hplay : PyFlat.told (PyFlat.played Kxd4Neutral.step om ((((i : Int) :: r.take n) :: xs) :: cs')) = ((told.length : Int) :: told) ++ PyFlat.told (PyFlat.played Kxd4Neutral.step om' cs') := by
      show PyFlat.told ((Kxd4Neutral.step om (((i : Int) :: r.take n) :: xs)).2 :: PyFlat.played Kxd4Neutral.step (Kxd4Neutral.step om (((i : Int) :: r.take n) :: xs)).1 cs') = _
      rw [st9]
      rfl
    rw [hplay, ← List.append_assoc] at hsum
    have hlen : acc.length + (told.length + 1) ≤ sizeLine := by
      have := congrArg List.length hsum
      rw [List.length_append, List.length_append, List.length_cons] at this
      rw [sizeLine_eq]
      omega
    have mu9 := mu8.dok d9
    obtain ⟨f3v, f3p, f3r⟩ := f3
    have f3r : f3v = .int ((calls.length - t.length : Nat) : Int) := f3r
    subst f3r
    have q8 : At RowR 8 G9 (σ8.set 8 (some u)) told := At.set (by omega) r9
    refine st_extS (D := { nx := _, rt := _, ct := _, bk := _ }) (A := IntR) (xs := acc) (ys := [(told.length : Int)] ++ told) d9.kn mu9 (nxt s2 (by decide)) (ev_catS (by show 1 + _ ≤ _; omega) (ev_one (ev_len q8.ev)) q8.ev) (by show acc.length + (told.length + 1) ≤ _; exact hlen) fun H10 G10 o10 vs m10 => ?_
    obtain ⟨⟨us, hus, _⟩, _⟩ := mu9.ok o10
    have hst : t <:+ calls := by
      refine hsuf.trans ?_
      rw [← dr]
      exact List.drop_suffix _ _
    have hdt : calls.drop (calls.length - t.length) = t := (List.suffix_iff_eq_drop.mp hst).symm
    have htl : t.length ≤ r.length - n := by
      have := hsuf.length_le
      rw [List.length_drop] at this
      exact this
    refine ⟨calls.length - (calls.length - t.length), by omega, strip G10, calls.length - t.length, om', acc ++ ((told.length : Int) :: told), cs', rfl, ⟨strip_ni _, fun b u h => ?_, ?_, nxt s1 (by decide), nxt s2 (by decide), nxt f3p (by decide), by rw [List.length_set]; exact len9, (dk9.ex o10.up o10.ex).upd hus, m10.strip, by omega, ⟨f', by rw [hdt]; exact parse'⟩, fun c hc => L.ask c (List.mem_cons_of_mem _ hc), gd9, hsum⟩⟩
    · have h := (strip_some.mp h).1
      rw [upd_ne (fun z => by rw [z, m10.no] at h; cases h)]
      exact o10.kn _ _ h
    · obtain ⟨v0, p0, r0⟩ := c0
      exact ⟨v0, nxt p0 (by decide), sp_calls _ _ _ ((CallsR K).st (d9.up.trans o10.up) (sp_calls _ _ _ r0))⟩
  · have hge : calls.length ≤ pl := by have := of_decide_eq_false hge; omega
    obtain ⟨f0, parse⟩ := L.parse
    rw [List.drop_eq_nil_of_le hge] at parse
    have hcs : cs = [] := by
      cases f0 <;> exact (Option.some.inj parse).symm
    subst hcs
    have hsum := L.sum
    have hsum : acc ++ [] = total := hsum
    rw [List.append_nil] at hsum
    subst hsum
    obtain ⟨⟨vs, hv, ha⟩, _⟩ := L.mu
    exact ⟨.ref fp, L.s2, k fp H4 (by rw [e4 _ _ hv, ha.eqI])⟩
end
end LW

set_option linter.all false
set_option Elab.async false
set_option maxRecDepth 100000
set_option maxHeartbeats 8000000
namespace LW
open PySem PySem.Spec PyProof.Rows L2
/-! ## what the top has written -/
theorem df_mk {K : PySem.W.Frag} {h : Heap} {mg : Str → Option Value} {x : Str} {st : Stmt} {n : Nat} {f : Addr} {od an : Option Addr} {sl : Array (Option Value)} {oc kV dc pm cd ct : Value} (X : K.In h) (G : h.Ns mainGlobals mg) (h1 : PySem.W.nsIn K mainGlobals x = some (some (.ref f)))
    (h2 : K.lookup f = some ⟨oc, od, .func (PySem.W.fnOf x x (defArgs st) (defBody st) (defScope st) .none kV dc pm an cd ct), sl⟩) (h3 : PySem.W.codeIn K cd x = true) (h4 : PySem.W.keepIn K (.ref f) = true) : Df K mg x st n := ⟨f, _, PySem.W.mg_of X G h1, fun_mk h2 h3 h4⟩
def chkI : List Value → List Int → Bool
  | [], [] => true
  | .int i _ :: r, j :: s => decide (i = j) && chkI r s
  | _, _ => false
def chkR : List Value → List Addr → Bool
  | [], [] => true
  | .ref i :: r, j :: s => decide (i = j) && chkR r s
  | _, _ => false
def nodupB : List Addr → Bool
  | [] => true
  | x :: r => !r.contains x && nodupB r
theorem chk_vals : ∀ {vs : List Value} {l : List Int}, chkI vs l = true → Vals (l.map V.int) vs
  | [], [], _ => .nil
  | .int i t :: r, j :: s, h => by
    unfold chkI at h
    obtain ⟨h1, h2⟩ := Bool.and_eq_true_iff.mp h
    have e := of_decide_eq_true h1
    subst e
    exact .cons ⟨t, rfl⟩ (chk_vals h2)
theorem chk_refs : ∀ {vs : List Value} {l : List Addr}, chkR vs l = true → Vals (l.map V.ref) vs
  | [], [], _ => .nil
  | .ref i :: r, j :: s, h => by
    unfold chkR at h
    obtain ⟨h1, h2⟩ := Bool.and_eq_true_iff.mp h
    have e := of_decide_eq_true h1
    subst e
    exact .cons rfl (chk_refs h2)
theorem sq_i {K : PySem.W.Frag} {H : Hp} {b : Addr} {od : Option Addr} {sl : Array (Option Value)} {its : Array Value} {n : Nat} {l : List Int} (h : K.lookup b = some ⟨.type "tuple", od, .seq its n, sl⟩) (c : chkI its.toList l = true) (hl : l.length ≤ 1000) : SqT K H b (l.map V.int) := by
  have v := chk_vals c
  refine .inr ⟨_, its, n, h, rfl, rfl, ?_, v⟩
  have e1 : its.toList.length = its.size := Array.length_toList
  have e2 : (l.map V.int).length = its.toList.length := v.length
  rw [List.length_map] at e2
  exact Evl.sz_of (by omega)
theorem sq_r {K : PySem.W.Frag} {H : Hp} {b : Addr} {od : Option Addr} {sl : Array (Option Value)} {its : Array Value} {n : Nat} {l : List Addr} (h : K.lookup b = some ⟨.type "tuple", od, .seq its n, sl⟩) (c : chkR its.toList l = true) (hl : l.length ≤ sizeLine) : SqT K H b (l.map V.ref) := by
  have v := chk_refs c
  refine .inr ⟨_, its, n, h, rfl, rfl, ?_, v⟩
  have e1 : its.toList.length = its.size := Array.length_toList
  have e2 : (l.map V.ref).length = its.toList.length := v.length
  rw [List.length_map] at e2
  omega
theorem nodup_of : ∀ {l : List Addr}, nodupB l = true → l.Nodup
  | [], _ => List.nodup_nil
  | x :: r, h => by
    unfold nodupB at h
    obtain ⟨h1, h2⟩ := Bool.and_eq_true_iff.mp h
    refine List.nodup_cons.mpr ⟨fun z => ?_, nodup_of h2⟩
    rw [Bool.not_eq_true', List.contains_eq_mem, decide_eq_false_iff_not] at h1
    exact h1 z
theorem nodup_get {l : List Addr} (h : nodupB l = true) (i j : Nat) (hi : i < l.length) (hj : j < l.length) (e : l.getD i 0 = l.getD j 0) : i = j := by
  rw [List.getD_eq_getElem?_getD, List.getD_eq_getElem?_getD, List.getElem?_eq_getElem hi, List.getElem?_eq_getElem hj] at e
  exact (List.getElem_inj (nodup_of h)).mp e
theorem wd_mk {P : Program} {w : World} {K : PySem.W.Frag} {mg : Str → Option Value} {base h : Heap} (X : K.In h) (G : h.Ns mainGlobals mg)
    {f_is_within : Addr} {od_is_within an_is_within : Option Addr} {sl_is_within : Array (Option Value)} {oc_is_within kV_is_within dc_is_within pm_is_within cd_is_within ct_is_within : Value}
    {f_are_within : Addr} {od_are_within an_are_within : Option Addr} {sl_are_within : Array (Option Value)} {oc_are_within kV_are_within dc_are_within pm_are_within cd_are_within ct_are_within : Value}
    {f_is_vector : Addr} {od_is_vector an_is_vector : Option Addr} {sl_is_vector : Array (Option Value)} {oc_is_vector kV_is_vector dc_is_vector pm_is_vector cd_is_vector ct_is_vector : Value}
    {f_is_index : Addr} {od_is_index an_is_index : Option Addr} {sl_is_index : Array (Option Value)} {oc_is_index kV_is_index dc_is_index pm_is_index cd_is_index ct_is_index : Value}
    {f_are_terms : Addr} {od_are_terms an_are_terms : Option Addr} {sl_are_terms : Array (Option Value)} {oc_are_terms kV_are_terms dc_are_terms pm_are_terms cd_are_terms ct_are_terms : Value}
    {f_is_surface : Addr} {od_is_surface an_is_surface : Option Addr} {sl_is_surface : Array (Option Value)} {oc_is_surface kV_is_surface dc_is_surface pm_is_surface cd_is_surface ct_is_surface : Value}
    {f_common : Addr} {od_common an_common : Option Addr} {sl_common : Array (Option Value)} {oc_common kV_common dc_common pm_common cd_common ct_common : Value}
    {f_multiple : Addr} {od_multiple an_multiple : Option Addr} {sl_multiple : Array (Option Value)} {oc_multiple kV_multiple dc_multiple pm_multiple cd_multiple ct_multiple : Value}
    {f_ratio : Addr} {od_ratio an_ratio : Option Addr} {sl_ratio : Array (Option Value)} {oc_ratio kV_ratio dc_ratio pm_ratio cd_ratio ct_ratio : Value}
    {f_plus : Addr} {od_plus an_plus : Option Addr} {sl_plus : Array (Option Value)} {oc_plus kV_plus dc_plus pm_plus cd_plus ct_plus : Value}
    {f_minus : Addr} {od_minus an_minus : Option Addr} {sl_minus : Array (Option Value)} {oc_minus kV_minus dc_minus pm_minus cd_minus ct_minus : Value}
    {f_times : Addr} {od_times an_times : Option Addr} {sl_times : Array (Option Value)} {oc_times kV_times dc_times pm_times cd_times ct_times : Value}
    {f_over : Addr} {od_over an_over : Option Addr} {sl_over : Array (Option Value)} {oc_over kV_over dc_over pm_over cd_over ct_over : Value}
    {f_square : Addr} {od_square an_square : Option Addr} {sl_square : Array (Option Value)} {oc_square kV_square dc_square pm_square cd_square ct_square : Value}
    {f_term_count : Addr} {od_term_count an_term_count : Option Addr} {sl_term_count : Array (Option Value)} {oc_term_count kV_term_count dc_term_count pm_term_count cd_term_count ct_term_count : Value}
    {f_responses_of : Addr} {od_responses_of an_responses_of : Option Addr} {sl_responses_of : Array (Option Value)} {oc_responses_of kV_responses_of dc_responses_of pm_responses_of cd_responses_of ct_responses_of : Value}
    {f_entries_of : Addr} {od_entries_of an_entries_of : Option Addr} {sl_entries_of : Array (Option Value)} {oc_entries_of kV_entries_of dc_entries_of pm_entries_of cd_entries_of ct_entries_of : Value}
    {f_entries_at : Addr} {od_entries_at an_entries_at : Option Addr} {sl_entries_at : Array (Option Value)} {oc_entries_at kV_entries_at dc_entries_at pm_entries_at cd_entries_at ct_entries_at : Value}
    {f_places_below : Addr} {od_places_below an_places_below : Option Addr} {sl_places_below : Array (Option Value)} {oc_places_below kV_places_below dc_places_below pm_places_below cd_places_below ct_places_below : Value}
    {f_places_beside : Addr} {od_places_beside an_places_beside : Option Addr} {sl_places_beside : Array (Option Value)} {oc_places_beside kV_places_beside dc_places_beside pm_places_beside cd_places_beside ct_places_beside : Value}
    {f_lowered : Addr} {od_lowered an_lowered : Option Addr} {sl_lowered : Array (Option Value)} {oc_lowered kV_lowered dc_lowered pm_lowered cd_lowered ct_lowered : Value}
    {f_cleared : Addr} {od_cleared an_cleared : Option Addr} {sl_cleared : Array (Option Value)} {oc_cleared kV_cleared dc_cleared pm_cleared cd_cleared ct_cleared : Value}
    {f_first_with : Addr} {od_first_with an_first_with : Option Addr} {sl_first_with : Array (Option Value)} {oc_first_with kV_first_with dc_first_with pm_first_with cd_first_with ct_first_with : Value}
    {f_without : Addr} {od_without an_without : Option Addr} {sl_without : Array (Option Value)} {oc_without kV_without dc_without pm_without cd_without ct_without : Value}
    {f_rank_of : Addr} {od_rank_of an_rank_of : Option Addr} {sl_rank_of : Array (Option Value)} {oc_rank_of kV_rank_of dc_rank_of pm_rank_of cd_rank_of ct_rank_of : Value}
    {f_leads_of : Addr} {od_leads_of an_leads_of : Option Addr} {sl_leads_of : Array (Option Value)} {oc_leads_of kV_leads_of dc_leads_of pm_leads_of cd_leads_of ct_leads_of : Value}
    {f_solved : Addr} {od_solved an_solved : Option Addr} {sl_solved : Array (Option Value)} {oc_solved kV_solved dc_solved pm_solved cd_solved ct_solved : Value}
    {f_product : Addr} {od_product an_product : Option Addr} {sl_product : Array (Option Value)} {oc_product kV_product dc_product pm_product cd_product ct_product : Value}
    {f_column : Addr} {od_column an_column : Option Addr} {sl_column : Array (Option Value)} {oc_column kV_column dc_column pm_column cd_column ct_column : Value}
    {f_products : Addr} {od_products an_products : Option Addr} {sl_products : Array (Option Value)} {oc_products kV_products dc_products pm_products cd_products ct_products : Value}
    {f_right_sides : Addr} {od_right_sides an_right_sides : Option Addr} {sl_right_sides : Array (Option Value)} {oc_right_sides kV_right_sides dc_right_sides pm_right_sides cd_right_sides ct_right_sides : Value}
    {f_solved_for : Addr} {od_solved_for an_solved_for : Option Addr} {sl_solved_for : Array (Option Value)} {oc_solved_for kV_solved_for dc_solved_for pm_solved_for cd_solved_for ct_solved_for : Value}
    {f_best_fit : Addr} {od_best_fit an_best_fit : Option Addr} {sl_best_fit : Array (Option Value)} {oc_best_fit kV_best_fit dc_best_fit pm_best_fit cd_best_fit ct_best_fit : Value}
    {f_weighed : Addr} {od_weighed an_weighed : Option Addr} {sl_weighed : Array (Option Value)} {oc_weighed kV_weighed dc_weighed pm_weighed cd_weighed ct_weighed : Value}
    {f_residual_sum_of : Addr} {od_residual_sum_of an_residual_sum_of : Option Addr} {sl_residual_sum_of : Array (Option Value)} {oc_residual_sum_of kV_residual_sum_of dc_residual_sum_of pm_residual_sum_of cd_residual_sum_of ct_residual_sum_of : Value}
    {f_pairs_of : Addr} {od_pairs_of an_pairs_of : Option Addr} {sl_pairs_of : Array (Option Value)} {oc_pairs_of kV_pairs_of dc_pairs_of pm_pairs_of cd_pairs_of ct_pairs_of : Value}
    {f_hessian : Addr} {od_hessian an_hessian : Option Addr} {sl_hessian : Array (Option Value)} {oc_hessian kV_hessian dc_hessian pm_hessian cd_hessian ct_hessian : Value}
    {f_determinant : Addr} {od_determinant an_determinant : Option Addr} {sl_determinant : Array (Option Value)} {oc_determinant kV_determinant dc_determinant pm_determinant cd_determinant ct_determinant : Value}
    {f_leading_minors : Addr} {od_leading_minors an_leading_minors : Option Addr} {sl_leading_minors : Array (Option Value)} {oc_leading_minors kV_leading_minors dc_leading_minors pm_leading_minors cd_leading_minors ct_leading_minors : Value}
    {f_is_turned : Addr} {od_is_turned an_is_turned : Option Addr} {sl_is_turned : Array (Option Value)} {oc_is_turned kV_is_turned dc_is_turned pm_is_turned cd_is_turned ct_is_turned : Value}
    {f_kind_of : Addr} {od_kind_of an_kind_of : Option Addr} {sl_kind_of : Array (Option Value)} {oc_kind_of kV_kind_of dc_kind_of pm_kind_of cd_kind_of ct_kind_of : Value}
    {f_point_of : Addr} {od_point_of an_point_of : Option Addr} {sl_point_of : Array (Option Value)} {oc_point_of kV_point_of dc_point_of pm_point_of cd_point_of ct_point_of : Value}
    {f_value_at : Addr} {od_value_at an_value_at : Option Addr} {sl_value_at : Array (Option Value)} {oc_value_at kV_value_at dc_value_at pm_value_at cd_value_at ct_value_at : Value}
    {f_rank : Addr} {od_rank an_rank : Option Addr} {sl_rank : Array (Option Value)} {oc_rank kV_rank dc_rank pm_rank cd_rank ct_rank : Value}
    {f_freedom : Addr} {od_freedom an_freedom : Option Addr} {sl_freedom : Array (Option Value)} {oc_freedom kV_freedom dc_freedom pm_freedom cd_freedom ct_freedom : Value}
    {f_solution : Addr} {od_solution an_solution : Option Addr} {sl_solution : Array (Option Value)} {oc_solution kV_solution dc_solution pm_solution cd_solution ct_solution : Value}
    {f_estimate_of : Addr} {od_estimate_of an_estimate_of : Option Addr} {sl_estimate_of : Array (Option Value)} {oc_estimate_of kV_estimate_of dc_estimate_of pm_estimate_of cd_estimate_of ct_estimate_of : Value}
    {f_factor_of : Addr} {od_factor_of an_factor_of : Option Addr} {sl_factor_of : Array (Option Value)} {oc_factor_of kV_factor_of dc_factor_of pm_factor_of cd_factor_of ct_factor_of : Value}
    {f_is_estimable : Addr} {od_is_estimable an_is_estimable : Option Addr} {sl_is_estimable : Array (Option Value)} {oc_is_estimable kV_is_estimable dc_is_estimable pm_is_estimable cd_is_estimable ct_is_estimable : Value}
    {f_residual_sum : Addr} {od_residual_sum an_residual_sum : Option Addr} {sl_residual_sum : Array (Option Value)} {oc_residual_sum kV_residual_sum dc_residual_sum pm_residual_sum cd_residual_sum ct_residual_sum : Value}
    {f_variance_of : Addr} {od_variance_of an_variance_of : Option Addr} {sl_variance_of : Array (Option Value)} {oc_variance_of kV_variance_of dc_variance_of pm_variance_of cd_variance_of ct_variance_of : Value}
    {f_looked_at : Addr} {od_looked_at an_looked_at : Option Addr} {sl_looked_at : Array (Option Value)} {oc_looked_at kV_looked_at dc_looked_at pm_looked_at cd_looked_at ct_looked_at : Value}
    {f_told_between : Addr} {od_told_between an_told_between : Option Addr} {sl_told_between : Array (Option Value)} {oc_told_between kV_told_between dc_told_between pm_told_between cd_told_between ct_told_between : Value}
    {f_sequential_of : Addr} {od_sequential_of an_sequential_of : Option Addr} {sl_sequential_of : Array (Option Value)} {oc_sequential_of kV_sequential_of dc_sequential_of pm_sequential_of cd_sequential_of ct_sequential_of : Value}
    {f_marginal_at : Addr} {od_marginal_at an_marginal_at : Option Addr} {sl_marginal_at : Array (Option Value)} {oc_marginal_at kV_marginal_at dc_marginal_at pm_marginal_at cd_marginal_at ct_marginal_at : Value}
    {f_marginal_of : Addr} {od_marginal_of an_marginal_of : Option Addr} {sl_marginal_of : Array (Option Value)} {oc_marginal_of kV_marginal_of dc_marginal_of pm_marginal_of cd_marginal_of ct_marginal_of : Value}
    {f_groups_of : Addr} {od_groups_of an_groups_of : Option Addr} {sl_groups_of : Array (Option Value)} {oc_groups_of kV_groups_of dc_groups_of pm_groups_of cd_groups_of ct_groups_of : Value}
    {f_spread : Addr} {od_spread an_spread : Option Addr} {sl_spread : Array (Option Value)} {oc_spread kV_spread dc_spread pm_spread cd_spread ct_spread : Value}
    {f_pure_error : Addr} {od_pure_error an_pure_error : Option Addr} {sl_pure_error : Array (Option Value)} {oc_pure_error kV_pure_error dc_pure_error pm_pure_error cd_pure_error ct_pure_error : Value}
    {f_tell_rank : Addr} {od_tell_rank an_tell_rank : Option Addr} {sl_tell_rank : Array (Option Value)} {oc_tell_rank kV_tell_rank dc_tell_rank pm_tell_rank cd_tell_rank ct_tell_rank : Value}
    {f_tell_coefficients : Addr} {od_tell_coefficients an_tell_coefficients : Option Addr} {sl_tell_coefficients : Array (Option Value)} {oc_tell_coefficients kV_tell_coefficients dc_tell_coefficients pm_tell_coefficients cd_tell_coefficients ct_tell_coefficients : Value}
    {f_tell_estimate : Addr} {od_tell_estimate an_tell_estimate : Option Addr} {sl_tell_estimate : Array (Option Value)} {oc_tell_estimate kV_tell_estimate dc_tell_estimate pm_tell_estimate cd_tell_estimate ct_tell_estimate : Value}
    {f_tell_covariance : Addr} {od_tell_covariance an_tell_covariance : Option Addr} {sl_tell_covariance : Array (Option Value)} {oc_tell_covariance kV_tell_covariance dc_tell_covariance pm_tell_covariance cd_tell_covariance ct_tell_covariance : Value}
    {f_tell_squared_ratio : Addr} {od_tell_squared_ratio an_tell_squared_ratio : Option Addr} {sl_tell_squared_ratio : Array (Option Value)} {oc_tell_squared_ratio kV_tell_squared_ratio dc_tell_squared_ratio pm_tell_squared_ratio cd_tell_squared_ratio ct_tell_squared_ratio : Value}
    {f_fitted_at : Addr} {od_fitted_at an_fitted_at : Option Addr} {sl_fitted_at : Array (Option Value)} {oc_fitted_at kV_fitted_at dc_fitted_at pm_fitted_at cd_fitted_at ct_fitted_at : Value}
    {f_leverage_at : Addr} {od_leverage_at an_leverage_at : Option Addr} {sl_leverage_at : Array (Option Value)} {oc_leverage_at kV_leverage_at dc_leverage_at pm_leverage_at cd_leverage_at ct_leverage_at : Value}
    {f_tell_fitted : Addr} {od_tell_fitted an_tell_fitted : Option Addr} {sl_tell_fitted : Array (Option Value)} {oc_tell_fitted kV_tell_fitted dc_tell_fitted pm_tell_fitted cd_tell_fitted ct_tell_fitted : Value}
    {f_tell_leverage : Addr} {od_tell_leverage an_tell_leverage : Option Addr} {sl_tell_leverage : Array (Option Value)} {oc_tell_leverage kV_tell_leverage dc_tell_leverage pm_tell_leverage cd_tell_leverage ct_tell_leverage : Value}
    {f_tell_deleted : Addr} {od_tell_deleted an_tell_deleted : Option Addr} {sl_tell_deleted : Array (Option Value)} {oc_tell_deleted kV_tell_deleted dc_tell_deleted pm_tell_deleted cd_tell_deleted ct_tell_deleted : Value}
    {f_tell_residual_sum : Addr} {od_tell_residual_sum an_tell_residual_sum : Option Addr} {sl_tell_residual_sum : Array (Option Value)} {oc_tell_residual_sum kV_tell_residual_sum dc_tell_residual_sum pm_tell_residual_sum cd_tell_residual_sum ct_tell_residual_sum : Value}
    {f_tell_variance : Addr} {od_tell_variance an_tell_variance : Option Addr} {sl_tell_variance : Array (Option Value)} {oc_tell_variance kV_tell_variance dc_tell_variance pm_tell_variance cd_tell_variance ct_tell_variance : Value}
    {f_terms_told : Addr} {od_terms_told an_terms_told : Option Addr} {sl_terms_told : Array (Option Value)} {oc_terms_told kV_terms_told dc_terms_told pm_terms_told cd_terms_told ct_terms_told : Value}
    {f_tell_sequential : Addr} {od_tell_sequential an_tell_sequential : Option Addr} {sl_tell_sequential : Array (Option Value)} {oc_tell_sequential kV_tell_sequential dc_tell_sequential pm_tell_sequential cd_tell_sequential ct_tell_sequential : Value}
    {f_tell_marginal : Addr} {od_tell_marginal an_tell_marginal : Option Addr} {sl_tell_marginal : Array (Option Value)} {oc_tell_marginal kV_tell_marginal dc_tell_marginal pm_tell_marginal cd_tell_marginal ct_tell_marginal : Value}
    {f_tell_f_ratio : Addr} {od_tell_f_ratio an_tell_f_ratio : Option Addr} {sl_tell_f_ratio : Array (Option Value)} {oc_tell_f_ratio kV_tell_f_ratio dc_tell_f_ratio pm_tell_f_ratio cd_tell_f_ratio ct_tell_f_ratio : Value}
    {f_tell_lack_of_fit : Addr} {od_tell_lack_of_fit an_tell_lack_of_fit : Option Addr} {sl_tell_lack_of_fit : Array (Option Value)} {oc_tell_lack_of_fit kV_tell_lack_of_fit dc_tell_lack_of_fit pm_tell_lack_of_fit cd_tell_lack_of_fit ct_tell_lack_of_fit : Value}
    {f_tell_predict : Addr} {od_tell_predict an_tell_predict : Option Addr} {sl_tell_predict : Array (Option Value)} {oc_tell_predict kV_tell_predict dc_tell_predict pm_tell_predict cd_tell_predict ct_tell_predict : Value}
    {f_model_without : Addr} {od_model_without an_model_without : Option Addr} {sl_model_without : Array (Option Value)} {oc_model_without kV_model_without dc_model_without pm_model_without cd_model_without ct_model_without : Value}
    {f_tell_lost_value : Addr} {od_tell_lost_value an_tell_lost_value : Option Addr} {sl_tell_lost_value : Array (Option Value)} {oc_tell_lost_value kV_tell_lost_value dc_tell_lost_value pm_tell_lost_value cd_tell_lost_value ct_tell_lost_value : Value}
    {f_tell_stationary : Addr} {od_tell_stationary an_tell_stationary : Option Addr} {sl_tell_stationary : Array (Option Value)} {oc_tell_stationary kV_tell_stationary dc_tell_stationary pm_tell_stationary cd_tell_stationary ct_tell_stationary : Value}
    {f_create : Addr} {od_create an_create : Option Addr} {sl_create : Array (Option Value)} {oc_create kV_create dc_create pm_create cd_create ct_create : Value}
    {f_add_row : Addr} {od_add_row an_add_row : Option Addr} {sl_add_row : Array (Option Value)} {oc_add_row kV_add_row dc_add_row pm_add_row cd_add_row ct_add_row : Value}
    {f_remove_row : Addr} {od_remove_row an_remove_row : Option Addr} {sl_remove_row : Array (Option Value)} {oc_remove_row kV_remove_row dc_remove_row pm_remove_row cd_remove_row ct_remove_row : Value}
    {f_set_response : Addr} {od_set_response an_set_response : Option Addr} {sl_set_response : Array (Option Value)} {oc_set_response kV_set_response dc_set_response pm_set_response cd_set_response ct_set_response : Value}
    {f_set_terms : Addr} {od_set_terms an_set_terms : Option Addr} {sl_set_terms : Array (Option Value)} {oc_set_terms kV_set_terms dc_set_terms pm_set_terms cd_set_terms ct_set_terms : Value}
    {f_clear_rows : Addr} {od_clear_rows an_clear_rows : Option Addr} {sl_clear_rows : Array (Option Value)} {oc_clear_rows kV_clear_rows dc_clear_rows pm_clear_rows cd_clear_rows ct_clear_rows : Value}
    {f_get_row : Addr} {od_get_row an_get_row : Option Addr} {sl_get_row : Array (Option Value)} {oc_get_row kV_get_row dc_get_row pm_get_row cd_get_row ct_get_row : Value}
    {f_normal_equations : Addr} {od_normal_equations an_normal_equations : Option Addr} {sl_normal_equations : Array (Option Value)} {oc_normal_equations kV_normal_equations dc_normal_equations pm_normal_equations cd_normal_equations ct_normal_equations : Value}
    {f_summary : Addr} {od_summary an_summary : Option Addr} {sl_summary : Array (Option Value)} {oc_summary kV_summary dc_summary pm_summary cd_summary ct_summary : Value}
    {f_lists_at : Addr} {od_lists_at an_lists_at : Option Addr} {sl_lists_at : Array (Option Value)} {oc_lists_at kV_lists_at dc_lists_at pm_lists_at cd_lists_at ct_lists_at : Value}
    {f_answer : Addr} {od_answer an_answer : Option Addr} {sl_answer : Array (Option Value)} {oc_answer kV_answer dc_answer pm_answer cd_answer ct_answer : Value}
    {f_answers : Addr} {od_answers an_answers : Option Addr} {sl_answers : Array (Option Value)} {oc_answers kV_answers dc_answers pm_answers cd_answers ct_answers : Value}
    {t_CREATE : Nat}
    {t_FULL : Nat}
    {t_GREATEST : Nat}
    {t_MAXIMUM : Nat}
    {t_MINIMUM : Nat}
    {t_MOST_COLUMNS : Nat}
    {t_MOST_ENTRY : Nat}
    {t_MOST_ROWS : Nat}
    {t_MOST_VARIABLES : Nat}
    {t_NO_MODEL : Nat}
    {t_NO_RESULT : Nat}
    {t_NO_SUCH : Nat}
    {t_OUT_OF_RANGE : Nat}
    {t_SADDLE : Nat}
    {r_ONE : Addr} {ro_ONE : Option Addr} {rs_ONE : Array (Option Value)} {ri_ONE : Array Value} {rn_ONE : Nat}
    {r_ZERO : Addr} {ro_ZERO : Option Addr} {rs_ZERO : Array (Option Value)} {ri_ZERO : Array Value} {rn_ZERO : Nat}
    {r_NUMBERS : Addr} {ro_NUMBERS : Option Addr} {rs_NUMBERS : Array (Option Value)} {ri_NUMBERS : Array Value} {rn_NUMBERS : Nat}
    {r_LISTS : Addr} {ro_LISTS : Option Addr} {rs_LISTS : Array (Option Value)} {ri_LISTS : Array Value} {rn_LISTS : Nat}
    {r_DEEDS : Addr} {ro_DEEDS : Option Addr} {rs_DEEDS : Array (Option Value)} {ri_DEEDS : Array Value} {rn_DEEDS : Nat}
    {cM fcM : Addr} {odcM ancM : Option Addr} {slcM : Array (Option Value)} {occM kVcM dccM pmcM cdcM ctcM : Value}
    {cD fcD : Addr} {odcD ancD : Option Addr} {slcD : Array (Option Value)} {occD kVcD dccD pmcD cdcD ctcD : Value}
    (n_is_within : PySem.W.nsIn K mainGlobals "is_within" = some (some (.ref f_is_within)))
    (l_is_within : K.lookup f_is_within = some ⟨oc_is_within, od_is_within, .func (PySem.W.fnOf "is_within" "is_within" (defArgs (top 11)) (defBody (top 11)) (defScope (top 11)) .none kV_is_within dc_is_within pm_is_within an_is_within cd_is_within ct_is_within), sl_is_within⟩)
    (c_is_within : PySem.W.codeIn K cd_is_within "is_within" = true)
    (k_is_within : PySem.W.keepIn K (.ref f_is_within) = true)
    (n_are_within : PySem.W.nsIn K mainGlobals "are_within" = some (some (.ref f_are_within)))
    (l_are_within : K.lookup f_are_within = some ⟨oc_are_within, od_are_within, .func (PySem.W.fnOf "are_within" "are_within" (defArgs (top 12)) (defBody (top 12)) (defScope (top 12)) .none kV_are_within dc_are_within pm_are_within an_are_within cd_are_within ct_are_within), sl_are_within⟩)
    (c_are_within : PySem.W.codeIn K cd_are_within "are_within" = true)
    (k_are_within : PySem.W.keepIn K (.ref f_are_within) = true)
    (n_is_vector : PySem.W.nsIn K mainGlobals "is_vector" = some (some (.ref f_is_vector)))
    (l_is_vector : K.lookup f_is_vector = some ⟨oc_is_vector, od_is_vector, .func (PySem.W.fnOf "is_vector" "is_vector" (defArgs (top 13)) (defBody (top 13)) (defScope (top 13)) .none kV_is_vector dc_is_vector pm_is_vector an_is_vector cd_is_vector ct_is_vector), sl_is_vector⟩)
    (c_is_vector : PySem.W.codeIn K cd_is_vector "is_vector" = true)
    (k_is_vector : PySem.W.keepIn K (.ref f_is_vector) = true)
    (n_is_index : PySem.W.nsIn K mainGlobals "is_index" = some (some (.ref f_is_index)))
    (l_is_index : K.lookup f_is_index = some ⟨oc_is_index, od_is_index, .func (PySem.W.fnOf "is_index" "is_index" (defArgs (top 14)) (defBody (top 14)) (defScope (top 14)) .none kV_is_index dc_is_index pm_is_index an_is_index cd_is_index ct_is_index), sl_is_index⟩)
    (c_is_index : PySem.W.codeIn K cd_is_index "is_index" = true)
    (k_is_index : PySem.W.keepIn K (.ref f_is_index) = true)
    (n_are_terms : PySem.W.nsIn K mainGlobals "are_terms" = some (some (.ref f_are_terms)))
    (l_are_terms : K.lookup f_are_terms = some ⟨oc_are_terms, od_are_terms, .func (PySem.W.fnOf "are_terms" "are_terms" (defArgs (top 15)) (defBody (top 15)) (defScope (top 15)) .none kV_are_terms dc_are_terms pm_are_terms an_are_terms cd_are_terms ct_are_terms), sl_are_terms⟩)
    (c_are_terms : PySem.W.codeIn K cd_are_terms "are_terms" = true)
    (k_are_terms : PySem.W.keepIn K (.ref f_are_terms) = true)
    (n_is_surface : PySem.W.nsIn K mainGlobals "is_surface" = some (some (.ref f_is_surface)))
    (l_is_surface : K.lookup f_is_surface = some ⟨oc_is_surface, od_is_surface, .func (PySem.W.fnOf "is_surface" "is_surface" (defArgs (top 16)) (defBody (top 16)) (defScope (top 16)) .none kV_is_surface dc_is_surface pm_is_surface an_is_surface cd_is_surface ct_is_surface), sl_is_surface⟩)
    (c_is_surface : PySem.W.codeIn K cd_is_surface "is_surface" = true)
    (k_is_surface : PySem.W.keepIn K (.ref f_is_surface) = true)
    (n_common : PySem.W.nsIn K mainGlobals "common" = some (some (.ref f_common)))
    (l_common : K.lookup f_common = some ⟨oc_common, od_common, .func (PySem.W.fnOf "common" "common" (defArgs (top 20)) (defBody (top 20)) (defScope (top 20)) .none kV_common dc_common pm_common an_common cd_common ct_common), sl_common⟩)
    (c_common : PySem.W.codeIn K cd_common "common" = true)
    (k_common : PySem.W.keepIn K (.ref f_common) = true)
    (n_multiple : PySem.W.nsIn K mainGlobals "multiple" = some (some (.ref f_multiple)))
    (l_multiple : K.lookup f_multiple = some ⟨oc_multiple, od_multiple, .func (PySem.W.fnOf "multiple" "multiple" (defArgs (top 21)) (defBody (top 21)) (defScope (top 21)) .none kV_multiple dc_multiple pm_multiple an_multiple cd_multiple ct_multiple), sl_multiple⟩)
    (c_multiple : PySem.W.codeIn K cd_multiple "multiple" = true)
    (k_multiple : PySem.W.keepIn K (.ref f_multiple) = true)
    (n_ratio : PySem.W.nsIn K mainGlobals "ratio" = some (some (.ref f_ratio)))
    (l_ratio : K.lookup f_ratio = some ⟨oc_ratio, od_ratio, .func (PySem.W.fnOf "ratio" "ratio" (defArgs (top 22)) (defBody (top 22)) (defScope (top 22)) .none kV_ratio dc_ratio pm_ratio an_ratio cd_ratio ct_ratio), sl_ratio⟩)
    (c_ratio : PySem.W.codeIn K cd_ratio "ratio" = true)
    (k_ratio : PySem.W.keepIn K (.ref f_ratio) = true)
    (n_plus : PySem.W.nsIn K mainGlobals "plus" = some (some (.ref f_plus)))
    (l_plus : K.lookup f_plus = some ⟨oc_plus, od_plus, .func (PySem.W.fnOf "plus" "plus" (defArgs (top 23)) (defBody (top 23)) (defScope (top 23)) .none kV_plus dc_plus pm_plus an_plus cd_plus ct_plus), sl_plus⟩)
    (c_plus : PySem.W.codeIn K cd_plus "plus" = true)
    (k_plus : PySem.W.keepIn K (.ref f_plus) = true)
    (n_minus : PySem.W.nsIn K mainGlobals "minus" = some (some (.ref f_minus)))
    (l_minus : K.lookup f_minus = some ⟨oc_minus, od_minus, .func (PySem.W.fnOf "minus" "minus" (defArgs (top 24)) (defBody (top 24)) (defScope (top 24)) .none kV_minus dc_minus pm_minus an_minus cd_minus ct_minus), sl_minus⟩)
    (c_minus : PySem.W.codeIn K cd_minus "minus" = true)
    (k_minus : PySem.W.keepIn K (.ref f_minus) = true)
    (n_times : PySem.W.nsIn K mainGlobals "times" = some (some (.ref f_times)))
    (l_times : K.lookup f_times = some ⟨oc_times, od_times, .func (PySem.W.fnOf "times" "times" (defArgs (top 25)) (defBody (top 25)) (defScope (top 25)) .none kV_times dc_times pm_times an_times cd_times ct_times), sl_times⟩)
    (c_times : PySem.W.codeIn K cd_times "times" = true)
    (k_times : PySem.W.keepIn K (.ref f_times) = true)
    (n_over : PySem.W.nsIn K mainGlobals "over" = some (some (.ref f_over)))
    (l_over : K.lookup f_over = some ⟨oc_over, od_over, .func (PySem.W.fnOf "over" "over" (defArgs (top 26)) (defBody (top 26)) (defScope (top 26)) .none kV_over dc_over pm_over an_over cd_over ct_over), sl_over⟩)
    (c_over : PySem.W.codeIn K cd_over "over" = true)
    (k_over : PySem.W.keepIn K (.ref f_over) = true)
    (n_square : PySem.W.nsIn K mainGlobals "square" = some (some (.ref f_square)))
    (l_square : K.lookup f_square = some ⟨oc_square, od_square, .func (PySem.W.fnOf "square" "square" (defArgs (top 27)) (defBody (top 27)) (defScope (top 27)) .none kV_square dc_square pm_square an_square cd_square ct_square), sl_square⟩)
    (c_square : PySem.W.codeIn K cd_square "square" = true)
    (k_square : PySem.W.keepIn K (.ref f_square) = true)
    (n_term_count : PySem.W.nsIn K mainGlobals "term_count" = some (some (.ref f_term_count)))
    (l_term_count : K.lookup f_term_count = some ⟨oc_term_count, od_term_count, .func (PySem.W.fnOf "term_count" "term_count" (defArgs (top 31)) (defBody (top 31)) (defScope (top 31)) .none kV_term_count dc_term_count pm_term_count an_term_count cd_term_count ct_term_count), sl_term_count⟩)
    (c_term_count : PySem.W.codeIn K cd_term_count "term_count" = true)
    (k_term_count : PySem.W.keepIn K (.ref f_term_count) = true)
    (n_responses_of : PySem.W.nsIn K mainGlobals "responses_of" = some (some (.ref f_responses_of)))
    (l_responses_of : K.lookup f_responses_of = some ⟨oc_responses_of, od_responses_of, .func (PySem.W.fnOf "responses_of" "responses_of" (defArgs (top 32)) (defBody (top 32)) (defScope (top 32)) .none kV_responses_of dc_responses_of pm_responses_of an_responses_of cd_responses_of ct_responses_of), sl_responses_of⟩)
    (c_responses_of : PySem.W.codeIn K cd_responses_of "responses_of" = true)
    (k_responses_of : PySem.W.keepIn K (.ref f_responses_of) = true)
    (n_entries_of : PySem.W.nsIn K mainGlobals "entries_of" = some (some (.ref f_entries_of)))
    (l_entries_of : K.lookup f_entries_of = some ⟨oc_entries_of, od_entries_of, .func (PySem.W.fnOf "entries_of" "entries_of" (defArgs (top 33)) (defBody (top 33)) (defScope (top 33)) .none kV_entries_of dc_entries_of pm_entries_of an_entries_of cd_entries_of ct_entries_of), sl_entries_of⟩)
    (c_entries_of : PySem.W.codeIn K cd_entries_of "entries_of" = true)
    (k_entries_of : PySem.W.keepIn K (.ref f_entries_of) = true)
    (n_entries_at : PySem.W.nsIn K mainGlobals "entries_at" = some (some (.ref f_entries_at)))
    (l_entries_at : K.lookup f_entries_at = some ⟨oc_entries_at, od_entries_at, .func (PySem.W.fnOf "entries_at" "entries_at" (defArgs (top 34)) (defBody (top 34)) (defScope (top 34)) .none kV_entries_at dc_entries_at pm_entries_at an_entries_at cd_entries_at ct_entries_at), sl_entries_at⟩)
    (c_entries_at : PySem.W.codeIn K cd_entries_at "entries_at" = true)
    (k_entries_at : PySem.W.keepIn K (.ref f_entries_at) = true)
    (n_places_below : PySem.W.nsIn K mainGlobals "places_below" = some (some (.ref f_places_below)))
    (l_places_below : K.lookup f_places_below = some ⟨oc_places_below, od_places_below, .func (PySem.W.fnOf "places_below" "places_below" (defArgs (top 35)) (defBody (top 35)) (defScope (top 35)) .none kV_places_below dc_places_below pm_places_below an_places_below cd_places_below ct_places_below), sl_places_below⟩)
    (c_places_below : PySem.W.codeIn K cd_places_below "places_below" = true)
    (k_places_below : PySem.W.keepIn K (.ref f_places_below) = true)
    (n_places_beside : PySem.W.nsIn K mainGlobals "places_beside" = some (some (.ref f_places_beside)))
    (l_places_beside : K.lookup f_places_beside = some ⟨oc_places_beside, od_places_beside, .func (PySem.W.fnOf "places_beside" "places_beside" (defArgs (top 36)) (defBody (top 36)) (defScope (top 36)) .none kV_places_beside dc_places_beside pm_places_beside an_places_beside cd_places_beside ct_places_beside), sl_places_beside⟩)
    (c_places_beside : PySem.W.codeIn K cd_places_beside "places_beside" = true)
    (k_places_beside : PySem.W.keepIn K (.ref f_places_beside) = true)
    (n_lowered : PySem.W.nsIn K mainGlobals "lowered" = some (some (.ref f_lowered)))
    (l_lowered : K.lookup f_lowered = some ⟨oc_lowered, od_lowered, .func (PySem.W.fnOf "lowered" "lowered" (defArgs (top 38)) (defBody (top 38)) (defScope (top 38)) .none kV_lowered dc_lowered pm_lowered an_lowered cd_lowered ct_lowered), sl_lowered⟩)
    (c_lowered : PySem.W.codeIn K cd_lowered "lowered" = true)
    (k_lowered : PySem.W.keepIn K (.ref f_lowered) = true)
    (n_cleared : PySem.W.nsIn K mainGlobals "cleared" = some (some (.ref f_cleared)))
    (l_cleared : K.lookup f_cleared = some ⟨oc_cleared, od_cleared, .func (PySem.W.fnOf "cleared" "cleared" (defArgs (top 39)) (defBody (top 39)) (defScope (top 39)) .none kV_cleared dc_cleared pm_cleared an_cleared cd_cleared ct_cleared), sl_cleared⟩)
    (c_cleared : PySem.W.codeIn K cd_cleared "cleared" = true)
    (k_cleared : PySem.W.keepIn K (.ref f_cleared) = true)
    (n_first_with : PySem.W.nsIn K mainGlobals "first_with" = some (some (.ref f_first_with)))
    (l_first_with : K.lookup f_first_with = some ⟨oc_first_with, od_first_with, .func (PySem.W.fnOf "first_with" "first_with" (defArgs (top 40)) (defBody (top 40)) (defScope (top 40)) .none kV_first_with dc_first_with pm_first_with an_first_with cd_first_with ct_first_with), sl_first_with⟩)
    (c_first_with : PySem.W.codeIn K cd_first_with "first_with" = true)
    (k_first_with : PySem.W.keepIn K (.ref f_first_with) = true)
    (n_without : PySem.W.nsIn K mainGlobals "without" = some (some (.ref f_without)))
    (l_without : K.lookup f_without = some ⟨oc_without, od_without, .func (PySem.W.fnOf "without" "without" (defArgs (top 41)) (defBody (top 41)) (defScope (top 41)) .none kV_without dc_without pm_without an_without cd_without ct_without), sl_without⟩)
    (c_without : PySem.W.codeIn K cd_without "without" = true)
    (k_without : PySem.W.keepIn K (.ref f_without) = true)
    (n_rank_of : PySem.W.nsIn K mainGlobals "rank_of" = some (some (.ref f_rank_of)))
    (l_rank_of : K.lookup f_rank_of = some ⟨oc_rank_of, od_rank_of, .func (PySem.W.fnOf "rank_of" "rank_of" (defArgs (top 42)) (defBody (top 42)) (defScope (top 42)) .none kV_rank_of dc_rank_of pm_rank_of an_rank_of cd_rank_of ct_rank_of), sl_rank_of⟩)
    (c_rank_of : PySem.W.codeIn K cd_rank_of "rank_of" = true)
    (k_rank_of : PySem.W.keepIn K (.ref f_rank_of) = true)
    (n_leads_of : PySem.W.nsIn K mainGlobals "leads_of" = some (some (.ref f_leads_of)))
    (l_leads_of : K.lookup f_leads_of = some ⟨oc_leads_of, od_leads_of, .func (PySem.W.fnOf "leads_of" "leads_of" (defArgs (top 43)) (defBody (top 43)) (defScope (top 43)) .none kV_leads_of dc_leads_of pm_leads_of an_leads_of cd_leads_of ct_leads_of), sl_leads_of⟩)
    (c_leads_of : PySem.W.codeIn K cd_leads_of "leads_of" = true)
    (k_leads_of : PySem.W.keepIn K (.ref f_leads_of) = true)
    (n_solved : PySem.W.nsIn K mainGlobals "solved" = some (some (.ref f_solved)))
    (l_solved : K.lookup f_solved = some ⟨oc_solved, od_solved, .func (PySem.W.fnOf "solved" "solved" (defArgs (top 44)) (defBody (top 44)) (defScope (top 44)) .none kV_solved dc_solved pm_solved an_solved cd_solved ct_solved), sl_solved⟩)
    (c_solved : PySem.W.codeIn K cd_solved "solved" = true)
    (k_solved : PySem.W.keepIn K (.ref f_solved) = true)
    (n_product : PySem.W.nsIn K mainGlobals "product" = some (some (.ref f_product)))
    (l_product : K.lookup f_product = some ⟨oc_product, od_product, .func (PySem.W.fnOf "product" "product" (defArgs (top 46)) (defBody (top 46)) (defScope (top 46)) .none kV_product dc_product pm_product an_product cd_product ct_product), sl_product⟩)
    (c_product : PySem.W.codeIn K cd_product "product" = true)
    (k_product : PySem.W.keepIn K (.ref f_product) = true)
    (n_column : PySem.W.nsIn K mainGlobals "column" = some (some (.ref f_column)))
    (l_column : K.lookup f_column = some ⟨oc_column, od_column, .func (PySem.W.fnOf "column" "column" (defArgs (top 47)) (defBody (top 47)) (defScope (top 47)) .none kV_column dc_column pm_column an_column cd_column ct_column), sl_column⟩)
    (c_column : PySem.W.codeIn K cd_column "column" = true)
    (k_column : PySem.W.keepIn K (.ref f_column) = true)
    (n_products : PySem.W.nsIn K mainGlobals "products" = some (some (.ref f_products)))
    (l_products : K.lookup f_products = some ⟨oc_products, od_products, .func (PySem.W.fnOf "products" "products" (defArgs (top 48)) (defBody (top 48)) (defScope (top 48)) .none kV_products dc_products pm_products an_products cd_products ct_products), sl_products⟩)
    (c_products : PySem.W.codeIn K cd_products "products" = true)
    (k_products : PySem.W.keepIn K (.ref f_products) = true)
    (n_right_sides : PySem.W.nsIn K mainGlobals "right_sides" = some (some (.ref f_right_sides)))
    (l_right_sides : K.lookup f_right_sides = some ⟨oc_right_sides, od_right_sides, .func (PySem.W.fnOf "right_sides" "right_sides" (defArgs (top 49)) (defBody (top 49)) (defScope (top 49)) .none kV_right_sides dc_right_sides pm_right_sides an_right_sides cd_right_sides ct_right_sides), sl_right_sides⟩)
    (c_right_sides : PySem.W.codeIn K cd_right_sides "right_sides" = true)
    (k_right_sides : PySem.W.keepIn K (.ref f_right_sides) = true)
    (n_solved_for : PySem.W.nsIn K mainGlobals "solved_for" = some (some (.ref f_solved_for)))
    (l_solved_for : K.lookup f_solved_for = some ⟨oc_solved_for, od_solved_for, .func (PySem.W.fnOf "solved_for" "solved_for" (defArgs (top 50)) (defBody (top 50)) (defScope (top 50)) .none kV_solved_for dc_solved_for pm_solved_for an_solved_for cd_solved_for ct_solved_for), sl_solved_for⟩)
    (c_solved_for : PySem.W.codeIn K cd_solved_for "solved_for" = true)
    (k_solved_for : PySem.W.keepIn K (.ref f_solved_for) = true)
    (n_best_fit : PySem.W.nsIn K mainGlobals "best_fit" = some (some (.ref f_best_fit)))
    (l_best_fit : K.lookup f_best_fit = some ⟨oc_best_fit, od_best_fit, .func (PySem.W.fnOf "best_fit" "best_fit" (defArgs (top 51)) (defBody (top 51)) (defScope (top 51)) .none kV_best_fit dc_best_fit pm_best_fit an_best_fit cd_best_fit ct_best_fit), sl_best_fit⟩)
    (c_best_fit : PySem.W.codeIn K cd_best_fit "best_fit" = true)
    (k_best_fit : PySem.W.keepIn K (.ref f_best_fit) = true)
    (n_weighed : PySem.W.nsIn K mainGlobals "weighed" = some (some (.ref f_weighed)))
    (l_weighed : K.lookup f_weighed = some ⟨oc_weighed, od_weighed, .func (PySem.W.fnOf "weighed" "weighed" (defArgs (top 52)) (defBody (top 52)) (defScope (top 52)) .none kV_weighed dc_weighed pm_weighed an_weighed cd_weighed ct_weighed), sl_weighed⟩)
    (c_weighed : PySem.W.codeIn K cd_weighed "weighed" = true)
    (k_weighed : PySem.W.keepIn K (.ref f_weighed) = true)
    (n_residual_sum_of : PySem.W.nsIn K mainGlobals "residual_sum_of" = some (some (.ref f_residual_sum_of)))
    (l_residual_sum_of : K.lookup f_residual_sum_of = some ⟨oc_residual_sum_of, od_residual_sum_of, .func (PySem.W.fnOf "residual_sum_of" "residual_sum_of" (defArgs (top 53)) (defBody (top 53)) (defScope (top 53)) .none kV_residual_sum_of dc_residual_sum_of pm_residual_sum_of an_residual_sum_of cd_residual_sum_of ct_residual_sum_of), sl_residual_sum_of⟩)
    (c_residual_sum_of : PySem.W.codeIn K cd_residual_sum_of "residual_sum_of" = true)
    (k_residual_sum_of : PySem.W.keepIn K (.ref f_residual_sum_of) = true)
    (n_pairs_of : PySem.W.nsIn K mainGlobals "pairs_of" = some (some (.ref f_pairs_of)))
    (l_pairs_of : K.lookup f_pairs_of = some ⟨oc_pairs_of, od_pairs_of, .func (PySem.W.fnOf "pairs_of" "pairs_of" (defArgs (top 58)) (defBody (top 58)) (defScope (top 58)) .none kV_pairs_of dc_pairs_of pm_pairs_of an_pairs_of cd_pairs_of ct_pairs_of), sl_pairs_of⟩)
    (c_pairs_of : PySem.W.codeIn K cd_pairs_of "pairs_of" = true)
    (k_pairs_of : PySem.W.keepIn K (.ref f_pairs_of) = true)
    (n_hessian : PySem.W.nsIn K mainGlobals "hessian" = some (some (.ref f_hessian)))
    (l_hessian : K.lookup f_hessian = some ⟨oc_hessian, od_hessian, .func (PySem.W.fnOf "hessian" "hessian" (defArgs (top 59)) (defBody (top 59)) (defScope (top 59)) .none kV_hessian dc_hessian pm_hessian an_hessian cd_hessian ct_hessian), sl_hessian⟩)
    (c_hessian : PySem.W.codeIn K cd_hessian "hessian" = true)
    (k_hessian : PySem.W.keepIn K (.ref f_hessian) = true)
    (n_determinant : PySem.W.nsIn K mainGlobals "determinant" = some (some (.ref f_determinant)))
    (l_determinant : K.lookup f_determinant = some ⟨oc_determinant, od_determinant, .func (PySem.W.fnOf "determinant" "determinant" (defArgs (top 60)) (defBody (top 60)) (defScope (top 60)) .none kV_determinant dc_determinant pm_determinant an_determinant cd_determinant ct_determinant), sl_determinant⟩)
    (c_determinant : PySem.W.codeIn K cd_determinant "determinant" = true)
    (k_determinant : PySem.W.keepIn K (.ref f_determinant) = true)
    (n_leading_minors : PySem.W.nsIn K mainGlobals "leading_minors" = some (some (.ref f_leading_minors)))
    (l_leading_minors : K.lookup f_leading_minors = some ⟨oc_leading_minors, od_leading_minors, .func (PySem.W.fnOf "leading_minors" "leading_minors" (defArgs (top 61)) (defBody (top 61)) (defScope (top 61)) .none kV_leading_minors dc_leading_minors pm_leading_minors an_leading_minors cd_leading_minors ct_leading_minors), sl_leading_minors⟩)
    (c_leading_minors : PySem.W.codeIn K cd_leading_minors "leading_minors" = true)
    (k_leading_minors : PySem.W.keepIn K (.ref f_leading_minors) = true)
    (n_is_turned : PySem.W.nsIn K mainGlobals "is_turned" = some (some (.ref f_is_turned)))
    (l_is_turned : K.lookup f_is_turned = some ⟨oc_is_turned, od_is_turned, .func (PySem.W.fnOf "is_turned" "is_turned" (defArgs (top 62)) (defBody (top 62)) (defScope (top 62)) .none kV_is_turned dc_is_turned pm_is_turned an_is_turned cd_is_turned ct_is_turned), sl_is_turned⟩)
    (c_is_turned : PySem.W.codeIn K cd_is_turned "is_turned" = true)
    (k_is_turned : PySem.W.keepIn K (.ref f_is_turned) = true)
    (n_kind_of : PySem.W.nsIn K mainGlobals "kind_of" = some (some (.ref f_kind_of)))
    (l_kind_of : K.lookup f_kind_of = some ⟨oc_kind_of, od_kind_of, .func (PySem.W.fnOf "kind_of" "kind_of" (defArgs (top 63)) (defBody (top 63)) (defScope (top 63)) .none kV_kind_of dc_kind_of pm_kind_of an_kind_of cd_kind_of ct_kind_of), sl_kind_of⟩)
    (c_kind_of : PySem.W.codeIn K cd_kind_of "kind_of" = true)
    (k_kind_of : PySem.W.keepIn K (.ref f_kind_of) = true)
    (n_point_of : PySem.W.nsIn K mainGlobals "point_of" = some (some (.ref f_point_of)))
    (l_point_of : K.lookup f_point_of = some ⟨oc_point_of, od_point_of, .func (PySem.W.fnOf "point_of" "point_of" (defArgs (top 64)) (defBody (top 64)) (defScope (top 64)) .none kV_point_of dc_point_of pm_point_of an_point_of cd_point_of ct_point_of), sl_point_of⟩)
    (c_point_of : PySem.W.codeIn K cd_point_of "point_of" = true)
    (k_point_of : PySem.W.keepIn K (.ref f_point_of) = true)
    (n_value_at : PySem.W.nsIn K mainGlobals "value_at" = some (some (.ref f_value_at)))
    (l_value_at : K.lookup f_value_at = some ⟨oc_value_at, od_value_at, .func (PySem.W.fnOf "value_at" "value_at" (defArgs (top 65)) (defBody (top 65)) (defScope (top 65)) .none kV_value_at dc_value_at pm_value_at an_value_at cd_value_at ct_value_at), sl_value_at⟩)
    (c_value_at : PySem.W.codeIn K cd_value_at "value_at" = true)
    (k_value_at : PySem.W.keepIn K (.ref f_value_at) = true)
    (n_rank : PySem.W.nsIn K mainGlobals "rank" = some (some (.ref f_rank)))
    (l_rank : K.lookup f_rank = some ⟨oc_rank, od_rank, .func (PySem.W.fnOf "rank" "rank" (defArgs (top 67)) (defBody (top 67)) (defScope (top 67)) .none kV_rank dc_rank pm_rank an_rank cd_rank ct_rank), sl_rank⟩)
    (c_rank : PySem.W.codeIn K cd_rank "rank" = true)
    (k_rank : PySem.W.keepIn K (.ref f_rank) = true)
    (n_freedom : PySem.W.nsIn K mainGlobals "freedom" = some (some (.ref f_freedom)))
    (l_freedom : K.lookup f_freedom = some ⟨oc_freedom, od_freedom, .func (PySem.W.fnOf "freedom" "freedom" (defArgs (top 68)) (defBody (top 68)) (defScope (top 68)) .none kV_freedom dc_freedom pm_freedom an_freedom cd_freedom ct_freedom), sl_freedom⟩)
    (c_freedom : PySem.W.codeIn K cd_freedom "freedom" = true)
    (k_freedom : PySem.W.keepIn K (.ref f_freedom) = true)
    (n_solution : PySem.W.nsIn K mainGlobals "solution" = some (some (.ref f_solution)))
    (l_solution : K.lookup f_solution = some ⟨oc_solution, od_solution, .func (PySem.W.fnOf "solution" "solution" (defArgs (top 69)) (defBody (top 69)) (defScope (top 69)) .none kV_solution dc_solution pm_solution an_solution cd_solution ct_solution), sl_solution⟩)
    (c_solution : PySem.W.codeIn K cd_solution "solution" = true)
    (k_solution : PySem.W.keepIn K (.ref f_solution) = true)
    (n_estimate_of : PySem.W.nsIn K mainGlobals "estimate_of" = some (some (.ref f_estimate_of)))
    (l_estimate_of : K.lookup f_estimate_of = some ⟨oc_estimate_of, od_estimate_of, .func (PySem.W.fnOf "estimate_of" "estimate_of" (defArgs (top 70)) (defBody (top 70)) (defScope (top 70)) .none kV_estimate_of dc_estimate_of pm_estimate_of an_estimate_of cd_estimate_of ct_estimate_of), sl_estimate_of⟩)
    (c_estimate_of : PySem.W.codeIn K cd_estimate_of "estimate_of" = true)
    (k_estimate_of : PySem.W.keepIn K (.ref f_estimate_of) = true)
    (n_factor_of : PySem.W.nsIn K mainGlobals "factor_of" = some (some (.ref f_factor_of)))
    (l_factor_of : K.lookup f_factor_of = some ⟨oc_factor_of, od_factor_of, .func (PySem.W.fnOf "factor_of" "factor_of" (defArgs (top 71)) (defBody (top 71)) (defScope (top 71)) .none kV_factor_of dc_factor_of pm_factor_of an_factor_of cd_factor_of ct_factor_of), sl_factor_of⟩)
    (c_factor_of : PySem.W.codeIn K cd_factor_of "factor_of" = true)
    (k_factor_of : PySem.W.keepIn K (.ref f_factor_of) = true)
    (n_is_estimable : PySem.W.nsIn K mainGlobals "is_estimable" = some (some (.ref f_is_estimable)))
    (l_is_estimable : K.lookup f_is_estimable = some ⟨oc_is_estimable, od_is_estimable, .func (PySem.W.fnOf "is_estimable" "is_estimable" (defArgs (top 72)) (defBody (top 72)) (defScope (top 72)) .none kV_is_estimable dc_is_estimable pm_is_estimable an_is_estimable cd_is_estimable ct_is_estimable), sl_is_estimable⟩)
    (c_is_estimable : PySem.W.codeIn K cd_is_estimable "is_estimable" = true)
    (k_is_estimable : PySem.W.keepIn K (.ref f_is_estimable) = true)
    (n_residual_sum : PySem.W.nsIn K mainGlobals "residual_sum" = some (some (.ref f_residual_sum)))
    (l_residual_sum : K.lookup f_residual_sum = some ⟨oc_residual_sum, od_residual_sum, .func (PySem.W.fnOf "residual_sum" "residual_sum" (defArgs (top 73)) (defBody (top 73)) (defScope (top 73)) .none kV_residual_sum dc_residual_sum pm_residual_sum an_residual_sum cd_residual_sum ct_residual_sum), sl_residual_sum⟩)
    (c_residual_sum : PySem.W.codeIn K cd_residual_sum "residual_sum" = true)
    (k_residual_sum : PySem.W.keepIn K (.ref f_residual_sum) = true)
    (n_variance_of : PySem.W.nsIn K mainGlobals "variance_of" = some (some (.ref f_variance_of)))
    (l_variance_of : K.lookup f_variance_of = some ⟨oc_variance_of, od_variance_of, .func (PySem.W.fnOf "variance_of" "variance_of" (defArgs (top 74)) (defBody (top 74)) (defScope (top 74)) .none kV_variance_of dc_variance_of pm_variance_of an_variance_of cd_variance_of ct_variance_of), sl_variance_of⟩)
    (c_variance_of : PySem.W.codeIn K cd_variance_of "variance_of" = true)
    (k_variance_of : PySem.W.keepIn K (.ref f_variance_of) = true)
    (n_looked_at : PySem.W.nsIn K mainGlobals "looked_at" = some (some (.ref f_looked_at)))
    (l_looked_at : K.lookup f_looked_at = some ⟨oc_looked_at, od_looked_at, .func (PySem.W.fnOf "looked_at" "looked_at" (defArgs (top 75)) (defBody (top 75)) (defScope (top 75)) .none kV_looked_at dc_looked_at pm_looked_at an_looked_at cd_looked_at ct_looked_at), sl_looked_at⟩)
    (c_looked_at : PySem.W.codeIn K cd_looked_at "looked_at" = true)
    (k_looked_at : PySem.W.keepIn K (.ref f_looked_at) = true)
    (n_told_between : PySem.W.nsIn K mainGlobals "told_between" = some (some (.ref f_told_between)))
    (l_told_between : K.lookup f_told_between = some ⟨oc_told_between, od_told_between, .func (PySem.W.fnOf "told_between" "told_between" (defArgs (top 76)) (defBody (top 76)) (defScope (top 76)) .none kV_told_between dc_told_between pm_told_between an_told_between cd_told_between ct_told_between), sl_told_between⟩)
    (c_told_between : PySem.W.codeIn K cd_told_between "told_between" = true)
    (k_told_between : PySem.W.keepIn K (.ref f_told_between) = true)
    (n_sequential_of : PySem.W.nsIn K mainGlobals "sequential_of" = some (some (.ref f_sequential_of)))
    (l_sequential_of : K.lookup f_sequential_of = some ⟨oc_sequential_of, od_sequential_of, .func (PySem.W.fnOf "sequential_of" "sequential_of" (defArgs (top 77)) (defBody (top 77)) (defScope (top 77)) .none kV_sequential_of dc_sequential_of pm_sequential_of an_sequential_of cd_sequential_of ct_sequential_of), sl_sequential_of⟩)
    (c_sequential_of : PySem.W.codeIn K cd_sequential_of "sequential_of" = true)
    (k_sequential_of : PySem.W.keepIn K (.ref f_sequential_of) = true)
    (n_marginal_at : PySem.W.nsIn K mainGlobals "marginal_at" = some (some (.ref f_marginal_at)))
    (l_marginal_at : K.lookup f_marginal_at = some ⟨oc_marginal_at, od_marginal_at, .func (PySem.W.fnOf "marginal_at" "marginal_at" (defArgs (top 78)) (defBody (top 78)) (defScope (top 78)) .none kV_marginal_at dc_marginal_at pm_marginal_at an_marginal_at cd_marginal_at ct_marginal_at), sl_marginal_at⟩)
    (c_marginal_at : PySem.W.codeIn K cd_marginal_at "marginal_at" = true)
    (k_marginal_at : PySem.W.keepIn K (.ref f_marginal_at) = true)
    (n_marginal_of : PySem.W.nsIn K mainGlobals "marginal_of" = some (some (.ref f_marginal_of)))
    (l_marginal_of : K.lookup f_marginal_of = some ⟨oc_marginal_of, od_marginal_of, .func (PySem.W.fnOf "marginal_of" "marginal_of" (defArgs (top 79)) (defBody (top 79)) (defScope (top 79)) .none kV_marginal_of dc_marginal_of pm_marginal_of an_marginal_of cd_marginal_of ct_marginal_of), sl_marginal_of⟩)
    (c_marginal_of : PySem.W.codeIn K cd_marginal_of "marginal_of" = true)
    (k_marginal_of : PySem.W.keepIn K (.ref f_marginal_of) = true)
    (n_groups_of : PySem.W.nsIn K mainGlobals "groups_of" = some (some (.ref f_groups_of)))
    (l_groups_of : K.lookup f_groups_of = some ⟨oc_groups_of, od_groups_of, .func (PySem.W.fnOf "groups_of" "groups_of" (defArgs (top 80)) (defBody (top 80)) (defScope (top 80)) .none kV_groups_of dc_groups_of pm_groups_of an_groups_of cd_groups_of ct_groups_of), sl_groups_of⟩)
    (c_groups_of : PySem.W.codeIn K cd_groups_of "groups_of" = true)
    (k_groups_of : PySem.W.keepIn K (.ref f_groups_of) = true)
    (n_spread : PySem.W.nsIn K mainGlobals "spread" = some (some (.ref f_spread)))
    (l_spread : K.lookup f_spread = some ⟨oc_spread, od_spread, .func (PySem.W.fnOf "spread" "spread" (defArgs (top 81)) (defBody (top 81)) (defScope (top 81)) .none kV_spread dc_spread pm_spread an_spread cd_spread ct_spread), sl_spread⟩)
    (c_spread : PySem.W.codeIn K cd_spread "spread" = true)
    (k_spread : PySem.W.keepIn K (.ref f_spread) = true)
    (n_pure_error : PySem.W.nsIn K mainGlobals "pure_error" = some (some (.ref f_pure_error)))
    (l_pure_error : K.lookup f_pure_error = some ⟨oc_pure_error, od_pure_error, .func (PySem.W.fnOf "pure_error" "pure_error" (defArgs (top 82)) (defBody (top 82)) (defScope (top 82)) .none kV_pure_error dc_pure_error pm_pure_error an_pure_error cd_pure_error ct_pure_error), sl_pure_error⟩)
    (c_pure_error : PySem.W.codeIn K cd_pure_error "pure_error" = true)
    (k_pure_error : PySem.W.keepIn K (.ref f_pure_error) = true)
    (n_tell_rank : PySem.W.nsIn K mainGlobals "tell_rank" = some (some (.ref f_tell_rank)))
    (l_tell_rank : K.lookup f_tell_rank = some ⟨oc_tell_rank, od_tell_rank, .func (PySem.W.fnOf "tell_rank" "tell_rank" (defArgs (top 84)) (defBody (top 84)) (defScope (top 84)) .none kV_tell_rank dc_tell_rank pm_tell_rank an_tell_rank cd_tell_rank ct_tell_rank), sl_tell_rank⟩)
    (c_tell_rank : PySem.W.codeIn K cd_tell_rank "tell_rank" = true)
    (k_tell_rank : PySem.W.keepIn K (.ref f_tell_rank) = true)
    (n_tell_coefficients : PySem.W.nsIn K mainGlobals "tell_coefficients" = some (some (.ref f_tell_coefficients)))
    (l_tell_coefficients : K.lookup f_tell_coefficients = some ⟨oc_tell_coefficients, od_tell_coefficients, .func (PySem.W.fnOf "tell_coefficients" "tell_coefficients" (defArgs (top 85)) (defBody (top 85)) (defScope (top 85)) .none kV_tell_coefficients dc_tell_coefficients pm_tell_coefficients an_tell_coefficients cd_tell_coefficients ct_tell_coefficients), sl_tell_coefficients⟩)
    (c_tell_coefficients : PySem.W.codeIn K cd_tell_coefficients "tell_coefficients" = true)
    (k_tell_coefficients : PySem.W.keepIn K (.ref f_tell_coefficients) = true)
    (n_tell_estimate : PySem.W.nsIn K mainGlobals "tell_estimate" = some (some (.ref f_tell_estimate)))
    (l_tell_estimate : K.lookup f_tell_estimate = some ⟨oc_tell_estimate, od_tell_estimate, .func (PySem.W.fnOf "tell_estimate" "tell_estimate" (defArgs (top 86)) (defBody (top 86)) (defScope (top 86)) .none kV_tell_estimate dc_tell_estimate pm_tell_estimate an_tell_estimate cd_tell_estimate ct_tell_estimate), sl_tell_estimate⟩)
    (c_tell_estimate : PySem.W.codeIn K cd_tell_estimate "tell_estimate" = true)
    (k_tell_estimate : PySem.W.keepIn K (.ref f_tell_estimate) = true)
    (n_tell_covariance : PySem.W.nsIn K mainGlobals "tell_covariance" = some (some (.ref f_tell_covariance)))
    (l_tell_covariance : K.lookup f_tell_covariance = some ⟨oc_tell_covariance, od_tell_covariance, .func (PySem.W.fnOf "tell_covariance" "tell_covariance" (defArgs (top 87)) (defBody (top 87)) (defScope (top 87)) .none kV_tell_covariance dc_tell_covariance pm_tell_covariance an_tell_covariance cd_tell_covariance ct_tell_covariance), sl_tell_covariance⟩)
    (c_tell_covariance : PySem.W.codeIn K cd_tell_covariance "tell_covariance" = true)
    (k_tell_covariance : PySem.W.keepIn K (.ref f_tell_covariance) = true)
    (n_tell_squared_ratio : PySem.W.nsIn K mainGlobals "tell_squared_ratio" = some (some (.ref f_tell_squared_ratio)))
    (l_tell_squared_ratio : K.lookup f_tell_squared_ratio = some ⟨oc_tell_squared_ratio, od_tell_squared_ratio, .func (PySem.W.fnOf "tell_squared_ratio" "tell_squared_ratio" (defArgs (top 88)) (defBody (top 88)) (defScope (top 88)) .none kV_tell_squared_ratio dc_tell_squared_ratio pm_tell_squared_ratio an_tell_squared_ratio cd_tell_squared_ratio ct_tell_squared_ratio), sl_tell_squared_ratio⟩)
    (c_tell_squared_ratio : PySem.W.codeIn K cd_tell_squared_ratio "tell_squared_ratio" = true)
    (k_tell_squared_ratio : PySem.W.keepIn K (.ref f_tell_squared_ratio) = true)
    (n_fitted_at : PySem.W.nsIn K mainGlobals "fitted_at" = some (some (.ref f_fitted_at)))
    (l_fitted_at : K.lookup f_fitted_at = some ⟨oc_fitted_at, od_fitted_at, .func (PySem.W.fnOf "fitted_at" "fitted_at" (defArgs (top 89)) (defBody (top 89)) (defScope (top 89)) .none kV_fitted_at dc_fitted_at pm_fitted_at an_fitted_at cd_fitted_at ct_fitted_at), sl_fitted_at⟩)
    (c_fitted_at : PySem.W.codeIn K cd_fitted_at "fitted_at" = true)
    (k_fitted_at : PySem.W.keepIn K (.ref f_fitted_at) = true)
    (n_leverage_at : PySem.W.nsIn K mainGlobals "leverage_at" = some (some (.ref f_leverage_at)))
    (l_leverage_at : K.lookup f_leverage_at = some ⟨oc_leverage_at, od_leverage_at, .func (PySem.W.fnOf "leverage_at" "leverage_at" (defArgs (top 90)) (defBody (top 90)) (defScope (top 90)) .none kV_leverage_at dc_leverage_at pm_leverage_at an_leverage_at cd_leverage_at ct_leverage_at), sl_leverage_at⟩)
    (c_leverage_at : PySem.W.codeIn K cd_leverage_at "leverage_at" = true)
    (k_leverage_at : PySem.W.keepIn K (.ref f_leverage_at) = true)
    (n_tell_fitted : PySem.W.nsIn K mainGlobals "tell_fitted" = some (some (.ref f_tell_fitted)))
    (l_tell_fitted : K.lookup f_tell_fitted = some ⟨oc_tell_fitted, od_tell_fitted, .func (PySem.W.fnOf "tell_fitted" "tell_fitted" (defArgs (top 91)) (defBody (top 91)) (defScope (top 91)) .none kV_tell_fitted dc_tell_fitted pm_tell_fitted an_tell_fitted cd_tell_fitted ct_tell_fitted), sl_tell_fitted⟩)
    (c_tell_fitted : PySem.W.codeIn K cd_tell_fitted "tell_fitted" = true)
    (k_tell_fitted : PySem.W.keepIn K (.ref f_tell_fitted) = true)
    (n_tell_leverage : PySem.W.nsIn K mainGlobals "tell_leverage" = some (some (.ref f_tell_leverage)))
    (l_tell_leverage : K.lookup f_tell_leverage = some ⟨oc_tell_leverage, od_tell_leverage, .func (PySem.W.fnOf "tell_leverage" "tell_leverage" (defArgs (top 92)) (defBody (top 92)) (defScope (top 92)) .none kV_tell_leverage dc_tell_leverage pm_tell_leverage an_tell_leverage cd_tell_leverage ct_tell_leverage), sl_tell_leverage⟩)
    (c_tell_leverage : PySem.W.codeIn K cd_tell_leverage "tell_leverage" = true)
    (k_tell_leverage : PySem.W.keepIn K (.ref f_tell_leverage) = true)
    (n_tell_deleted : PySem.W.nsIn K mainGlobals "tell_deleted" = some (some (.ref f_tell_deleted)))
    (l_tell_deleted : K.lookup f_tell_deleted = some ⟨oc_tell_deleted, od_tell_deleted, .func (PySem.W.fnOf "tell_deleted" "tell_deleted" (defArgs (top 93)) (defBody (top 93)) (defScope (top 93)) .none kV_tell_deleted dc_tell_deleted pm_tell_deleted an_tell_deleted cd_tell_deleted ct_tell_deleted), sl_tell_deleted⟩)
    (c_tell_deleted : PySem.W.codeIn K cd_tell_deleted "tell_deleted" = true)
    (k_tell_deleted : PySem.W.keepIn K (.ref f_tell_deleted) = true)
    (n_tell_residual_sum : PySem.W.nsIn K mainGlobals "tell_residual_sum" = some (some (.ref f_tell_residual_sum)))
    (l_tell_residual_sum : K.lookup f_tell_residual_sum = some ⟨oc_tell_residual_sum, od_tell_residual_sum, .func (PySem.W.fnOf "tell_residual_sum" "tell_residual_sum" (defArgs (top 94)) (defBody (top 94)) (defScope (top 94)) .none kV_tell_residual_sum dc_tell_residual_sum pm_tell_residual_sum an_tell_residual_sum cd_tell_residual_sum ct_tell_residual_sum), sl_tell_residual_sum⟩)
    (c_tell_residual_sum : PySem.W.codeIn K cd_tell_residual_sum "tell_residual_sum" = true)
    (k_tell_residual_sum : PySem.W.keepIn K (.ref f_tell_residual_sum) = true)
    (n_tell_variance : PySem.W.nsIn K mainGlobals "tell_variance" = some (some (.ref f_tell_variance)))
    (l_tell_variance : K.lookup f_tell_variance = some ⟨oc_tell_variance, od_tell_variance, .func (PySem.W.fnOf "tell_variance" "tell_variance" (defArgs (top 95)) (defBody (top 95)) (defScope (top 95)) .none kV_tell_variance dc_tell_variance pm_tell_variance an_tell_variance cd_tell_variance ct_tell_variance), sl_tell_variance⟩)
    (c_tell_variance : PySem.W.codeIn K cd_tell_variance "tell_variance" = true)
    (k_tell_variance : PySem.W.keepIn K (.ref f_tell_variance) = true)
    (n_terms_told : PySem.W.nsIn K mainGlobals "terms_told" = some (some (.ref f_terms_told)))
    (l_terms_told : K.lookup f_terms_told = some ⟨oc_terms_told, od_terms_told, .func (PySem.W.fnOf "terms_told" "terms_told" (defArgs (top 96)) (defBody (top 96)) (defScope (top 96)) .none kV_terms_told dc_terms_told pm_terms_told an_terms_told cd_terms_told ct_terms_told), sl_terms_told⟩)
    (c_terms_told : PySem.W.codeIn K cd_terms_told "terms_told" = true)
    (k_terms_told : PySem.W.keepIn K (.ref f_terms_told) = true)
    (n_tell_sequential : PySem.W.nsIn K mainGlobals "tell_sequential" = some (some (.ref f_tell_sequential)))
    (l_tell_sequential : K.lookup f_tell_sequential = some ⟨oc_tell_sequential, od_tell_sequential, .func (PySem.W.fnOf "tell_sequential" "tell_sequential" (defArgs (top 97)) (defBody (top 97)) (defScope (top 97)) .none kV_tell_sequential dc_tell_sequential pm_tell_sequential an_tell_sequential cd_tell_sequential ct_tell_sequential), sl_tell_sequential⟩)
    (c_tell_sequential : PySem.W.codeIn K cd_tell_sequential "tell_sequential" = true)
    (k_tell_sequential : PySem.W.keepIn K (.ref f_tell_sequential) = true)
    (n_tell_marginal : PySem.W.nsIn K mainGlobals "tell_marginal" = some (some (.ref f_tell_marginal)))
    (l_tell_marginal : K.lookup f_tell_marginal = some ⟨oc_tell_marginal, od_tell_marginal, .func (PySem.W.fnOf "tell_marginal" "tell_marginal" (defArgs (top 98)) (defBody (top 98)) (defScope (top 98)) .none kV_tell_marginal dc_tell_marginal pm_tell_marginal an_tell_marginal cd_tell_marginal ct_tell_marginal), sl_tell_marginal⟩)
    (c_tell_marginal : PySem.W.codeIn K cd_tell_marginal "tell_marginal" = true)
    (k_tell_marginal : PySem.W.keepIn K (.ref f_tell_marginal) = true)
    (n_tell_f_ratio : PySem.W.nsIn K mainGlobals "tell_f_ratio" = some (some (.ref f_tell_f_ratio)))
    (l_tell_f_ratio : K.lookup f_tell_f_ratio = some ⟨oc_tell_f_ratio, od_tell_f_ratio, .func (PySem.W.fnOf "tell_f_ratio" "tell_f_ratio" (defArgs (top 99)) (defBody (top 99)) (defScope (top 99)) .none kV_tell_f_ratio dc_tell_f_ratio pm_tell_f_ratio an_tell_f_ratio cd_tell_f_ratio ct_tell_f_ratio), sl_tell_f_ratio⟩)
    (c_tell_f_ratio : PySem.W.codeIn K cd_tell_f_ratio "tell_f_ratio" = true)
    (k_tell_f_ratio : PySem.W.keepIn K (.ref f_tell_f_ratio) = true)
    (n_tell_lack_of_fit : PySem.W.nsIn K mainGlobals "tell_lack_of_fit" = some (some (.ref f_tell_lack_of_fit)))
    (l_tell_lack_of_fit : K.lookup f_tell_lack_of_fit = some ⟨oc_tell_lack_of_fit, od_tell_lack_of_fit, .func (PySem.W.fnOf "tell_lack_of_fit" "tell_lack_of_fit" (defArgs (top 100)) (defBody (top 100)) (defScope (top 100)) .none kV_tell_lack_of_fit dc_tell_lack_of_fit pm_tell_lack_of_fit an_tell_lack_of_fit cd_tell_lack_of_fit ct_tell_lack_of_fit), sl_tell_lack_of_fit⟩)
    (c_tell_lack_of_fit : PySem.W.codeIn K cd_tell_lack_of_fit "tell_lack_of_fit" = true)
    (k_tell_lack_of_fit : PySem.W.keepIn K (.ref f_tell_lack_of_fit) = true)
    (n_tell_predict : PySem.W.nsIn K mainGlobals "tell_predict" = some (some (.ref f_tell_predict)))
    (l_tell_predict : K.lookup f_tell_predict = some ⟨oc_tell_predict, od_tell_predict, .func (PySem.W.fnOf "tell_predict" "tell_predict" (defArgs (top 101)) (defBody (top 101)) (defScope (top 101)) .none kV_tell_predict dc_tell_predict pm_tell_predict an_tell_predict cd_tell_predict ct_tell_predict), sl_tell_predict⟩)
    (c_tell_predict : PySem.W.codeIn K cd_tell_predict "tell_predict" = true)
    (k_tell_predict : PySem.W.keepIn K (.ref f_tell_predict) = true)
    (n_model_without : PySem.W.nsIn K mainGlobals "model_without" = some (some (.ref f_model_without)))
    (l_model_without : K.lookup f_model_without = some ⟨oc_model_without, od_model_without, .func (PySem.W.fnOf "model_without" "model_without" (defArgs (top 102)) (defBody (top 102)) (defScope (top 102)) .none kV_model_without dc_model_without pm_model_without an_model_without cd_model_without ct_model_without), sl_model_without⟩)
    (c_model_without : PySem.W.codeIn K cd_model_without "model_without" = true)
    (k_model_without : PySem.W.keepIn K (.ref f_model_without) = true)
    (n_tell_lost_value : PySem.W.nsIn K mainGlobals "tell_lost_value" = some (some (.ref f_tell_lost_value)))
    (l_tell_lost_value : K.lookup f_tell_lost_value = some ⟨oc_tell_lost_value, od_tell_lost_value, .func (PySem.W.fnOf "tell_lost_value" "tell_lost_value" (defArgs (top 103)) (defBody (top 103)) (defScope (top 103)) .none kV_tell_lost_value dc_tell_lost_value pm_tell_lost_value an_tell_lost_value cd_tell_lost_value ct_tell_lost_value), sl_tell_lost_value⟩)
    (c_tell_lost_value : PySem.W.codeIn K cd_tell_lost_value "tell_lost_value" = true)
    (k_tell_lost_value : PySem.W.keepIn K (.ref f_tell_lost_value) = true)
    (n_tell_stationary : PySem.W.nsIn K mainGlobals "tell_stationary" = some (some (.ref f_tell_stationary)))
    (l_tell_stationary : K.lookup f_tell_stationary = some ⟨oc_tell_stationary, od_tell_stationary, .func (PySem.W.fnOf "tell_stationary" "tell_stationary" (defArgs (top 104)) (defBody (top 104)) (defScope (top 104)) .none kV_tell_stationary dc_tell_stationary pm_tell_stationary an_tell_stationary cd_tell_stationary ct_tell_stationary), sl_tell_stationary⟩)
    (c_tell_stationary : PySem.W.codeIn K cd_tell_stationary "tell_stationary" = true)
    (k_tell_stationary : PySem.W.keepIn K (.ref f_tell_stationary) = true)
    (n_create : PySem.W.nsIn K mainGlobals "create" = some (some (.ref f_create)))
    (l_create : K.lookup f_create = some ⟨oc_create, od_create, .func (PySem.W.fnOf "create" "create" (defArgs (top 106)) (defBody (top 106)) (defScope (top 106)) .none kV_create dc_create pm_create an_create cd_create ct_create), sl_create⟩)
    (c_create : PySem.W.codeIn K cd_create "create" = true)
    (k_create : PySem.W.keepIn K (.ref f_create) = true)
    (n_add_row : PySem.W.nsIn K mainGlobals "add_row" = some (some (.ref f_add_row)))
    (l_add_row : K.lookup f_add_row = some ⟨oc_add_row, od_add_row, .func (PySem.W.fnOf "add_row" "add_row" (defArgs (top 107)) (defBody (top 107)) (defScope (top 107)) .none kV_add_row dc_add_row pm_add_row an_add_row cd_add_row ct_add_row), sl_add_row⟩)
    (c_add_row : PySem.W.codeIn K cd_add_row "add_row" = true)
    (k_add_row : PySem.W.keepIn K (.ref f_add_row) = true)
    (n_remove_row : PySem.W.nsIn K mainGlobals "remove_row" = some (some (.ref f_remove_row)))
    (l_remove_row : K.lookup f_remove_row = some ⟨oc_remove_row, od_remove_row, .func (PySem.W.fnOf "remove_row" "remove_row" (defArgs (top 108)) (defBody (top 108)) (defScope (top 108)) .none kV_remove_row dc_remove_row pm_remove_row an_remove_row cd_remove_row ct_remove_row), sl_remove_row⟩)
    (c_remove_row : PySem.W.codeIn K cd_remove_row "remove_row" = true)
    (k_remove_row : PySem.W.keepIn K (.ref f_remove_row) = true)
    (n_set_response : PySem.W.nsIn K mainGlobals "set_response" = some (some (.ref f_set_response)))
    (l_set_response : K.lookup f_set_response = some ⟨oc_set_response, od_set_response, .func (PySem.W.fnOf "set_response" "set_response" (defArgs (top 109)) (defBody (top 109)) (defScope (top 109)) .none kV_set_response dc_set_response pm_set_response an_set_response cd_set_response ct_set_response), sl_set_response⟩)
    (c_set_response : PySem.W.codeIn K cd_set_response "set_response" = true)
    (k_set_response : PySem.W.keepIn K (.ref f_set_response) = true)
    (n_set_terms : PySem.W.nsIn K mainGlobals "set_terms" = some (some (.ref f_set_terms)))
    (l_set_terms : K.lookup f_set_terms = some ⟨oc_set_terms, od_set_terms, .func (PySem.W.fnOf "set_terms" "set_terms" (defArgs (top 110)) (defBody (top 110)) (defScope (top 110)) .none kV_set_terms dc_set_terms pm_set_terms an_set_terms cd_set_terms ct_set_terms), sl_set_terms⟩)
    (c_set_terms : PySem.W.codeIn K cd_set_terms "set_terms" = true)
    (k_set_terms : PySem.W.keepIn K (.ref f_set_terms) = true)
    (n_clear_rows : PySem.W.nsIn K mainGlobals "clear_rows" = some (some (.ref f_clear_rows)))
    (l_clear_rows : K.lookup f_clear_rows = some ⟨oc_clear_rows, od_clear_rows, .func (PySem.W.fnOf "clear_rows" "clear_rows" (defArgs (top 111)) (defBody (top 111)) (defScope (top 111)) .none kV_clear_rows dc_clear_rows pm_clear_rows an_clear_rows cd_clear_rows ct_clear_rows), sl_clear_rows⟩)
    (c_clear_rows : PySem.W.codeIn K cd_clear_rows "clear_rows" = true)
    (k_clear_rows : PySem.W.keepIn K (.ref f_clear_rows) = true)
    (n_get_row : PySem.W.nsIn K mainGlobals "get_row" = some (some (.ref f_get_row)))
    (l_get_row : K.lookup f_get_row = some ⟨oc_get_row, od_get_row, .func (PySem.W.fnOf "get_row" "get_row" (defArgs (top 112)) (defBody (top 112)) (defScope (top 112)) .none kV_get_row dc_get_row pm_get_row an_get_row cd_get_row ct_get_row), sl_get_row⟩)
    (c_get_row : PySem.W.codeIn K cd_get_row "get_row" = true)
    (k_get_row : PySem.W.keepIn K (.ref f_get_row) = true)
    (n_normal_equations : PySem.W.nsIn K mainGlobals "normal_equations" = some (some (.ref f_normal_equations)))
    (l_normal_equations : K.lookup f_normal_equations = some ⟨oc_normal_equations, od_normal_equations, .func (PySem.W.fnOf "normal_equations" "normal_equations" (defArgs (top 113)) (defBody (top 113)) (defScope (top 113)) .none kV_normal_equations dc_normal_equations pm_normal_equations an_normal_equations cd_normal_equations ct_normal_equations), sl_normal_equations⟩)
    (c_normal_equations : PySem.W.codeIn K cd_normal_equations "normal_equations" = true)
    (k_normal_equations : PySem.W.keepIn K (.ref f_normal_equations) = true)
    (n_summary : PySem.W.nsIn K mainGlobals "summary" = some (some (.ref f_summary)))
    (l_summary : K.lookup f_summary = some ⟨oc_summary, od_summary, .func (PySem.W.fnOf "summary" "summary" (defArgs (top 114)) (defBody (top 114)) (defScope (top 114)) .none kV_summary dc_summary pm_summary an_summary cd_summary ct_summary), sl_summary⟩)
    (c_summary : PySem.W.codeIn K cd_summary "summary" = true)
    (k_summary : PySem.W.keepIn K (.ref f_summary) = true)
    (n_lists_at : PySem.W.nsIn K mainGlobals "lists_at" = some (some (.ref f_lists_at)))
    (l_lists_at : K.lookup f_lists_at = some ⟨oc_lists_at, od_lists_at, .func (PySem.W.fnOf "lists_at" "lists_at" (defArgs (top 120)) (defBody (top 120)) (defScope (top 120)) .none kV_lists_at dc_lists_at pm_lists_at an_lists_at cd_lists_at ct_lists_at), sl_lists_at⟩)
    (c_lists_at : PySem.W.codeIn K cd_lists_at "lists_at" = true)
    (k_lists_at : PySem.W.keepIn K (.ref f_lists_at) = true)
    (n_answer : PySem.W.nsIn K mainGlobals "answer" = some (some (.ref f_answer)))
    (l_answer : K.lookup f_answer = some ⟨oc_answer, od_answer, .func (PySem.W.fnOf "answer" "answer" (defArgs (top 121)) (defBody (top 121)) (defScope (top 121)) .none kV_answer dc_answer pm_answer an_answer cd_answer ct_answer), sl_answer⟩)
    (c_answer : PySem.W.codeIn K cd_answer "answer" = true)
    (k_answer : PySem.W.keepIn K (.ref f_answer) = true)
    (n_answers : PySem.W.nsIn K mainGlobals "answers" = some (some (.ref f_answers)))
    (l_answers : K.lookup f_answers = some ⟨oc_answers, od_answers, .func (PySem.W.fnOf "answers" "answers" (defArgs (top 122)) (defBody (top 122)) (defScope (top 122)) .none kV_answers dc_answers pm_answers an_answers cd_answers ct_answers), sl_answers⟩)
    (c_answers : PySem.W.codeIn K cd_answers "answers" = true)
    (k_answers : PySem.W.keepIn K (.ref f_answers) = true)
    (b_abs : PySem.W.nsIn K mainGlobals "abs" = some none)
    (b_all : PySem.W.nsIn K mainGlobals "all" = some none)
    (b_any : PySem.W.nsIn K mainGlobals "any" = some none)
    (b_enumerate : PySem.W.nsIn K mainGlobals "enumerate" = some none)
    (b_len : PySem.W.nsIn K mainGlobals "len" = some none)
    (b_list : PySem.W.nsIn K mainGlobals "list" = some none)
    (b_range : PySem.W.nsIn K mainGlobals "range" = some none)
    (b_sum : PySem.W.nsIn K mainGlobals "sum" = some none)
    (b_tuple : PySem.W.nsIn K mainGlobals "tuple" = some none)
    (b_zip : PySem.W.nsIn K mainGlobals "zip" = some none)
    (g_CREATE : PySem.W.nsIn K mainGlobals "CREATE" = some (some (.int (0) t_CREATE)))
    (g_FULL : PySem.W.nsIn K mainGlobals "FULL" = some (some (.int (-28) t_FULL)))
    (g_GREATEST : PySem.W.nsIn K mainGlobals "GREATEST" = some (some (.int (1000000) t_GREATEST)))
    (g_MAXIMUM : PySem.W.nsIn K mainGlobals "MAXIMUM" = some (some (.int (1) t_MAXIMUM)))
    (g_MINIMUM : PySem.W.nsIn K mainGlobals "MINIMUM" = some (some (.int (0) t_MINIMUM)))
    (g_MOST_COLUMNS : PySem.W.nsIn K mainGlobals "MOST_COLUMNS" = some (some (.int (8) t_MOST_COLUMNS)))
    (g_MOST_ENTRY : PySem.W.nsIn K mainGlobals "MOST_ENTRY" = some (some (.int (1000) t_MOST_ENTRY)))
    (g_MOST_ROWS : PySem.W.nsIn K mainGlobals "MOST_ROWS" = some (some (.int (24) t_MOST_ROWS)))
    (g_MOST_VARIABLES : PySem.W.nsIn K mainGlobals "MOST_VARIABLES" = some (some (.int (3) t_MOST_VARIABLES)))
    (g_NO_MODEL : PySem.W.nsIn K mainGlobals "NO_MODEL" = some (some (.int (-11) t_NO_MODEL)))
    (g_NO_RESULT : PySem.W.nsIn K mainGlobals "NO_RESULT" = some (some (.int (-33) t_NO_RESULT)))
    (g_NO_SUCH : PySem.W.nsIn K mainGlobals "NO_SUCH" = some (some (.int (-2) t_NO_SUCH)))
    (g_OUT_OF_RANGE : PySem.W.nsIn K mainGlobals "OUT_OF_RANGE" = some (some (.int (-22) t_OUT_OF_RANGE)))
    (g_SADDLE : PySem.W.nsIn K mainGlobals "SADDLE" = some (some (.int (2) t_SADDLE)))
    (g_ONE : PySem.W.nsIn K mainGlobals "ONE" = some (some (.ref r_ONE)))
    (l_ONE : K.lookup r_ONE = some ⟨.type "tuple", ro_ONE, .seq ri_ONE rn_ONE, rs_ONE⟩)
    (v_ONE : chkI ri_ONE.toList [1, 1] = true)
    (g_ZERO : PySem.W.nsIn K mainGlobals "ZERO" = some (some (.ref r_ZERO)))
    (l_ZERO : K.lookup r_ZERO = some ⟨.type "tuple", ro_ZERO, .seq ri_ZERO rn_ZERO, rs_ZERO⟩)
    (v_ZERO : chkI ri_ZERO.toList [0, 1] = true)
    (g_NUMBERS : PySem.W.nsIn K mainGlobals "NUMBERS" = some (some (.ref r_NUMBERS)))
    (l_NUMBERS : K.lookup r_NUMBERS = some ⟨.type "tuple", ro_NUMBERS, .seq ri_NUMBERS rn_NUMBERS, rs_NUMBERS⟩)
    (v_NUMBERS : chkI ri_NUMBERS.toList numsL = true)
    (g_LISTS : PySem.W.nsIn K mainGlobals "LISTS" = some (some (.ref r_LISTS)))
    (l_LISTS : K.lookup r_LISTS = some ⟨.type "tuple", ro_LISTS, .seq ri_LISTS rn_LISTS, rs_LISTS⟩)
    (v_LISTS : chkI ri_LISTS.toList lstsL = true)
    (g_DEEDS : PySem.W.nsIn K mainGlobals "DEEDS" = some (some (.ref r_DEEDS)))
    (l_DEEDS : K.lookup r_DEEDS = some ⟨.type "tuple", ro_DEEDS, .seq ri_DEEDS rn_DEEDS, rs_DEEDS⟩)
    (v_DEEDS : chkR ri_DEEDS.toList [f_create, f_add_row, f_remove_row, f_set_response, f_set_terms, f_clear_rows, f_get_row, f_tell_rank, f_tell_coefficients, f_tell_estimate, f_tell_covariance, f_tell_squared_ratio, f_tell_fitted, f_tell_leverage, f_tell_deleted, f_tell_residual_sum, f_tell_variance, f_tell_sequential, f_tell_marginal, f_tell_f_ratio, f_tell_lack_of_fit, f_tell_predict, f_tell_lost_value, f_normal_equations, f_tell_stationary, f_summary] = true)
    (inj : nodupB ([f_create, f_add_row, f_remove_row, f_set_response, f_set_terms, f_clear_rows, f_get_row, f_tell_rank, f_tell_coefficients, f_tell_estimate, f_tell_covariance, f_tell_squared_ratio, f_tell_fitted, f_tell_leverage, f_tell_deleted, f_tell_residual_sum, f_tell_variance, f_tell_sequential, f_tell_marginal, f_tell_f_ratio, f_tell_lack_of_fit, f_tell_predict, f_tell_lost_value, f_normal_equations, f_tell_stationary, f_summary] : List Addr) = true)
    (ncM : PySem.W.nsIn K mainGlobals "Model" = some (some (.ref cM)))
    (icM : PySem.W.findIn K (.ref cM) "__init__" = some (some (.ref fcM)))
    (jcM : PySem.W.isFn K (.ref fcM) = true)
    (lcM : K.lookup fcM = some ⟨occM, odcM, .func (PySem.W.fnOf "__init__" "Model.__init__" (defArgs (inClass (top 29) 0)) (defBody (inClass (top 29) 0)) (defScope (inClass (top 29) 0)) .none kVcM dccM pmcM ancM cdcM ctcM), slcM⟩)
    (ccMc : PySem.W.codeIn K cdcM "Model.__init__" = true)
    (kcM : PySem.W.keepIn K (.ref fcM) = true)
    (pgcM : PySem.W.plainGet K cM Str.empty = true)
    (hdcM : PySem.W.hasDictIn K cM = true)
    (pocM : PySem.W.plainOver K cM = true)
    (sacM : PySem.W.findIn K (.ref cM) "__setattr__" = some (some (.builtin "object.__setattr__")))
    (mkcM : PySem.W.makesIn K cM = true)
    (kccM : PySem.W.keepIn K (.ref cM) = true)
    (nacMmany : PySem.W.findIn K (.ref cM) "many" = some none)
    (nacMterms : PySem.W.findIn K (.ref cM) "terms" = some none)
    (nacMrows : PySem.W.findIn K (.ref cM) "rows" = some none)
    (ncD : PySem.W.nsIn K mainGlobals "Desk" = some (some (.ref cD)))
    (icD : PySem.W.findIn K (.ref cD) "__init__" = some (some (.ref fcD)))
    (jcD : PySem.W.isFn K (.ref fcD) = true)
    (lcD : K.lookup fcD = some ⟨occD, odcD, .func (PySem.W.fnOf "__init__" "Desk.__init__" (defArgs (inClass (top 30) 0)) (defBody (inClass (top 30) 0)) (defScope (inClass (top 30) 0)) .none kVcD dccD pmcD ancD cdcD ctcD), slcD⟩)
    (ccDc : PySem.W.codeIn K cdcD "Desk.__init__" = true)
    (kcD : PySem.W.keepIn K (.ref fcD) = true)
    (pgcD : PySem.W.plainGet K cD Str.empty = true)
    (hdcD : PySem.W.hasDictIn K cD = true)
    (pocD : PySem.W.plainOver K cD = true)
    (sacD : PySem.W.findIn K (.ref cD) "__setattr__" = some (some (.builtin "object.__setattr__")))
    (mkcD : PySem.W.makesIn K cD = true)
    (kccD : PySem.W.keepIn K (.ref cD) = true)
    (nacDmodel : PySem.W.findIn K (.ref cD) "model" = some none)
    (ns : base.NoSeer) (tr : P.given.tree = none) : Wd P w K mg base ⟨r_ONE, r_ZERO, r_DEEDS, r_NUMBERS, r_LISTS, cM, cD, fun i => ([f_create, f_add_row, f_remove_row, f_set_response, f_set_terms, f_clear_rows, f_get_row, f_tell_rank, f_tell_coefficients, f_tell_estimate, f_tell_covariance, f_tell_squared_ratio, f_tell_fitted, f_tell_leverage, f_tell_deleted, f_tell_residual_sum, f_tell_variance, f_tell_sequential, f_tell_marginal, f_tell_f_ratio, f_tell_lack_of_fit, f_tell_predict, f_tell_lost_value, f_normal_equations, f_tell_stationary, f_summary] : List Addr).getD i 0⟩ where
  d_is_within := df_mk X G n_is_within l_is_within c_is_within k_is_within
  d_are_within := df_mk X G n_are_within l_are_within c_are_within k_are_within
  d_is_vector := df_mk X G n_is_vector l_is_vector c_is_vector k_is_vector
  d_is_index := df_mk X G n_is_index l_is_index c_is_index k_is_index
  d_are_terms := df_mk X G n_are_terms l_are_terms c_are_terms k_are_terms
  d_is_surface := df_mk X G n_is_surface l_is_surface c_is_surface k_is_surface
  d_common := df_mk X G n_common l_common c_common k_common
  d_multiple := df_mk X G n_multiple l_multiple c_multiple k_multiple
  d_ratio := df_mk X G n_ratio l_ratio c_ratio k_ratio
  d_plus := df_mk X G n_plus l_plus c_plus k_plus
  d_minus := df_mk X G n_minus l_minus c_minus k_minus
  d_times := df_mk X G n_times l_times c_times k_times
  d_over := df_mk X G n_over l_over c_over k_over
  d_square := df_mk X G n_square l_square c_square k_square
  d_term_count := df_mk X G n_term_count l_term_count c_term_count k_term_count
  d_responses_of := df_mk X G n_responses_of l_responses_of c_responses_of k_responses_of
  d_entries_of := df_mk X G n_entries_of l_entries_of c_entries_of k_entries_of
  d_entries_at := df_mk X G n_entries_at l_entries_at c_entries_at k_entries_at
  d_places_below := df_mk X G n_places_below l_places_below c_places_below k_places_below
  d_places_beside := df_mk X G n_places_beside l_places_beside c_places_beside k_places_beside
  d_lowered := df_mk X G n_lowered l_lowered c_lowered k_lowered
  d_cleared := df_mk X G n_cleared l_cleared c_cleared k_cleared
  d_first_with := df_mk X G n_first_with l_first_with c_first_with k_first_with
  d_without := df_mk X G n_without l_without c_without k_without
  d_rank_of := df_mk X G n_rank_of l_rank_of c_rank_of k_rank_of
  d_leads_of := df_mk X G n_leads_of l_leads_of c_leads_of k_leads_of
  d_solved := df_mk X G n_solved l_solved c_solved k_solved
  d_product := df_mk X G n_product l_product c_product k_product
  d_column := df_mk X G n_column l_column c_column k_column
  d_products := df_mk X G n_products l_products c_products k_products
  d_right_sides := df_mk X G n_right_sides l_right_sides c_right_sides k_right_sides
  d_solved_for := df_mk X G n_solved_for l_solved_for c_solved_for k_solved_for
  d_best_fit := df_mk X G n_best_fit l_best_fit c_best_fit k_best_fit
  d_weighed := df_mk X G n_weighed l_weighed c_weighed k_weighed
  d_residual_sum_of := df_mk X G n_residual_sum_of l_residual_sum_of c_residual_sum_of k_residual_sum_of
  d_pairs_of := df_mk X G n_pairs_of l_pairs_of c_pairs_of k_pairs_of
  d_hessian := df_mk X G n_hessian l_hessian c_hessian k_hessian
  d_determinant := df_mk X G n_determinant l_determinant c_determinant k_determinant
  d_leading_minors := df_mk X G n_leading_minors l_leading_minors c_leading_minors k_leading_minors
  d_is_turned := df_mk X G n_is_turned l_is_turned c_is_turned k_is_turned
  d_kind_of := df_mk X G n_kind_of l_kind_of c_kind_of k_kind_of
  d_point_of := df_mk X G n_point_of l_point_of c_point_of k_point_of
  d_value_at := df_mk X G n_value_at l_value_at c_value_at k_value_at
  d_rank := df_mk X G n_rank l_rank c_rank k_rank
  d_freedom := df_mk X G n_freedom l_freedom c_freedom k_freedom
  d_solution := df_mk X G n_solution l_solution c_solution k_solution
  d_estimate_of := df_mk X G n_estimate_of l_estimate_of c_estimate_of k_estimate_of
  d_factor_of := df_mk X G n_factor_of l_factor_of c_factor_of k_factor_of
  d_is_estimable := df_mk X G n_is_estimable l_is_estimable c_is_estimable k_is_estimable
  d_residual_sum := df_mk X G n_residual_sum l_residual_sum c_residual_sum k_residual_sum
  d_variance_of := df_mk X G n_variance_of l_variance_of c_variance_of k_variance_of
  d_looked_at := df_mk X G n_looked_at l_looked_at c_looked_at k_looked_at
  d_told_between := df_mk X G n_told_between l_told_between c_told_between k_told_between
  d_sequential_of := df_mk X G n_sequential_of l_sequential_of c_sequential_of k_sequential_of
  d_marginal_at := df_mk X G n_marginal_at l_marginal_at c_marginal_at k_marginal_at
  d_marginal_of := df_mk X G n_marginal_of l_marginal_of c_marginal_of k_marginal_of
  d_groups_of := df_mk X G n_groups_of l_groups_of c_groups_of k_groups_of
  d_spread := df_mk X G n_spread l_spread c_spread k_spread
  d_pure_error := df_mk X G n_pure_error l_pure_error c_pure_error k_pure_error
  d_tell_rank := df_mk X G n_tell_rank l_tell_rank c_tell_rank k_tell_rank
  d_tell_coefficients := df_mk X G n_tell_coefficients l_tell_coefficients c_tell_coefficients k_tell_coefficients
  d_tell_estimate := df_mk X G n_tell_estimate l_tell_estimate c_tell_estimate k_tell_estimate
  d_tell_covariance := df_mk X G n_tell_covariance l_tell_covariance c_tell_covariance k_tell_covariance
  d_tell_squared_ratio := df_mk X G n_tell_squared_ratio l_tell_squared_ratio c_tell_squared_ratio k_tell_squared_ratio
  d_fitted_at := df_mk X G n_fitted_at l_fitted_at c_fitted_at k_fitted_at
  d_leverage_at := df_mk X G n_leverage_at l_leverage_at c_leverage_at k_leverage_at
  d_tell_fitted := df_mk X G n_tell_fitted l_tell_fitted c_tell_fitted k_tell_fitted
  d_tell_leverage := df_mk X G n_tell_leverage l_tell_leverage c_tell_leverage k_tell_leverage
  d_tell_deleted := df_mk X G n_tell_deleted l_tell_deleted c_tell_deleted k_tell_deleted
  d_tell_residual_sum := df_mk X G n_tell_residual_sum l_tell_residual_sum c_tell_residual_sum k_tell_residual_sum
  d_tell_variance := df_mk X G n_tell_variance l_tell_variance c_tell_variance k_tell_variance
  d_terms_told := df_mk X G n_terms_told l_terms_told c_terms_told k_terms_told
  d_tell_sequential := df_mk X G n_tell_sequential l_tell_sequential c_tell_sequential k_tell_sequential
  d_tell_marginal := df_mk X G n_tell_marginal l_tell_marginal c_tell_marginal k_tell_marginal
  d_tell_f_ratio := df_mk X G n_tell_f_ratio l_tell_f_ratio c_tell_f_ratio k_tell_f_ratio
  d_tell_lack_of_fit := df_mk X G n_tell_lack_of_fit l_tell_lack_of_fit c_tell_lack_of_fit k_tell_lack_of_fit
  d_tell_predict := df_mk X G n_tell_predict l_tell_predict c_tell_predict k_tell_predict
  d_model_without := df_mk X G n_model_without l_model_without c_model_without k_model_without
  d_tell_lost_value := df_mk X G n_tell_lost_value l_tell_lost_value c_tell_lost_value k_tell_lost_value
  d_tell_stationary := df_mk X G n_tell_stationary l_tell_stationary c_tell_stationary k_tell_stationary
  d_create := df_mk X G n_create l_create c_create k_create
  d_add_row := df_mk X G n_add_row l_add_row c_add_row k_add_row
  d_remove_row := df_mk X G n_remove_row l_remove_row c_remove_row k_remove_row
  d_set_response := df_mk X G n_set_response l_set_response c_set_response k_set_response
  d_set_terms := df_mk X G n_set_terms l_set_terms c_set_terms k_set_terms
  d_clear_rows := df_mk X G n_clear_rows l_clear_rows c_clear_rows k_clear_rows
  d_get_row := df_mk X G n_get_row l_get_row c_get_row k_get_row
  d_normal_equations := df_mk X G n_normal_equations l_normal_equations c_normal_equations k_normal_equations
  d_summary := df_mk X G n_summary l_summary c_summary k_summary
  d_lists_at := df_mk X G n_lists_at l_lists_at c_lists_at k_lists_at
  d_answer := df_mk X G n_answer l_answer c_answer k_answer
  d_answers := df_mk X G n_answers l_answers c_answers k_answers
  b_abs := PySem.W.mg_none_of X G b_abs
  b_all := PySem.W.mg_none_of X G b_all
  b_any := PySem.W.mg_none_of X G b_any
  b_enumerate := PySem.W.mg_none_of X G b_enumerate
  b_len := PySem.W.mg_none_of X G b_len
  b_list := PySem.W.mg_none_of X G b_list
  b_range := PySem.W.mg_none_of X G b_range
  b_sum := PySem.W.mg_none_of X G b_sum
  b_tuple := PySem.W.mg_none_of X G b_tuple
  b_zip := PySem.W.mg_none_of X G b_zip
  g_CREATE := ⟨_, PySem.W.mg_of X G g_CREATE⟩
  g_FULL := ⟨_, PySem.W.mg_of X G g_FULL⟩
  g_GREATEST := ⟨_, PySem.W.mg_of X G g_GREATEST⟩
  g_MAXIMUM := ⟨_, PySem.W.mg_of X G g_MAXIMUM⟩
  g_MINIMUM := ⟨_, PySem.W.mg_of X G g_MINIMUM⟩
  g_MOST_COLUMNS := ⟨_, PySem.W.mg_of X G g_MOST_COLUMNS⟩
  g_MOST_ENTRY := ⟨_, PySem.W.mg_of X G g_MOST_ENTRY⟩
  g_MOST_ROWS := ⟨_, PySem.W.mg_of X G g_MOST_ROWS⟩
  g_MOST_VARIABLES := ⟨_, PySem.W.mg_of X G g_MOST_VARIABLES⟩
  g_NO_MODEL := ⟨_, PySem.W.mg_of X G g_NO_MODEL⟩
  g_NO_RESULT := ⟨_, PySem.W.mg_of X G g_NO_RESULT⟩
  g_NO_SUCH := ⟨_, PySem.W.mg_of X G g_NO_SUCH⟩
  g_OUT_OF_RANGE := ⟨_, PySem.W.mg_of X G g_OUT_OF_RANGE⟩
  g_SADDLE := ⟨_, PySem.W.mg_of X G g_SADDLE⟩
  g_ONE := PySem.W.mg_of X G g_ONE
  g_ZERO := PySem.W.mg_of X G g_ZERO
  g_DEEDS := PySem.W.mg_of X G g_DEEDS
  g_NUMBERS := PySem.W.mg_of X G g_NUMBERS
  g_LISTS := PySem.W.mg_of X G g_LISTS
  dd0 := PySem.W.mg_of X G n_create
  dd1 := PySem.W.mg_of X G n_add_row
  dd2 := PySem.W.mg_of X G n_remove_row
  dd3 := PySem.W.mg_of X G n_set_response
  dd4 := PySem.W.mg_of X G n_set_terms
  dd5 := PySem.W.mg_of X G n_clear_rows
  dd6 := PySem.W.mg_of X G n_get_row
  dd7 := PySem.W.mg_of X G n_tell_rank
  dd8 := PySem.W.mg_of X G n_tell_coefficients
  dd9 := PySem.W.mg_of X G n_tell_estimate
  dd10 := PySem.W.mg_of X G n_tell_covariance
  dd11 := PySem.W.mg_of X G n_tell_squared_ratio
  dd12 := PySem.W.mg_of X G n_tell_fitted
  dd13 := PySem.W.mg_of X G n_tell_leverage
  dd14 := PySem.W.mg_of X G n_tell_deleted
  dd15 := PySem.W.mg_of X G n_tell_residual_sum
  dd16 := PySem.W.mg_of X G n_tell_variance
  dd17 := PySem.W.mg_of X G n_tell_sequential
  dd18 := PySem.W.mg_of X G n_tell_marginal
  dd19 := PySem.W.mg_of X G n_tell_f_ratio
  dd20 := PySem.W.mg_of X G n_tell_lack_of_fit
  dd21 := PySem.W.mg_of X G n_tell_predict
  dd22 := PySem.W.mg_of X G n_tell_lost_value
  dd23 := PySem.W.mg_of X G n_normal_equations
  dd24 := PySem.W.mg_of X G n_tell_stationary
  dd25 := PySem.W.mg_of X G n_summary
  inj := fun i j hi hj h => nodup_get inj i j hi hj h
  t_one := fun H => sq_i l_ONE v_ONE (by decide)
  t_zero := fun H => sq_i l_ZERO v_ZERO (by decide)
  t_numbers := fun H => sq_i l_NUMBERS v_NUMBERS (by decide)
  t_lists := fun H => sq_i l_LISTS v_LISTS (by decide)
  t_deeds := fun H => sq_r (l := [f_create, f_add_row, f_remove_row, f_set_response, f_set_terms, f_clear_rows, f_get_row, f_tell_rank, f_tell_coefficients, f_tell_estimate, f_tell_covariance, f_tell_squared_ratio, f_tell_fitted, f_tell_leverage, f_tell_deleted, f_tell_residual_sum, f_tell_variance, f_tell_sequential, f_tell_marginal, f_tell_f_ratio, f_tell_lack_of_fit, f_tell_predict, f_tell_lost_value, f_normal_equations, f_tell_stationary, f_summary]) l_DEEDS v_DEEDS (by show 26 ≤ sizeLine; decide)
  clM := ⟨pgcM, hdcM, pocM, sacM⟩
  clD := ⟨pgcD, hdcD, pocD, sacD⟩
  nMmany := nacMmany
  nMterms := nacMterms
  nMrows := nacMrows
  nDmodel := nacDmodel
  gM := PySem.W.mg_of X G ncM
  gD := PySem.W.mg_of X G ncD
  mkM := ⟨_, _, ⟨mkcM, icM, jcM, kccM⟩, fun_mk lcM ccMc kcM⟩
  mkD := ⟨_, _, ⟨mkcD, icD, jcD, kccD⟩, fun_mk lcD ccDc kcD⟩
  ns := ns
  tr := tr
/-- a wider frame of what is written -/
theorem fn_wide {P : Program} {w : World} {K K' : PySem.W.Frag} {mg : Str → Option Value} {base : Heap} {k : Nat} {f : Addr} {fd : FuncData} {ps : List Str} {sp : Sp} (hK : ∀ h : Heap, K'.In h → K.In h) (F : FnOk P w K mg base CX0 k f fd ps sp) : FnOk P w K' mg base CX0 k f fd ps sp :=
  ⟨F.len, fun A outer s H args us vs Q E hr e0 hb hv hs => F.run A outer s H args us vs Q E hr ⟨e0.frames, ⟨hK _ e0.mod.kin, e0.mod.glob, e0.mod.blt, e0.mod.nolimit⟩, e0.bs, e0.bsz, e0.funs, e0.frf, e0.hok, e0.bare⟩ hb hv hs⟩
end LW

set_option linter.all false
set_option Elab.async false
set_option maxRecDepth 100000
set_option maxHeartbeats 8000000
namespace LW
open PySem PySem.Spec PyProof.Rows L2
open PySem.W (Codec)
theorem look_mem {b : Addr} {o : Obj} : ∀ {l : List (Addr × Obj)}, l.lookup b = some o → (b, o) ∈ l
  | [], h => by cases h
  | (c, u) :: l, h => by
    rw [List.lookup_cons] at h
    by_cases e : (b == c) = true
    · rw [e] at h
      have h : u = o := Option.some.inj h
      have e := eq_of_beq e
      subst e h
      exact List.mem_cons_self
    · rw [Bool.not_eq_true] at e
      rw [e] at h
      exact List.mem_cons_of_mem _ (look_mem h)
theorem look_some {b : Addr} {o : Obj} : ∀ {l : List (Addr × Obj)}, (b, o) ∈ l → ∃ u, l.lookup b = some u
  | (c, u) :: l, h => by
    rw [List.lookup_cons]
    by_cases e : (b == c) = true
    · rw [e]; exact ⟨u, rfl⟩
    · rw [Bool.not_eq_true] at e
      rw [e]
      rcases List.mem_cons.mp h with z | z
      · have := congrArg Prod.fst z
        have hb : b = c := this
        rw [hb, beq_self_eq_true] at e
        cases e
      · exact look_some z
theorem widen {K : PySem.W.Frag} {h : Heap} (X : K.In h) (sr : h.NoSeer) : ∃ K' : PySem.W.Frag, K'.In h ∧ (∀ g : Heap, K'.In g → K.In g) ∧ (∀ g : Heap, K'.In g → g.NoSeer) ∧ ∀ H b xs, SqL K' H b xs → SqL K H b xs := by
  obtain ⟨mc, ⟨o1, es1, ep1, g1, d1, r1⟩, c1, c2⟩ := sr.statics
  obtain ⟨mm, ⟨o2, es2, ep2, g2, d2, r2⟩, c3⟩ := sr.mods
  obtain ⟨mb, ⟨o3, es3, ep3, g3, d3, r3⟩, c4⟩ := sr.imp
  obtain ⟨mg, bm, ob, ⟨o4, es4, ep4, g4, d4, r4⟩, c5, c6, c7, c8⟩ := sr.main
  have hr : ∀ b o, (b, o) ∈ [(cStatics, o1), (sysModules, o2), (builtinsNs, o3), (mainGlobals, o4), (bm, ob)] → h.get? b = some o := fun b o hm => by
    simp only [List.mem_cons, List.not_mem_nil, or_false, Prod.mk.injEq] at hm
    rcases hm with ⟨rfl, rfl⟩ | ⟨rfl, rfl⟩ | ⟨rfl, rfl⟩ | ⟨rfl, rfl⟩ | ⟨rfl, rfl⟩
    · exact g1
    · exact g2
    · exact g3
    · exact g4
    · exact c6
  have hc : ∀ b o, (b, o) ∈ [(cStatics, o1), (sysModules, o2), (builtinsNs, o3), (mainGlobals, o4), (bm, ob)] → ∀ its n, o.cls = .type "list" → o.data = .seq its n → False := fun b o hm its n q1 q2 => by
    simp only [List.mem_cons, List.not_mem_nil, or_false, Prod.mk.injEq] at hm
    rcases hm with ⟨rfl, rfl⟩ | ⟨rfl, rfl⟩ | ⟨rfl, rfl⟩ | ⟨rfl, rfl⟩ | ⟨rfl, rfl⟩
    · rw [d1] at q2; cases q2
    · rw [d2] at q2; cases q2
    · rw [d3] at q2; cases q2
    · rw [d4] at q2; cases q2
    · rw [c7] at q1
      have := Value.type.inj q1
      revert this
      decide
  generalize hl : [(cStatics, o1), (sysModules, o2), (builtinsNs, o3), (mainGlobals, o4), (bm, ob)] = rest at hr hc
  have inK : ∀ b o, List.lookup b (K ++ rest) = some o → h.get? b = some o := fun b o q => by
    rw [List.lookup_append] at q
    cases q2 : List.lookup b K with
    | some u => rw [q2] at q; exact X b o (q2.trans q)
    | none => rw [q2] at q; exact hr b o (look_mem q)
  have at_ : ∀ (g : Heap), (∀ b o, List.lookup b (K ++ rest) = some o → g.get? b = some o) → ∀ b o, (b, o) ∈ rest → g.get? b = some o := fun g hg b o hm => by
    obtain ⟨u, hu⟩ := look_some (List.mem_append_right K hm)
    have e := inK b u hu
    rw [hr b o hm] at e
    have e : o = u := Option.some.inj e
    rw [e]
    exact hg b u hu
  refine ⟨K ++ rest, inK, fun g hg b o q => hg b o (by show List.lookup b (K ++ rest) = some o; rw [List.lookup_append, show List.lookup b K = some o from q]; rfl), fun g hg => ?_, fun H b xs q => ?_⟩
  · have A := at_ g hg
    rw [← hl] at A
    exact ⟨⟨mc, ⟨o1, es1, ep1, A _ _ (by simp), d1, r1⟩, c1, c2⟩, ⟨mm, ⟨o2, es2, ep2, A _ _ (by simp), d2, r2⟩, c3⟩, ⟨mb, ⟨o3, es3, ep3, A _ _ (by simp), d3, r3⟩, c4⟩, ⟨mg, bm, ob, ⟨o4, es4, ep4, A _ _ (by simp), d4, r4⟩, c5, A _ _ (by simp), c7, c8⟩⟩
  · rcases q with q | ⟨o, its, n, q1, q2, q3, q4, q5, q6⟩
    · exact .inl q
    · refine .inr ⟨o, its, n, ?_, q2, q3, q4, q5, q6⟩
      have q1 : List.lookup b (K ++ rest) = some o := q1
      rw [List.lookup_append] at q1
      cases z : List.lookup b K with
      | some u => rw [z] at q1; exact q1
      | none => rw [z] at q1; exact (hc b o (look_mem q1) its n q2 q4).elim
theorem walk_end {r : PySem.W.OpenSpec} {k : Nat} {q : Program} {loose : List Str} {XP : (Str → Option Value) → Heap → Prop} {YP : World → Heap → Prop} {d : DefRec} {K : Params → PySem.W.Frag} {ps : List Str} {sp : PySem.W.Frag → Sp}
    (hq : importsNone q = true) (hwell : r.wellSaid = true) (hlen : r.args.length = ps.length) (room : Room k callerA) (hY : ∀ (w : World) (h : Heap), YP w h → (K w.params).In h)
    (F : ∀ (w : World) (mg : Str → Option Value) (fa : Addr) (h : Heap), YP w h → (K w.params).In h → h.Ns mainGlobals mg → mg d.name = some (.ref fa) →
      ∃ fd : FuncData, (∀ (s : Shared) (us : List Value), us.length = ps.length → BindsTo s fd ⟨us, []⟩ (ps.zip us)) ∧ ∀ base : Heap, base.NoSeer → FnOk r.prog w (K w.params) mg base CX0 k fa fd ps (sp (K w.params)))
    (S : ∀ (K K' : PySem.W.Frag), (∀ H b xs, SqL K' H b xs → SqL K H b xs) → ∀ (H : Hp) (xs : List V) (a : Codec.denoteAll r.args), OnlyF H → Codec.withinAll r.args a = true → Codec.app r.args r.asked a = true → DwAll K' H xs (Codec.encAll r.args a) →
      sp K xs H (fun v H' => Dw K' H' v (r.ret.enc (Codec.app r.args r.f a))) fun _ _ _ => False) : PySem.W.WalkOS q loose XP YP r d [] (fun f vs => PySem.call f vs) := by
  intro w sa sb mg mb gr yt fa ob pm cd doc dv kv o1 o2 o3 o4 nm gn args vals as pr lay rd wl low
  obtain ⟨a, e1, e2⟩ := PySem.W.os_pre_some pr
  obtain ⟨e3, wi⟩ := Codec.encAll_of_decAll r.args args a e1
  subst e3
  obtain ⟨fd, bd, ok⟩ := F w mg fa _ yt (hY w _ yt) gr.T.g nm
  obtain ⟨K', i1, i2, i3, i4⟩ := widen (hY w _ yt) (gr.T.seer hq)
  have run := spec_call (P := r.prog) (w := w) (K := K') (CX := CX0) (R := []) (cl := classAt sa.heap) (d0 := r.ret.enc (Codec.app r.args r.f a)) (sp := sp (K w.params))
    i1 gr.T.g gr.T.b gr.T.builtins gr.T.nolimit gn wl (pl_encAll _ _) (layable_weight lay) room
    (fun base hb _ => fn_wide i2 (ok base (i3 base hb))) bd (by rw [encAll_len]; exact hlen)
    (fun H xs hO hx => S (K w.params) K' i4 H xs a hO wi e2 hx) (fun _ _ _ z => z)
  refine PySem.W.enter_call (codeAny_mono run fun res st h => ?_)
  obtain ⟨u, bs, rfl, z1, z2, z3, z4⟩ := h
  refine ⟨.inl ⟨u, _, bs, rfl, fun _ => rfl, z1, ?_, fun z => ?_⟩, z2, z3, z4⟩
  · exact (PySem.W.OpenSpec.post_iff hwell wi _ _).mpr rfl
  · exact Bool.noConfusion (show false = true from z)
/-- the row's def, from what the top has written -/
theorem row_done {P : Program} {w : World} {K : PySem.W.Frag} {mg : Str → Option Value} {fa : Addr} {a : Ad} (hfa : mg "answers" = some (.ref fa)) (D : Df K mg "answers" (top 122) 122) (T : ∀ base : Heap, base.NoSeer → Wd P w K mg base a) :
    ∃ fd : FuncData, (∀ (s : Shared) (us : List Value), us.length = (["calls"] : List Str).length → BindsTo s fd ⟨us, []⟩ ((["calls"] : List Str).zip us)) ∧ ∀ base : Heap, base.NoSeer → FnOk P w K mg base CX0 62 fa fd ["calls"] (TopSp K) := by
  obtain ⟨f, fd, h1, F⟩ := D.ex
  rw [hfa] at h1
  have e : fa = f := Value.ref.inj (Option.some.inj h1)
  subst e
  refine ⟨fd, fun s us hu => ?_, fun base hb => ok_answers (T base hb) F⟩
  obtain ⟨oc, od, kV, dc, pm, an, cd, ct, sl, rfl, _, _⟩ := F.ex
  exact match us, hu with
    | [_], _ => .of_eq rfl
end LW

set_option linter.all false
set_option Elab.async false
set_option maxRecDepth 100000
set_option maxHeartbeats 8000000
namespace LW
open PySem PySem.Spec PyProof.Rows L2
theorem all_done {P : Program} {w : World} {K : PySem.W.Frag} {mg : Str → Option Value} {h : Heap} {fa : Addr} (X : K.In h) (G : h.Ns mainGlobals mg) (hfa : mg "answers" = some (.ref fa))
    {f_is_within : Addr} {od_is_within an_is_within : Option Addr} {sl_is_within : Array (Option Value)} {oc_is_within kV_is_within dc_is_within pm_is_within cd_is_within ct_is_within : Value}
    {f_are_within : Addr} {od_are_within an_are_within : Option Addr} {sl_are_within : Array (Option Value)} {oc_are_within kV_are_within dc_are_within pm_are_within cd_are_within ct_are_within : Value}
    {f_is_vector : Addr} {od_is_vector an_is_vector : Option Addr} {sl_is_vector : Array (Option Value)} {oc_is_vector kV_is_vector dc_is_vector pm_is_vector cd_is_vector ct_is_vector : Value}
    {f_is_index : Addr} {od_is_index an_is_index : Option Addr} {sl_is_index : Array (Option Value)} {oc_is_index kV_is_index dc_is_index pm_is_index cd_is_index ct_is_index : Value}
    {f_are_terms : Addr} {od_are_terms an_are_terms : Option Addr} {sl_are_terms : Array (Option Value)} {oc_are_terms kV_are_terms dc_are_terms pm_are_terms cd_are_terms ct_are_terms : Value}
    {f_is_surface : Addr} {od_is_surface an_is_surface : Option Addr} {sl_is_surface : Array (Option Value)} {oc_is_surface kV_is_surface dc_is_surface pm_is_surface cd_is_surface ct_is_surface : Value}
    {f_common : Addr} {od_common an_common : Option Addr} {sl_common : Array (Option Value)} {oc_common kV_common dc_common pm_common cd_common ct_common : Value}
    {f_multiple : Addr} {od_multiple an_multiple : Option Addr} {sl_multiple : Array (Option Value)} {oc_multiple kV_multiple dc_multiple pm_multiple cd_multiple ct_multiple : Value}
    {f_ratio : Addr} {od_ratio an_ratio : Option Addr} {sl_ratio : Array (Option Value)} {oc_ratio kV_ratio dc_ratio pm_ratio cd_ratio ct_ratio : Value}
    {f_plus : Addr} {od_plus an_plus : Option Addr} {sl_plus : Array (Option Value)} {oc_plus kV_plus dc_plus pm_plus cd_plus ct_plus : Value}
    {f_minus : Addr} {od_minus an_minus : Option Addr} {sl_minus : Array (Option Value)} {oc_minus kV_minus dc_minus pm_minus cd_minus ct_minus : Value}
    {f_times : Addr} {od_times an_times : Option Addr} {sl_times : Array (Option Value)} {oc_times kV_times dc_times pm_times cd_times ct_times : Value}
    {f_over : Addr} {od_over an_over : Option Addr} {sl_over : Array (Option Value)} {oc_over kV_over dc_over pm_over cd_over ct_over : Value}
    {f_square : Addr} {od_square an_square : Option Addr} {sl_square : Array (Option Value)} {oc_square kV_square dc_square pm_square cd_square ct_square : Value}
    {f_term_count : Addr} {od_term_count an_term_count : Option Addr} {sl_term_count : Array (Option Value)} {oc_term_count kV_term_count dc_term_count pm_term_count cd_term_count ct_term_count : Value}
    {f_responses_of : Addr} {od_responses_of an_responses_of : Option Addr} {sl_responses_of : Array (Option Value)} {oc_responses_of kV_responses_of dc_responses_of pm_responses_of cd_responses_of ct_responses_of : Value}
    {f_entries_of : Addr} {od_entries_of an_entries_of : Option Addr} {sl_entries_of : Array (Option Value)} {oc_entries_of kV_entries_of dc_entries_of pm_entries_of cd_entries_of ct_entries_of : Value}
    {f_entries_at : Addr} {od_entries_at an_entries_at : Option Addr} {sl_entries_at : Array (Option Value)} {oc_entries_at kV_entries_at dc_entries_at pm_entries_at cd_entries_at ct_entries_at : Value}
    {f_places_below : Addr} {od_places_below an_places_below : Option Addr} {sl_places_below : Array (Option Value)} {oc_places_below kV_places_below dc_places_below pm_places_below cd_places_below ct_places_below : Value}
    {f_places_beside : Addr} {od_places_beside an_places_beside : Option Addr} {sl_places_beside : Array (Option Value)} {oc_places_beside kV_places_beside dc_places_beside pm_places_beside cd_places_beside ct_places_beside : Value}
    {f_lowered : Addr} {od_lowered an_lowered : Option Addr} {sl_lowered : Array (Option Value)} {oc_lowered kV_lowered dc_lowered pm_lowered cd_lowered ct_lowered : Value}
    {f_cleared : Addr} {od_cleared an_cleared : Option Addr} {sl_cleared : Array (Option Value)} {oc_cleared kV_cleared dc_cleared pm_cleared cd_cleared ct_cleared : Value}
    {f_first_with : Addr} {od_first_with an_first_with : Option Addr} {sl_first_with : Array (Option Value)} {oc_first_with kV_first_with dc_first_with pm_first_with cd_first_with ct_first_with : Value}
    {f_without : Addr} {od_without an_without : Option Addr} {sl_without : Array (Option Value)} {oc_without kV_without dc_without pm_without cd_without ct_without : Value}
    {f_rank_of : Addr} {od_rank_of an_rank_of : Option Addr} {sl_rank_of : Array (Option Value)} {oc_rank_of kV_rank_of dc_rank_of pm_rank_of cd_rank_of ct_rank_of : Value}
    {f_leads_of : Addr} {od_leads_of an_leads_of : Option Addr} {sl_leads_of : Array (Option Value)} {oc_leads_of kV_leads_of dc_leads_of pm_leads_of cd_leads_of ct_leads_of : Value}
    {f_solved : Addr} {od_solved an_solved : Option Addr} {sl_solved : Array (Option Value)} {oc_solved kV_solved dc_solved pm_solved cd_solved ct_solved : Value}
    {f_product : Addr} {od_product an_product : Option Addr} {sl_product : Array (Option Value)} {oc_product kV_product dc_product pm_product cd_product ct_product : Value}
    {f_column : Addr} {od_column an_column : Option Addr} {sl_column : Array (Option Value)} {oc_column kV_column dc_column pm_column cd_column ct_column : Value}
    {f_products : Addr} {od_products an_products : Option Addr} {sl_products : Array (Option Value)} {oc_products kV_products dc_products pm_products cd_products ct_products : Value}
    {f_right_sides : Addr} {od_right_sides an_right_sides : Option Addr} {sl_right_sides : Array (Option Value)} {oc_right_sides kV_right_sides dc_right_sides pm_right_sides cd_right_sides ct_right_sides : Value}
    {f_solved_for : Addr} {od_solved_for an_solved_for : Option Addr} {sl_solved_for : Array (Option Value)} {oc_solved_for kV_solved_for dc_solved_for pm_solved_for cd_solved_for ct_solved_for : Value}
    {f_best_fit : Addr} {od_best_fit an_best_fit : Option Addr} {sl_best_fit : Array (Option Value)} {oc_best_fit kV_best_fit dc_best_fit pm_best_fit cd_best_fit ct_best_fit : Value}
    {f_weighed : Addr} {od_weighed an_weighed : Option Addr} {sl_weighed : Array (Option Value)} {oc_weighed kV_weighed dc_weighed pm_weighed cd_weighed ct_weighed : Value}
    {f_residual_sum_of : Addr} {od_residual_sum_of an_residual_sum_of : Option Addr} {sl_residual_sum_of : Array (Option Value)} {oc_residual_sum_of kV_residual_sum_of dc_residual_sum_of pm_residual_sum_of cd_residual_sum_of ct_residual_sum_of : Value}
    {f_pairs_of : Addr} {od_pairs_of an_pairs_of : Option Addr} {sl_pairs_of : Array (Option Value)} {oc_pairs_of kV_pairs_of dc_pairs_of pm_pairs_of cd_pairs_of ct_pairs_of : Value}
    {f_hessian : Addr} {od_hessian an_hessian : Option Addr} {sl_hessian : Array (Option Value)} {oc_hessian kV_hessian dc_hessian pm_hessian cd_hessian ct_hessian : Value}
    {f_determinant : Addr} {od_determinant an_determinant : Option Addr} {sl_determinant : Array (Option Value)} {oc_determinant kV_determinant dc_determinant pm_determinant cd_determinant ct_determinant : Value}
    {f_leading_minors : Addr} {od_leading_minors an_leading_minors : Option Addr} {sl_leading_minors : Array (Option Value)} {oc_leading_minors kV_leading_minors dc_leading_minors pm_leading_minors cd_leading_minors ct_leading_minors : Value}
    {f_is_turned : Addr} {od_is_turned an_is_turned : Option Addr} {sl_is_turned : Array (Option Value)} {oc_is_turned kV_is_turned dc_is_turned pm_is_turned cd_is_turned ct_is_turned : Value}
    {f_kind_of : Addr} {od_kind_of an_kind_of : Option Addr} {sl_kind_of : Array (Option Value)} {oc_kind_of kV_kind_of dc_kind_of pm_kind_of cd_kind_of ct_kind_of : Value}
    {f_point_of : Addr} {od_point_of an_point_of : Option Addr} {sl_point_of : Array (Option Value)} {oc_point_of kV_point_of dc_point_of pm_point_of cd_point_of ct_point_of : Value}
    {f_value_at : Addr} {od_value_at an_value_at : Option Addr} {sl_value_at : Array (Option Value)} {oc_value_at kV_value_at dc_value_at pm_value_at cd_value_at ct_value_at : Value}
    {f_rank : Addr} {od_rank an_rank : Option Addr} {sl_rank : Array (Option Value)} {oc_rank kV_rank dc_rank pm_rank cd_rank ct_rank : Value}
    {f_freedom : Addr} {od_freedom an_freedom : Option Addr} {sl_freedom : Array (Option Value)} {oc_freedom kV_freedom dc_freedom pm_freedom cd_freedom ct_freedom : Value}
    {f_solution : Addr} {od_solution an_solution : Option Addr} {sl_solution : Array (Option Value)} {oc_solution kV_solution dc_solution pm_solution cd_solution ct_solution : Value}
    {f_estimate_of : Addr} {od_estimate_of an_estimate_of : Option Addr} {sl_estimate_of : Array (Option Value)} {oc_estimate_of kV_estimate_of dc_estimate_of pm_estimate_of cd_estimate_of ct_estimate_of : Value}
    {f_factor_of : Addr} {od_factor_of an_factor_of : Option Addr} {sl_factor_of : Array (Option Value)} {oc_factor_of kV_factor_of dc_factor_of pm_factor_of cd_factor_of ct_factor_of : Value}
    {f_is_estimable : Addr} {od_is_estimable an_is_estimable : Option Addr} {sl_is_estimable : Array (Option Value)} {oc_is_estimable kV_is_estimable dc_is_estimable pm_is_estimable cd_is_estimable ct_is_estimable : Value}
    {f_residual_sum : Addr} {od_residual_sum an_residual_sum : Option Addr} {sl_residual_sum : Array (Option Value)} {oc_residual_sum kV_residual_sum dc_residual_sum pm_residual_sum cd_residual_sum ct_residual_sum : Value}
    {f_variance_of : Addr} {od_variance_of an_variance_of : Option Addr} {sl_variance_of : Array (Option Value)} {oc_variance_of kV_variance_of dc_variance_of pm_variance_of cd_variance_of ct_variance_of : Value}
    {f_looked_at : Addr} {od_looked_at an_looked_at : Option Addr} {sl_looked_at : Array (Option Value)} {oc_looked_at kV_looked_at dc_looked_at pm_looked_at cd_looked_at ct_looked_at : Value}
    {f_told_between : Addr} {od_told_between an_told_between : Option Addr} {sl_told_between : Array (Option Value)} {oc_told_between kV_told_between dc_told_between pm_told_between cd_told_between ct_told_between : Value}
    {f_sequential_of : Addr} {od_sequential_of an_sequential_of : Option Addr} {sl_sequential_of : Array (Option Value)} {oc_sequential_of kV_sequential_of dc_sequential_of pm_sequential_of cd_sequential_of ct_sequential_of : Value}
    {f_marginal_at : Addr} {od_marginal_at an_marginal_at : Option Addr} {sl_marginal_at : Array (Option Value)} {oc_marginal_at kV_marginal_at dc_marginal_at pm_marginal_at cd_marginal_at ct_marginal_at : Value}
    {f_marginal_of : Addr} {od_marginal_of an_marginal_of : Option Addr} {sl_marginal_of : Array (Option Value)} {oc_marginal_of kV_marginal_of dc_marginal_of pm_marginal_of cd_marginal_of ct_marginal_of : Value}
    {f_groups_of : Addr} {od_groups_of an_groups_of : Option Addr} {sl_groups_of : Array (Option Value)} {oc_groups_of kV_groups_of dc_groups_of pm_groups_of cd_groups_of ct_groups_of : Value}
    {f_spread : Addr} {od_spread an_spread : Option Addr} {sl_spread : Array (Option Value)} {oc_spread kV_spread dc_spread pm_spread cd_spread ct_spread : Value}
    {f_pure_error : Addr} {od_pure_error an_pure_error : Option Addr} {sl_pure_error : Array (Option Value)} {oc_pure_error kV_pure_error dc_pure_error pm_pure_error cd_pure_error ct_pure_error : Value}
    {f_tell_rank : Addr} {od_tell_rank an_tell_rank : Option Addr} {sl_tell_rank : Array (Option Value)} {oc_tell_rank kV_tell_rank dc_tell_rank pm_tell_rank cd_tell_rank ct_tell_rank : Value}
    {f_tell_coefficients : Addr} {od_tell_coefficients an_tell_coefficients : Option Addr} {sl_tell_coefficients : Array (Option Value)} {oc_tell_coefficients kV_tell_coefficients dc_tell_coefficients pm_tell_coefficients cd_tell_coefficients ct_tell_coefficients : Value}
    {f_tell_estimate : Addr} {od_tell_estimate an_tell_estimate : Option Addr} {sl_tell_estimate : Array (Option Value)} {oc_tell_estimate kV_tell_estimate dc_tell_estimate pm_tell_estimate cd_tell_estimate ct_tell_estimate : Value}
    {f_tell_covariance : Addr} {od_tell_covariance an_tell_covariance : Option Addr} {sl_tell_covariance : Array (Option Value)} {oc_tell_covariance kV_tell_covariance dc_tell_covariance pm_tell_covariance cd_tell_covariance ct_tell_covariance : Value}
    {f_tell_squared_ratio : Addr} {od_tell_squared_ratio an_tell_squared_ratio : Option Addr} {sl_tell_squared_ratio : Array (Option Value)} {oc_tell_squared_ratio kV_tell_squared_ratio dc_tell_squared_ratio pm_tell_squared_ratio cd_tell_squared_ratio ct_tell_squared_ratio : Value}
    {f_fitted_at : Addr} {od_fitted_at an_fitted_at : Option Addr} {sl_fitted_at : Array (Option Value)} {oc_fitted_at kV_fitted_at dc_fitted_at pm_fitted_at cd_fitted_at ct_fitted_at : Value}
    {f_leverage_at : Addr} {od_leverage_at an_leverage_at : Option Addr} {sl_leverage_at : Array (Option Value)} {oc_leverage_at kV_leverage_at dc_leverage_at pm_leverage_at cd_leverage_at ct_leverage_at : Value}
    {f_tell_fitted : Addr} {od_tell_fitted an_tell_fitted : Option Addr} {sl_tell_fitted : Array (Option Value)} {oc_tell_fitted kV_tell_fitted dc_tell_fitted pm_tell_fitted cd_tell_fitted ct_tell_fitted : Value}
    {f_tell_leverage : Addr} {od_tell_leverage an_tell_leverage : Option Addr} {sl_tell_leverage : Array (Option Value)} {oc_tell_leverage kV_tell_leverage dc_tell_leverage pm_tell_leverage cd_tell_leverage ct_tell_leverage : Value}
    {f_tell_deleted : Addr} {od_tell_deleted an_tell_deleted : Option Addr} {sl_tell_deleted : Array (Option Value)} {oc_tell_deleted kV_tell_deleted dc_tell_deleted pm_tell_deleted cd_tell_deleted ct_tell_deleted : Value}
    {f_tell_residual_sum : Addr} {od_tell_residual_sum an_tell_residual_sum : Option Addr} {sl_tell_residual_sum : Array (Option Value)} {oc_tell_residual_sum kV_tell_residual_sum dc_tell_residual_sum pm_tell_residual_sum cd_tell_residual_sum ct_tell_residual_sum : Value}
    {f_tell_variance : Addr} {od_tell_variance an_tell_variance : Option Addr} {sl_tell_variance : Array (Option Value)} {oc_tell_variance kV_tell_variance dc_tell_variance pm_tell_variance cd_tell_variance ct_tell_variance : Value}
    {f_terms_told : Addr} {od_terms_told an_terms_told : Option Addr} {sl_terms_told : Array (Option Value)} {oc_terms_told kV_terms_told dc_terms_told pm_terms_told cd_terms_told ct_terms_told : Value}
    {f_tell_sequential : Addr} {od_tell_sequential an_tell_sequential : Option Addr} {sl_tell_sequential : Array (Option Value)} {oc_tell_sequential kV_tell_sequential dc_tell_sequential pm_tell_sequential cd_tell_sequential ct_tell_sequential : Value}
    {f_tell_marginal : Addr} {od_tell_marginal an_tell_marginal : Option Addr} {sl_tell_marginal : Array (Option Value)} {oc_tell_marginal kV_tell_marginal dc_tell_marginal pm_tell_marginal cd_tell_marginal ct_tell_marginal : Value}
    {f_tell_f_ratio : Addr} {od_tell_f_ratio an_tell_f_ratio : Option Addr} {sl_tell_f_ratio : Array (Option Value)} {oc_tell_f_ratio kV_tell_f_ratio dc_tell_f_ratio pm_tell_f_ratio cd_tell_f_ratio ct_tell_f_ratio : Value}
    {f_tell_lack_of_fit : Addr} {od_tell_lack_of_fit an_tell_lack_of_fit : Option Addr} {sl_tell_lack_of_fit : Array (Option Value)} {oc_tell_lack_of_fit kV_tell_lack_of_fit dc_tell_lack_of_fit pm_tell_lack_of_fit cd_tell_lack_of_fit ct_tell_lack_of_fit : Value}
    {f_tell_predict : Addr} {od_tell_predict an_tell_predict : Option Addr} {sl_tell_predict : Array (Option Value)} {oc_tell_predict kV_tell_predict dc_tell_predict pm_tell_predict cd_tell_predict ct_tell_predict : Value}
    {f_model_without : Addr} {od_model_without an_model_without : Option Addr} {sl_model_without : Array (Option Value)} {oc_model_without kV_model_without dc_model_without pm_model_without cd_model_without ct_model_without : Value}
    {f_tell_lost_value : Addr} {od_tell_lost_value an_tell_lost_value : Option Addr} {sl_tell_lost_value : Array (Option Value)} {oc_tell_lost_value kV_tell_lost_value dc_tell_lost_value pm_tell_lost_value cd_tell_lost_value ct_tell_lost_value : Value}
    {f_tell_stationary : Addr} {od_tell_stationary an_tell_stationary : Option Addr} {sl_tell_stationary : Array (Option Value)} {oc_tell_stationary kV_tell_stationary dc_tell_stationary pm_tell_stationary cd_tell_stationary ct_tell_stationary : Value}
    {f_create : Addr} {od_create an_create : Option Addr} {sl_create : Array (Option Value)} {oc_create kV_create dc_create pm_create cd_create ct_create : Value}
    {f_add_row : Addr} {od_add_row an_add_row : Option Addr} {sl_add_row : Array (Option Value)} {oc_add_row kV_add_row dc_add_row pm_add_row cd_add_row ct_add_row : Value}
    {f_remove_row : Addr} {od_remove_row an_remove_row : Option Addr} {sl_remove_row : Array (Option Value)} {oc_remove_row kV_remove_row dc_remove_row pm_remove_row cd_remove_row ct_remove_row : Value}
    {f_set_response : Addr} {od_set_response an_set_response : Option Addr} {sl_set_response : Array (Option Value)} {oc_set_response kV_set_response dc_set_response pm_set_response cd_set_response ct_set_response : Value}
    {f_set_terms : Addr} {od_set_terms an_set_terms : Option Addr} {sl_set_terms : Array (Option Value)} {oc_set_terms kV_set_terms dc_set_terms pm_set_terms cd_set_terms ct_set_terms : Value}
    {f_clear_rows : Addr} {od_clear_rows an_clear_rows : Option Addr} {sl_clear_rows : Array (Option Value)} {oc_clear_rows kV_clear_rows dc_clear_rows pm_clear_rows cd_clear_rows ct_clear_rows : Value}
    {f_get_row : Addr} {od_get_row an_get_row : Option Addr} {sl_get_row : Array (Option Value)} {oc_get_row kV_get_row dc_get_row pm_get_row cd_get_row ct_get_row : Value}
    {f_normal_equations : Addr} {od_normal_equations an_normal_equations : Option Addr} {sl_normal_equations : Array (Option Value)} {oc_normal_equations kV_normal_equations dc_normal_equations pm_normal_equations cd_normal_equations ct_normal_equations : Value}
    {f_summary : Addr} {od_summary an_summary : Option Addr} {sl_summary : Array (Option Value)} {oc_summary kV_summary dc_summary pm_summary cd_summary ct_summary : Value}
    {f_lists_at : Addr} {od_lists_at an_lists_at : Option Addr} {sl_lists_at : Array (Option Value)} {oc_lists_at kV_lists_at dc_lists_at pm_lists_at cd_lists_at ct_lists_at : Value}
    {f_answer : Addr} {od_answer an_answer : Option Addr} {sl_answer : Array (Option Value)} {oc_answer kV_answer dc_answer pm_answer cd_answer ct_answer : Value}
    {f_answers : Addr} {od_answers an_answers : Option Addr} {sl_answers : Array (Option Value)} {oc_answers kV_answers dc_answers pm_answers cd_answers ct_answers : Value}
    {t_CREATE : Nat}
    {t_FULL : Nat}
    {t_GREATEST : Nat}
    {t_MAXIMUM : Nat}
    {t_MINIMUM : Nat}
    {t_MOST_COLUMNS : Nat}
    {t_MOST_ENTRY : Nat}
    {t_MOST_ROWS : Nat}
    {t_MOST_VARIABLES : Nat}
    {t_NO_MODEL : Nat}
    {t_NO_RESULT : Nat}
    {t_NO_SUCH : Nat}
    {t_OUT_OF_RANGE : Nat}
    {t_SADDLE : Nat}
    {r_ONE : Addr} {ro_ONE : Option Addr} {rs_ONE : Array (Option Value)} {ri_ONE : Array Value} {rn_ONE : Nat}
    {r_ZERO : Addr} {ro_ZERO : Option Addr} {rs_ZERO : Array (Option Value)} {ri_ZERO : Array Value} {rn_ZERO : Nat}
    {r_NUMBERS : Addr} {ro_NUMBERS : Option Addr} {rs_NUMBERS : Array (Option Value)} {ri_NUMBERS : Array Value} {rn_NUMBERS : Nat}
    {r_LISTS : Addr} {ro_LISTS : Option Addr} {rs_LISTS : Array (Option Value)} {ri_LISTS : Array Value} {rn_LISTS : Nat}
    {r_DEEDS : Addr} {ro_DEEDS : Option Addr} {rs_DEEDS : Array (Option Value)} {ri_DEEDS : Array Value} {rn_DEEDS : Nat}
    {cM fcM : Addr} {odcM ancM : Option Addr} {slcM : Array (Option Value)} {occM kVcM dccM pmcM cdcM ctcM : Value}
    {cD fcD : Addr} {odcD ancD : Option Addr} {slcD : Array (Option Value)} {occD kVcD dccD pmcD cdcD ctcD : Value}
    (n_is_within : PySem.W.nsIn K mainGlobals "is_within" = some (some (.ref f_is_within)))
    (l_is_within : K.lookup f_is_within = some ⟨oc_is_within, od_is_within, .func (PySem.W.fnOf "is_within" "is_within" (defArgs (top 11)) (defBody (top 11)) (defScope (top 11)) .none kV_is_within dc_is_within pm_is_within an_is_within cd_is_within ct_is_within), sl_is_within⟩)
    (c_is_within : PySem.W.codeIn K cd_is_within "is_within" = true)
    (k_is_within : PySem.W.keepIn K (.ref f_is_within) = true)
    (n_are_within : PySem.W.nsIn K mainGlobals "are_within" = some (some (.ref f_are_within)))
    (l_are_within : K.lookup f_are_within = some ⟨oc_are_within, od_are_within, .func (PySem.W.fnOf "are_within" "are_within" (defArgs (top 12)) (defBody (top 12)) (defScope (top 12)) .none kV_are_within dc_are_within pm_are_within an_are_within cd_are_within ct_are_within), sl_are_within⟩)
    (c_are_within : PySem.W.codeIn K cd_are_within "are_within" = true)
    (k_are_within : PySem.W.keepIn K (.ref f_are_within) = true)
    (n_is_vector : PySem.W.nsIn K mainGlobals "is_vector" = some (some (.ref f_is_vector)))
    (l_is_vector : K.lookup f_is_vector = some ⟨oc_is_vector, od_is_vector, .func (PySem.W.fnOf "is_vector" "is_vector" (defArgs (top 13)) (defBody (top 13)) (defScope (top 13)) .none kV_is_vector dc_is_vector pm_is_vector an_is_vector cd_is_vector ct_is_vector), sl_is_vector⟩)
    (c_is_vector : PySem.W.codeIn K cd_is_vector "is_vector" = true)
    (k_is_vector : PySem.W.keepIn K (.ref f_is_vector) = true)
    (n_is_index : PySem.W.nsIn K mainGlobals "is_index" = some (some (.ref f_is_index)))
    (l_is_index : K.lookup f_is_index = some ⟨oc_is_index, od_is_index, .func (PySem.W.fnOf "is_index" "is_index" (defArgs (top 14)) (defBody (top 14)) (defScope (top 14)) .none kV_is_index dc_is_index pm_is_index an_is_index cd_is_index ct_is_index), sl_is_index⟩)
    (c_is_index : PySem.W.codeIn K cd_is_index "is_index" = true)
    (k_is_index : PySem.W.keepIn K (.ref f_is_index) = true)
    (n_are_terms : PySem.W.nsIn K mainGlobals "are_terms" = some (some (.ref f_are_terms)))
    (l_are_terms : K.lookup f_are_terms = some ⟨oc_are_terms, od_are_terms, .func (PySem.W.fnOf "are_terms" "are_terms" (defArgs (top 15)) (defBody (top 15)) (defScope (top 15)) .none kV_are_terms dc_are_terms pm_are_terms an_are_terms cd_are_terms ct_are_terms), sl_are_terms⟩)
    (c_are_terms : PySem.W.codeIn K cd_are_terms "are_terms" = true)
    (k_are_terms : PySem.W.keepIn K (.ref f_are_terms) = true)
    (n_is_surface : PySem.W.nsIn K mainGlobals "is_surface" = some (some (.ref f_is_surface)))
    (l_is_surface : K.lookup f_is_surface = some ⟨oc_is_surface, od_is_surface, .func (PySem.W.fnOf "is_surface" "is_surface" (defArgs (top 16)) (defBody (top 16)) (defScope (top 16)) .none kV_is_surface dc_is_surface pm_is_surface an_is_surface cd_is_surface ct_is_surface), sl_is_surface⟩)
    (c_is_surface : PySem.W.codeIn K cd_is_surface "is_surface" = true)
    (k_is_surface : PySem.W.keepIn K (.ref f_is_surface) = true)
    (n_common : PySem.W.nsIn K mainGlobals "common" = some (some (.ref f_common)))
    (l_common : K.lookup f_common = some ⟨oc_common, od_common, .func (PySem.W.fnOf "common" "common" (defArgs (top 20)) (defBody (top 20)) (defScope (top 20)) .none kV_common dc_common pm_common an_common cd_common ct_common), sl_common⟩)
    (c_common : PySem.W.codeIn K cd_common "common" = true)
    (k_common : PySem.W.keepIn K (.ref f_common) = true)
    (n_multiple : PySem.W.nsIn K mainGlobals "multiple" = some (some (.ref f_multiple)))
    (l_multiple : K.lookup f_multiple = some ⟨oc_multiple, od_multiple, .func (PySem.W.fnOf "multiple" "multiple" (defArgs (top 21)) (defBody (top 21)) (defScope (top 21)) .none kV_multiple dc_multiple pm_multiple an_multiple cd_multiple ct_multiple), sl_multiple⟩)
    (c_multiple : PySem.W.codeIn K cd_multiple "multiple" = true)
    (k_multiple : PySem.W.keepIn K (.ref f_multiple) = true)
    (n_ratio : PySem.W.nsIn K mainGlobals "ratio" = some (some (.ref f_ratio)))
    (l_ratio : K.lookup f_ratio = some ⟨oc_ratio, od_ratio, .func (PySem.W.fnOf "ratio" "ratio" (defArgs (top 22)) (defBody (top 22)) (defScope (top 22)) .none kV_ratio dc_ratio pm_ratio an_ratio cd_ratio ct_ratio), sl_ratio⟩)
    (c_ratio : PySem.W.codeIn K cd_ratio "ratio" = true)
    (k_ratio : PySem.W.keepIn K (.ref f_ratio) = true)
    (n_plus : PySem.W.nsIn K mainGlobals "plus" = some (some (.ref f_plus)))
    (l_plus : K.lookup f_plus = some ⟨oc_plus, od_plus, .func (PySem.W.fnOf "plus" "plus" (defArgs (top 23)) (defBody (top 23)) (defScope (top 23)) .none kV_plus dc_plus pm_plus an_plus cd_plus ct_plus), sl_plus⟩)
    (c_plus : PySem.W.codeIn K cd_plus "plus" = true)
    (k_plus : PySem.W.keepIn K (.ref f_plus) = true)
    (n_minus : PySem.W.nsIn K mainGlobals "minus" = some (some (.ref f_minus)))
    (l_minus : K.lookup f_minus = some ⟨oc_minus, od_minus, .func (PySem.W.fnOf "minus" "minus" (defArgs (top 24)) (defBody (top 24)) (defScope (top 24)) .none kV_minus dc_minus pm_minus an_minus cd_minus ct_minus), sl_minus⟩)
    (c_minus : PySem.W.codeIn K cd_minus "minus" = true)
    (k_minus : PySem.W.keepIn K (.ref f_minus) = true)
    (n_times : PySem.W.nsIn K mainGlobals "times" = some (some (.ref f_times)))
    (l_times : K.lookup f_times = some ⟨oc_times, od_times, .func (PySem.W.fnOf "times" "times" (defArgs (top 25)) (defBody (top 25)) (defScope (top 25)) .none kV_times dc_times pm_times an_times cd_times ct_times), sl_times⟩)
    (c_times : PySem.W.codeIn K cd_times "times" = true)
    (k_times : PySem.W.keepIn K (.ref f_times) = true)
    (n_over : PySem.W.nsIn K mainGlobals "over" = some (some (.ref f_over)))
    (l_over : K.lookup f_over = some ⟨oc_over, od_over, .func (PySem.W.fnOf "over" "over" (defArgs (top 26)) (defBody (top 26)) (defScope (top 26)) .none kV_over dc_over pm_over an_over cd_over ct_over), sl_over⟩)
    (c_over : PySem.W.codeIn K cd_over "over" = true)
    (k_over : PySem.W.keepIn K (.ref f_over) = true)
    (n_square : PySem.W.nsIn K mainGlobals "square" = some (some (.ref f_square)))
    (l_square : K.lookup f_square = some ⟨oc_square, od_square, .func (PySem.W.fnOf "square" "square" (defArgs (top 27)) (defBody (top 27)) (defScope (top 27)) .none kV_square dc_square pm_square an_square cd_square ct_square), sl_square⟩)
    (c_square : PySem.W.codeIn K cd_square "square" = true)
    (k_square : PySem.W.keepIn K (.ref f_square) = true)
    (n_term_count : PySem.W.nsIn K mainGlobals "term_count" = some (some (.ref f_term_count)))
    (l_term_count : K.lookup f_term_count = some ⟨oc_term_count, od_term_count, .func (PySem.W.fnOf "term_count" "term_count" (defArgs (top 31)) (defBody (top 31)) (defScope (top 31)) .none kV_term_count dc_term_count pm_term_count an_term_count cd_term_count ct_term_count), sl_term_count⟩)
    (c_term_count : PySem.W.codeIn K cd_term_count "term_count" = true)
    (k_term_count : PySem.W.keepIn K (.ref f_term_count) = true)
    (n_responses_of : PySem.W.nsIn K mainGlobals "responses_of" = some (some (.ref f_responses_of)))
    (l_responses_of : K.lookup f_responses_of = some ⟨oc_responses_of, od_responses_of, .func (PySem.W.fnOf "responses_of" "responses_of" (defArgs (top 32)) (defBody (top 32)) (defScope (top 32)) .none kV_responses_of dc_responses_of pm_responses_of an_responses_of cd_responses_of ct_responses_of), sl_responses_of⟩)
    (c_responses_of : PySem.W.codeIn K cd_responses_of "responses_of" = true)
    (k_responses_of : PySem.W.keepIn K (.ref f_responses_of) = true)
    (n_entries_of : PySem.W.nsIn K mainGlobals "entries_of" = some (some (.ref f_entries_of)))
    (l_entries_of : K.lookup f_entries_of = some ⟨oc_entries_of, od_entries_of, .func (PySem.W.fnOf "entries_of" "entries_of" (defArgs (top 33)) (defBody (top 33)) (defScope (top 33)) .none kV_entries_of dc_entries_of pm_entries_of an_entries_of cd_entries_of ct_entries_of), sl_entries_of⟩)
    (c_entries_of : PySem.W.codeIn K cd_entries_of "entries_of" = true)
    (k_entries_of : PySem.W.keepIn K (.ref f_entries_of) = true)
    (n_entries_at : PySem.W.nsIn K mainGlobals "entries_at" = some (some (.ref f_entries_at)))
    (l_entries_at : K.lookup f_entries_at = some ⟨oc_entries_at, od_entries_at, .func (PySem.W.fnOf "entries_at" "entries_at" (defArgs (top 34)) (defBody (top 34)) (defScope (top 34)) .none kV_entries_at dc_entries_at pm_entries_at an_entries_at cd_entries_at ct_entries_at), sl_entries_at⟩)
    (c_entries_at : PySem.W.codeIn K cd_entries_at "entries_at" = true)
    (k_entries_at : PySem.W.keepIn K (.ref f_entries_at) = true)
    (n_places_below : PySem.W.nsIn K mainGlobals "places_below" = some (some (.ref f_places_below)))
    (l_places_below : K.lookup f_places_below = some ⟨oc_places_below, od_places_below, .func (PySem.W.fnOf "places_below" "places_below" (defArgs (top 35)) (defBody (top 35)) (defScope (top 35)) .none kV_places_below dc_places_below pm_places_below an_places_below cd_places_below ct_places_below), sl_places_below⟩)
    (c_places_below : PySem.W.codeIn K cd_places_below "places_below" = true)
    (k_places_below : PySem.W.keepIn K (.ref f_places_below) = true)
    (n_places_beside : PySem.W.nsIn K mainGlobals "places_beside" = some (some (.ref f_places_beside)))
    (l_places_beside : K.lookup f_places_beside = some ⟨oc_places_beside, od_places_beside, .func (PySem.W.fnOf "places_beside" "places_beside" (defArgs (top 36)) (defBody (top 36)) (defScope (top 36)) .none kV_places_beside dc_places_beside pm_places_beside an_places_beside cd_places_beside ct_places_beside), sl_places_beside⟩)
    (c_places_beside : PySem.W.codeIn K cd_places_beside "places_beside" = true)
    (k_places_beside : PySem.W.keepIn K (.ref f_places_beside) = true)
    (n_lowered : PySem.W.nsIn K mainGlobals "lowered" = some (some (.ref f_lowered)))
    (l_lowered : K.lookup f_lowered = some ⟨oc_lowered, od_lowered, .func (PySem.W.fnOf "lowered" "lowered" (defArgs (top 38)) (defBody (top 38)) (defScope (top 38)) .none kV_lowered dc_lowered pm_lowered an_lowered cd_lowered ct_lowered), sl_lowered⟩)
    (c_lowered : PySem.W.codeIn K cd_lowered "lowered" = true)
    (k_lowered : PySem.W.keepIn K (.ref f_lowered) = true)
    (n_cleared : PySem.W.nsIn K mainGlobals "cleared" = some (some (.ref f_cleared)))
    (l_cleared : K.lookup f_cleared = some ⟨oc_cleared, od_cleared, .func (PySem.W.fnOf "cleared" "cleared" (defArgs (top 39)) (defBody (top 39)) (defScope (top 39)) .none kV_cleared dc_cleared pm_cleared an_cleared cd_cleared ct_cleared), sl_cleared⟩)
    (c_cleared : PySem.W.codeIn K cd_cleared "cleared" = true)
    (k_cleared : PySem.W.keepIn K (.ref f_cleared) = true)
    (n_first_with : PySem.W.nsIn K mainGlobals "first_with" = some (some (.ref f_first_with)))
    (l_first_with : K.lookup f_first_with = some ⟨oc_first_with, od_first_with, .func (PySem.W.fnOf "first_with" "first_with" (defArgs (top 40)) (defBody (top 40)) (defScope (top 40)) .none kV_first_with dc_first_with pm_first_with an_first_with cd_first_with ct_first_with), sl_first_with⟩)
    (c_first_with : PySem.W.codeIn K cd_first_with "first_with" = true)
    (k_first_with : PySem.W.keepIn K (.ref f_first_with) = true)
    (n_without : PySem.W.nsIn K mainGlobals "without" = some (some (.ref f_without)))
    (l_without : K.lookup f_without = some ⟨oc_without, od_without, .func (PySem.W.fnOf "without" "without" (defArgs (top 41)) (defBody (top 41)) (defScope (top 41)) .none kV_without dc_without pm_without an_without cd_without ct_without), sl_without⟩)
    (c_without : PySem.W.codeIn K cd_without "without" = true)
    (k_without : PySem.W.keepIn K (.ref f_without) = true)
    (n_rank_of : PySem.W.nsIn K mainGlobals "rank_of" = some (some (.ref f_rank_of)))
    (l_rank_of : K.lookup f_rank_of = some ⟨oc_rank_of, od_rank_of, .func (PySem.W.fnOf "rank_of" "rank_of" (defArgs (top 42)) (defBody (top 42)) (defScope (top 42)) .none kV_rank_of dc_rank_of pm_rank_of an_rank_of cd_rank_of ct_rank_of), sl_rank_of⟩)
    (c_rank_of : PySem.W.codeIn K cd_rank_of "rank_of" = true)
    (k_rank_of : PySem.W.keepIn K (.ref f_rank_of) = true)
    (n_leads_of : PySem.W.nsIn K mainGlobals "leads_of" = some (some (.ref f_leads_of)))
    (l_leads_of : K.lookup f_leads_of = some ⟨oc_leads_of, od_leads_of, .func (PySem.W.fnOf "leads_of" "leads_of" (defArgs (top 43)) (defBody (top 43)) (defScope (top 43)) .none kV_leads_of dc_leads_of pm_leads_of an_leads_of cd_leads_of ct_leads_of), sl_leads_of⟩)
    (c_leads_of : PySem.W.codeIn K cd_leads_of "leads_of" = true)
    (k_leads_of : PySem.W.keepIn K (.ref f_leads_of) = true)
    (n_solved : PySem.W.nsIn K mainGlobals "solved" = some (some (.ref f_solved)))
    (l_solved : K.lookup f_solved = some ⟨oc_solved, od_solved, .func (PySem.W.fnOf "solved" "solved" (defArgs (top 44)) (defBody (top 44)) (defScope (top 44)) .none kV_solved dc_solved pm_solved an_solved cd_solved ct_solved), sl_solved⟩)
    (c_solved : PySem.W.codeIn K cd_solved "solved" = true)
    (k_solved : PySem.W.keepIn K (.ref f_solved) = true)
    (n_product : PySem.W.nsIn K mainGlobals "product" = some (some (.ref f_product)))
    (l_product : K.lookup f_product = some ⟨oc_product, od_product, .func (PySem.W.fnOf "product" "product" (defArgs (top 46)) (defBody (top 46)) (defScope (top 46)) .none kV_product dc_product pm_product an_product cd_product ct_product), sl_product⟩)
    (c_product : PySem.W.codeIn K cd_product "product" = true)
    (k_product : PySem.W.keepIn K (.ref f_product) = true)
    (n_column : PySem.W.nsIn K mainGlobals "column" = some (some (.ref f_column)))
    (l_column : K.lookup f_column = some ⟨oc_column, od_column, .func (PySem.W.fnOf "column" "column" (defArgs (top 47)) (defBody (top 47)) (defScope (top 47)) .none kV_column dc_column pm_column an_column cd_column ct_column), sl_column⟩)
    (c_column : PySem.W.codeIn K cd_column "column" = true)
    (k_column : PySem.W.keepIn K (.ref f_column) = true)
    (n_products : PySem.W.nsIn K mainGlobals "products" = some (some (.ref f_products)))
    (l_products : K.lookup f_products = some ⟨oc_products, od_products, .func (PySem.W.fnOf "products" "products" (defArgs (top 48)) (defBody (top 48)) (defScope (top 48)) .none kV_products dc_products pm_products an_products cd_products ct_products), sl_products⟩)
    (c_products : PySem.W.codeIn K cd_products "products" = true)
    (k_products : PySem.W.keepIn K (.ref f_products) = true)
    (n_right_sides : PySem.W.nsIn K mainGlobals "right_sides" = some (some (.ref f_right_sides)))
    (l_right_sides : K.lookup f_right_sides = some ⟨oc_right_sides, od_right_sides, .func (PySem.W.fnOf "right_sides" "right_sides" (defArgs (top 49)) (defBody (top 49)) (defScope (top 49)) .none kV_right_sides dc_right_sides pm_right_sides an_right_sides cd_right_sides ct_right_sides), sl_right_sides⟩)
    (c_right_sides : PySem.W.codeIn K cd_right_sides "right_sides" = true)
    (k_right_sides : PySem.W.keepIn K (.ref f_right_sides) = true)
    (n_solved_for : PySem.W.nsIn K mainGlobals "solved_for" = some (some (.ref f_solved_for)))
    (l_solved_for : K.lookup f_solved_for = some ⟨oc_solved_for, od_solved_for, .func (PySem.W.fnOf "solved_for" "solved_for" (defArgs (top 50)) (defBody (top 50)) (defScope (top 50)) .none kV_solved_for dc_solved_for pm_solved_for an_solved_for cd_solved_for ct_solved_for), sl_solved_for⟩)
    (c_solved_for : PySem.W.codeIn K cd_solved_for "solved_for" = true)
    (k_solved_for : PySem.W.keepIn K (.ref f_solved_for) = true)
    (n_best_fit : PySem.W.nsIn K mainGlobals "best_fit" = some (some (.ref f_best_fit)))
    (l_best_fit : K.lookup f_best_fit = some ⟨oc_best_fit, od_best_fit, .func (PySem.W.fnOf "best_fit" "best_fit" (defArgs (top 51)) (defBody (top 51)) (defScope (top 51)) .none kV_best_fit dc_best_fit pm_best_fit an_best_fit cd_best_fit ct_best_fit), sl_best_fit⟩)
    (c_best_fit : PySem.W.codeIn K cd_best_fit "best_fit" = true)
    (k_best_fit : PySem.W.keepIn K (.ref f_best_fit) = true)
    (n_weighed : PySem.W.nsIn K mainGlobals "weighed" = some (some (.ref f_weighed)))
    (l_weighed : K.lookup f_weighed = some ⟨oc_weighed, od_weighed, .func (PySem.W.fnOf "weighed" "weighed" (defArgs (top 52)) (defBody (top 52)) (defScope (top 52)) .none kV_weighed dc_weighed pm_weighed an_weighed cd_weighed ct_weighed), sl_weighed⟩)
    (c_weighed : PySem.W.codeIn K cd_weighed "weighed" = true)
    (k_weighed : PySem.W.keepIn K (.ref f_weighed) = true)
    (n_residual_sum_of : PySem.W.nsIn K mainGlobals "residual_sum_of" = some (some (.ref f_residual_sum_of)))
    (l_residual_sum_of : K.lookup f_residual_sum_of = some ⟨oc_residual_sum_of, od_residual_sum_of, .func (PySem.W.fnOf "residual_sum_of" "residual_sum_of" (defArgs (top 53)) (defBody (top 53)) (defScope (top 53)) .none kV_residual_sum_of dc_residual_sum_of pm_residual_sum_of an_residual_sum_of cd_residual_sum_of ct_residual_sum_of), sl_residual_sum_of⟩)
    (c_residual_sum_of : PySem.W.codeIn K cd_residual_sum_of "residual_sum_of" = true)
    (k_residual_sum_of : PySem.W.keepIn K (.ref f_residual_sum_of) = true)
    (n_pairs_of : PySem.W.nsIn K mainGlobals "pairs_of" = some (some (.ref f_pairs_of)))
    (l_pairs_of : K.lookup f_pairs_of = some ⟨oc_pairs_of, od_pairs_of, .func (PySem.W.fnOf "pairs_of" "pairs_of" (defArgs (top 58)) (defBody (top 58)) (defScope (top 58)) .none kV_pairs_of dc_pairs_of pm_pairs_of an_pairs_of cd_pairs_of ct_pairs_of), sl_pairs_of⟩)
    (c_pairs_of : PySem.W.codeIn K cd_pairs_of "pairs_of" = true)
    (k_pairs_of : PySem.W.keepIn K (.ref f_pairs_of) = true)
    (n_hessian : PySem.W.nsIn K mainGlobals "hessian" = some (some (.ref f_hessian)))
    (l_hessian : K.lookup f_hessian = some ⟨oc_hessian, od_hessian, .func (PySem.W.fnOf "hessian" "hessian" (defArgs (top 59)) (defBody (top 59)) (defScope (top 59)) .none kV_hessian dc_hessian pm_hessian an_hessian cd_hessian ct_hessian), sl_hessian⟩)
    (c_hessian : PySem.W.codeIn K cd_hessian "hessian" = true)
    (k_hessian : PySem.W.keepIn K (.ref f_hessian) = true)
    (n_determinant : PySem.W.nsIn K mainGlobals "determinant" = some (some (.ref f_determinant)))
    (l_determinant : K.lookup f_determinant = some ⟨oc_determinant, od_determinant, .func (PySem.W.fnOf "determinant" "determinant" (defArgs (top 60)) (defBody (top 60)) (defScope (top 60)) .none kV_determinant dc_determinant pm_determinant an_determinant cd_determinant ct_determinant), sl_determinant⟩)
    (c_determinant : PySem.W.codeIn K cd_determinant "determinant" = true)
    (k_determinant : PySem.W.keepIn K (.ref f_determinant) = true)
    (n_leading_minors : PySem.W.nsIn K mainGlobals "leading_minors" = some (some (.ref f_leading_minors)))
    (l_leading_minors : K.lookup f_leading_minors = some ⟨oc_leading_minors, od_leading_minors, .func (PySem.W.fnOf "leading_minors" "leading_minors" (defArgs (top 61)) (defBody (top 61)) (defScope (top 61)) .none kV_leading_minors dc_leading_minors pm_leading_minors an_leading_minors cd_leading_minors ct_leading_minors), sl_leading_minors⟩)
    (c_leading_minors : PySem.W.codeIn K cd_leading_minors "leading_minors" = true)
    (k_leading_minors : PySem.W.keepIn K (.ref f_leading_minors) = true)
    (n_is_turned : PySem.W.nsIn K mainGlobals "is_turned" = some (some (.ref f_is_turned)))
    (l_is_turned : K.lookup f_is_turned = some ⟨oc_is_turned, od_is_turned, .func (PySem.W.fnOf "is_turned" "is_turned" (defArgs (top 62)) (defBody (top 62)) (defScope (top 62)) .none kV_is_turned dc_is_turned pm_is_turned an_is_turned cd_is_turned ct_is_turned), sl_is_turned⟩)
    (c_is_turned : PySem.W.codeIn K cd_is_turned "is_turned" = true)
    (k_is_turned : PySem.W.keepIn K (.ref f_is_turned) = true)
    (n_kind_of : PySem.W.nsIn K mainGlobals "kind_of" = some (some (.ref f_kind_of)))
    (l_kind_of : K.lookup f_kind_of = some ⟨oc_kind_of, od_kind_of, .func (PySem.W.fnOf "kind_of" "kind_of" (defArgs (top 63)) (defBody (top 63)) (defScope (top 63)) .none kV_kind_of dc_kind_of pm_kind_of an_kind_of cd_kind_of ct_kind_of), sl_kind_of⟩)
    (c_kind_of : PySem.W.codeIn K cd_kind_of "kind_of" = true)
    (k_kind_of : PySem.W.keepIn K (.ref f_kind_of) = true)
    (n_point_of : PySem.W.nsIn K mainGlobals "point_of" = some (some (.ref f_point_of)))
    (l_point_of : K.lookup f_point_of = some ⟨oc_point_of, od_point_of, .func (PySem.W.fnOf "point_of" "point_of" (defArgs (top 64)) (defBody (top 64)) (defScope (top 64)) .none kV_point_of dc_point_of pm_point_of an_point_of cd_point_of ct_point_of), sl_point_of⟩)
    (c_point_of : PySem.W.codeIn K cd_point_of "point_of" = true)
    (k_point_of : PySem.W.keepIn K (.ref f_point_of) = true)
    (n_value_at : PySem.W.nsIn K mainGlobals "value_at" = some (some (.ref f_value_at)))
    (l_value_at : K.lookup f_value_at = some ⟨oc_value_at, od_value_at, .func (PySem.W.fnOf "value_at" "value_at" (defArgs (top 65)) (defBody (top 65)) (defScope (top 65)) .none kV_value_at dc_value_at pm_value_at an_value_at cd_value_at ct_value_at), sl_value_at⟩)
    (c_value_at : PySem.W.codeIn K cd_value_at "value_at" = true)
    (k_value_at : PySem.W.keepIn K (.ref f_value_at) = true)
    (n_rank : PySem.W.nsIn K mainGlobals "rank" = some (some (.ref f_rank)))
    (l_rank : K.lookup f_rank = some ⟨oc_rank, od_rank, .func (PySem.W.fnOf "rank" "rank" (defArgs (top 67)) (defBody (top 67)) (defScope (top 67)) .none kV_rank dc_rank pm_rank an_rank cd_rank ct_rank), sl_rank⟩)
    (c_rank : PySem.W.codeIn K cd_rank "rank" = true)
    (k_rank : PySem.W.keepIn K (.ref f_rank) = true)
    (n_freedom : PySem.W.nsIn K mainGlobals "freedom" = some (some (.ref f_freedom)))
    (l_freedom : K.lookup f_freedom = some ⟨oc_freedom, od_freedom, .func (PySem.W.fnOf "freedom" "freedom" (defArgs (top 68)) (defBody (top 68)) (defScope (top 68)) .none kV_freedom dc_freedom pm_freedom an_freedom cd_freedom ct_freedom), sl_freedom⟩)
    (c_freedom : PySem.W.codeIn K cd_freedom "freedom" = true)
    (k_freedom : PySem.W.keepIn K (.ref f_freedom) = true)
    (n_solution : PySem.W.nsIn K mainGlobals "solution" = some (some (.ref f_solution)))
    (l_solution : K.lookup f_solution = some ⟨oc_solution, od_solution, .func (PySem.W.fnOf "solution" "solution" (defArgs (top 69)) (defBody (top 69)) (defScope (top 69)) .none kV_solution dc_solution pm_solution an_solution cd_solution ct_solution), sl_solution⟩)
    (c_solution : PySem.W.codeIn K cd_solution "solution" = true)
    (k_solution : PySem.W.keepIn K (.ref f_solution) = true)
    (n_estimate_of : PySem.W.nsIn K mainGlobals "estimate_of" = some (some (.ref f_estimate_of)))
    (l_estimate_of : K.lookup f_estimate_of = some ⟨oc_estimate_of, od_estimate_of, .func (PySem.W.fnOf "estimate_of" "estimate_of" (defArgs (top 70)) (defBody (top 70)) (defScope (top 70)) .none kV_estimate_of dc_estimate_of pm_estimate_of an_estimate_of cd_estimate_of ct_estimate_of), sl_estimate_of⟩)
    (c_estimate_of : PySem.W.codeIn K cd_estimate_of "estimate_of" = true)
    (k_estimate_of : PySem.W.keepIn K (.ref f_estimate_of) = true)
    (n_factor_of : PySem.W.nsIn K mainGlobals "factor_of" = some (some (.ref f_factor_of)))
    (l_factor_of : K.lookup f_factor_of = some ⟨oc_factor_of, od_factor_of, .func (PySem.W.fnOf "factor_of" "factor_of" (defArgs (top 71)) (defBody (top 71)) (defScope (top 71)) .none kV_factor_of dc_factor_of pm_factor_of an_factor_of cd_factor_of ct_factor_of), sl_factor_of⟩)
    (c_factor_of : PySem.W.codeIn K cd_factor_of "factor_of" = true)
    (k_factor_of : PySem.W.keepIn K (.ref f_factor_of) = true)
    (n_is_estimable : PySem.W.nsIn K mainGlobals "is_estimable" = some (some (.ref f_is_estimable)))
    (l_is_estimable : K.lookup f_is_estimable = some ⟨oc_is_estimable, od_is_estimable, .func (PySem.W.fnOf "is_estimable" "is_estimable" (defArgs (top 72)) (defBody (top 72)) (defScope (top 72)) .none kV_is_estimable dc_is_estimable pm_is_estimable an_is_estimable cd_is_estimable ct_is_estimable), sl_is_estimable⟩)
    (c_is_estimable : PySem.W.codeIn K cd_is_estimable "is_estimable" = true)
    (k_is_estimable : PySem.W.keepIn K (.ref f_is_estimable) = true)
    (n_residual_sum : PySem.W.nsIn K mainGlobals "residual_sum" = some (some (.ref f_residual_sum)))
    (l_residual_sum : K.lookup f_residual_sum = some ⟨oc_residual_sum, od_residual_sum, .func (PySem.W.fnOf "residual_sum" "residual_sum" (defArgs (top 73)) (defBody (top 73)) (defScope (top 73)) .none kV_residual_sum dc_residual_sum pm_residual_sum an_residual_sum cd_residual_sum ct_residual_sum), sl_residual_sum⟩)
    (c_residual_sum : PySem.W.codeIn K cd_residual_sum "residual_sum" = true)
    (k_residual_sum : PySem.W.keepIn K (.ref f_residual_sum) = true)
    (n_variance_of : PySem.W.nsIn K mainGlobals "variance_of" = some (some (.ref f_variance_of)))
    (l_variance_of : K.lookup f_variance_of = some ⟨oc_variance_of, od_variance_of, .func (PySem.W.fnOf "variance_of" "variance_of" (defArgs (top 74)) (defBody (top 74)) (defScope (top 74)) .none kV_variance_of dc_variance_of pm_variance_of an_variance_of cd_variance_of ct_variance_of), sl_variance_of⟩)
    (c_variance_of : PySem.W.codeIn K cd_variance_of "variance_of" = true)
    (k_variance_of : PySem.W.keepIn K (.ref f_variance_of) = true)
    (n_looked_at : PySem.W.nsIn K mainGlobals "looked_at" = some (some (.ref f_looked_at)))
    (l_looked_at : K.lookup f_looked_at = some ⟨oc_looked_at, od_looked_at, .func (PySem.W.fnOf "looked_at" "looked_at" (defArgs (top 75)) (defBody (top 75)) (defScope (top 75)) .none kV_looked_at dc_looked_at pm_looked_at an_looked_at cd_looked_at ct_looked_at), sl_looked_at⟩)
    (c_looked_at : PySem.W.codeIn K cd_looked_at "looked_at" = true)
    (k_looked_at : PySem.W.keepIn K (.ref f_looked_at) = true)
    (n_told_between : PySem.W.nsIn K mainGlobals "told_between" = some (some (.ref f_told_between)))
    (l_told_between : K.lookup f_told_between = some ⟨oc_told_between, od_told_between, .func (PySem.W.fnOf "told_between" "told_between" (defArgs (top 76)) (defBody (top 76)) (defScope (top 76)) .none kV_told_between dc_told_between pm_told_between an_told_between cd_told_between ct_told_between), sl_told_between⟩)
    (c_told_between : PySem.W.codeIn K cd_told_between "told_between" = true)
    (k_told_between : PySem.W.keepIn K (.ref f_told_between) = true)
    (n_sequential_of : PySem.W.nsIn K mainGlobals "sequential_of" = some (some (.ref f_sequential_of)))
    (l_sequential_of : K.lookup f_sequential_of = some ⟨oc_sequential_of, od_sequential_of, .func (PySem.W.fnOf "sequential_of" "sequential_of" (defArgs (top 77)) (defBody (top 77)) (defScope (top 77)) .none kV_sequential_of dc_sequential_of pm_sequential_of an_sequential_of cd_sequential_of ct_sequential_of), sl_sequential_of⟩)
    (c_sequential_of : PySem.W.codeIn K cd_sequential_of "sequential_of" = true)
    (k_sequential_of : PySem.W.keepIn K (.ref f_sequential_of) = true)
    (n_marginal_at : PySem.W.nsIn K mainGlobals "marginal_at" = some (some (.ref f_marginal_at)))
    (l_marginal_at : K.lookup f_marginal_at = some ⟨oc_marginal_at, od_marginal_at, .func (PySem.W.fnOf "marginal_at" "marginal_at" (defArgs (top 78)) (defBody (top 78)) (defScope (top 78)) .none kV_marginal_at dc_marginal_at pm_marginal_at an_marginal_at cd_marginal_at ct_marginal_at), sl_marginal_at⟩)
    (c_marginal_at : PySem.W.codeIn K cd_marginal_at "marginal_at" = true)
    (k_marginal_at : PySem.W.keepIn K (.ref f_marginal_at) = true)
    (n_marginal_of : PySem.W.nsIn K mainGlobals "marginal_of" = some (some (.ref f_marginal_of)))
    (l_marginal_of : K.lookup f_marginal_of = some ⟨oc_marginal_of, od_marginal_of, .func (PySem.W.fnOf "marginal_of" "marginal_of" (defArgs (top 79)) (defBody (top 79)) (defScope (top 79)) .none kV_marginal_of dc_marginal_of pm_marginal_of an_marginal_of cd_marginal_of ct_marginal_of), sl_marginal_of⟩)
    (c_marginal_of : PySem.W.codeIn K cd_marginal_of "marginal_of" = true)
    (k_marginal_of : PySem.W.keepIn K (.ref f_marginal_of) = true)
    (n_groups_of : PySem.W.nsIn K mainGlobals "groups_of" = some (some (.ref f_groups_of)))
    (l_groups_of : K.lookup f_groups_of = some ⟨oc_groups_of, od_groups_of, .func (PySem.W.fnOf "groups_of" "groups_of" (defArgs (top 80)) (defBody (top 80)) (defScope (top 80)) .none kV_groups_of dc_groups_of pm_groups_of an_groups_of cd_groups_of ct_groups_of), sl_groups_of⟩)
    (c_groups_of : PySem.W.codeIn K cd_groups_of "groups_of" = true)
    (k_groups_of : PySem.W.keepIn K (.ref f_groups_of) = true)
    (n_spread : PySem.W.nsIn K mainGlobals "spread" = some (some (.ref f_spread)))
    (l_spread : K.lookup f_spread = some ⟨oc_spread, od_spread, .func (PySem.W.fnOf "spread" "spread" (defArgs (top 81)) (defBody (top 81)) (defScope (top 81)) .none kV_spread dc_spread pm_spread an_spread cd_spread ct_spread), sl_spread⟩)
    (c_spread : PySem.W.codeIn K cd_spread "spread" = true)
    (k_spread : PySem.W.keepIn K (.ref f_spread) = true)
    (n_pure_error : PySem.W.nsIn K mainGlobals "pure_error" = some (some (.ref f_pure_error)))
    (l_pure_error : K.lookup f_pure_error = some ⟨oc_pure_error, od_pure_error, .func (PySem.W.fnOf "pure_error" "pure_error" (defArgs (top 82)) (defBody (top 82)) (defScope (top 82)) .none kV_pure_error dc_pure_error pm_pure_error an_pure_error cd_pure_error ct_pure_error), sl_pure_error⟩)
    (c_pure_error : PySem.W.codeIn K cd_pure_error "pure_error" = true)
    (k_pure_error : PySem.W.keepIn K (.ref f_pure_error) = true)
    (n_tell_rank : PySem.W.nsIn K mainGlobals "tell_rank" = some (some (.ref f_tell_rank)))
    (l_tell_rank : K.lookup f_tell_rank = some ⟨oc_tell_rank, od_tell_rank, .func (PySem.W.fnOf "tell_rank" "tell_rank" (defArgs (top 84)) (defBody (top 84)) (defScope (top 84)) .none kV_tell_rank dc_tell_rank pm_tell_rank an_tell_rank cd_tell_rank ct_tell_rank), sl_tell_rank⟩)
    (c_tell_rank : PySem.W.codeIn K cd_tell_rank "tell_rank" = true)
    (k_tell_rank : PySem.W.keepIn K (.ref f_tell_rank) = true)
    (n_tell_coefficients : PySem.W.nsIn K mainGlobals "tell_coefficients" = some (some (.ref f_tell_coefficients)))
    (l_tell_coefficients : K.lookup f_tell_coefficients = some ⟨oc_tell_coefficients, od_tell_coefficients, .func (PySem.W.fnOf "tell_coefficients" "tell_coefficients" (defArgs (top 85)) (defBody (top 85)) (defScope (top 85)) .none kV_tell_coefficients dc_tell_coefficients pm_tell_coefficients an_tell_coefficients cd_tell_coefficients ct_tell_coefficients), sl_tell_coefficients⟩)
    (c_tell_coefficients : PySem.W.codeIn K cd_tell_coefficients "tell_coefficients" = true)
    (k_tell_coefficients : PySem.W.keepIn K (.ref f_tell_coefficients) = true)
    (n_tell_estimate : PySem.W.nsIn K mainGlobals "tell_estimate" = some (some (.ref f_tell_estimate)))
    (l_tell_estimate : K.lookup f_tell_estimate = some ⟨oc_tell_estimate, od_tell_estimate, .func (PySem.W.fnOf "tell_estimate" "tell_estimate" (defArgs (top 86)) (defBody (top 86)) (defScope (top 86)) .none kV_tell_estimate dc_tell_estimate pm_tell_estimate an_tell_estimate cd_tell_estimate ct_tell_estimate), sl_tell_estimate⟩)
    (c_tell_estimate : PySem.W.codeIn K cd_tell_estimate "tell_estimate" = true)
    (k_tell_estimate : PySem.W.keepIn K (.ref f_tell_estimate) = true)
    (n_tell_covariance : PySem.W.nsIn K mainGlobals "tell_covariance" = some (some (.ref f_tell_covariance)))
    (l_tell_covariance : K.lookup f_tell_covariance = some ⟨oc_tell_covariance, od_tell_covariance, .func (PySem.W.fnOf "tell_covariance" "tell_covariance" (defArgs (top 87)) (defBody (top 87)) (defScope (top 87)) .none kV_tell_covariance dc_tell_covariance pm_tell_covariance an_tell_covariance cd_tell_covariance ct_tell_covariance), sl_tell_covariance⟩)
    (c_tell_covariance : PySem.W.codeIn K cd_tell_covariance "tell_covariance" = true)
    (k_tell_covariance : PySem.W.keepIn K (.ref f_tell_covariance) = true)
    (n_tell_squared_ratio : PySem.W.nsIn K mainGlobals "tell_squared_ratio" = some (some (.ref f_tell_squared_ratio)))
    (l_tell_squared_ratio : K.lookup f_tell_squared_ratio = some ⟨oc_tell_squared_ratio, od_tell_squared_ratio, .func (PySem.W.fnOf "tell_squared_ratio" "tell_squared_ratio" (defArgs (top 88)) (defBody (top 88)) (defScope (top 88)) .none kV_tell_squared_ratio dc_tell_squared_ratio pm_tell_squared_ratio an_tell_squared_ratio cd_tell_squared_ratio ct_tell_squared_ratio), sl_tell_squared_ratio⟩)
    (c_tell_squared_ratio : PySem.W.codeIn K cd_tell_squared_ratio "tell_squared_ratio" = true)
    (k_tell_squared_ratio : PySem.W.keepIn K (.ref f_tell_squared_ratio) = true)
    (n_fitted_at : PySem.W.nsIn K mainGlobals "fitted_at" = some (some (.ref f_fitted_at)))
    (l_fitted_at : K.lookup f_fitted_at = some ⟨oc_fitted_at, od_fitted_at, .func (PySem.W.fnOf "fitted_at" "fitted_at" (defArgs (top 89)) (defBody (top 89)) (defScope (top 89)) .none kV_fitted_at dc_fitted_at pm_fitted_at an_fitted_at cd_fitted_at ct_fitted_at), sl_fitted_at⟩)
    (c_fitted_at : PySem.W.codeIn K cd_fitted_at "fitted_at" = true)
    (k_fitted_at : PySem.W.keepIn K (.ref f_fitted_at) = true)
    (n_leverage_at : PySem.W.nsIn K mainGlobals "leverage_at" = some (some (.ref f_leverage_at)))
    (l_leverage_at : K.lookup f_leverage_at = some ⟨oc_leverage_at, od_leverage_at, .func (PySem.W.fnOf "leverage_at" "leverage_at" (defArgs (top 90)) (defBody (top 90)) (defScope (top 90)) .none kV_leverage_at dc_leverage_at pm_leverage_at an_leverage_at cd_leverage_at ct_leverage_at), sl_leverage_at⟩)
    (c_leverage_at : PySem.W.codeIn K cd_leverage_at "leverage_at" = true)
    (k_leverage_at : PySem.W.keepIn K (.ref f_leverage_at) = true)
    (n_tell_fitted : PySem.W.nsIn K mainGlobals "tell_fitted" = some (some (.ref f_tell_fitted)))
    (l_tell_fitted : K.lookup f_tell_fitted = some ⟨oc_tell_fitted, od_tell_fitted, .func (PySem.W.fnOf "tell_fitted" "tell_fitted" (defArgs (top 91)) (defBody (top 91)) (defScope (top 91)) .none kV_tell_fitted dc_tell_fitted pm_tell_fitted an_tell_fitted cd_tell_fitted ct_tell_fitted), sl_tell_fitted⟩)
    (c_tell_fitted : PySem.W.codeIn K cd_tell_fitted "tell_fitted" = true)
    (k_tell_fitted : PySem.W.keepIn K (.ref f_tell_fitted) = true)
    (n_tell_leverage : PySem.W.nsIn K mainGlobals "tell_leverage" = some (some (.ref f_tell_leverage)))
    (l_tell_leverage : K.lookup f_tell_leverage = some ⟨oc_tell_leverage, od_tell_leverage, .func (PySem.W.fnOf "tell_leverage" "tell_leverage" (defArgs (top 92)) (defBody (top 92)) (defScope (top 92)) .none kV_tell_leverage dc_tell_leverage pm_tell_leverage an_tell_leverage cd_tell_leverage ct_tell_leverage), sl_tell_leverage⟩)
    (c_tell_leverage : PySem.W.codeIn K cd_tell_leverage "tell_leverage" = true)
    (k_tell_leverage : PySem.W.keepIn K (.ref f_tell_leverage) = true)
    (n_tell_deleted : PySem.W.nsIn K mainGlobals "tell_deleted" = some (some (.ref f_tell_deleted)))
    (l_tell_deleted : K.lookup f_tell_deleted = some ⟨oc_tell_deleted, od_tell_deleted, .func (PySem.W.fnOf "tell_deleted" "tell_deleted" (defArgs (top 93)) (defBody (top 93)) (defScope (top 93)) .none kV_tell_deleted dc_tell_deleted pm_tell_deleted an_tell_deleted cd_tell_deleted ct_tell_deleted), sl_tell_deleted⟩)
    (c_tell_deleted : PySem.W.codeIn K cd_tell_deleted "tell_deleted" = true)
    (k_tell_deleted : PySem.W.keepIn K (.ref f_tell_deleted) = true)
    (n_tell_residual_sum : PySem.W.nsIn K mainGlobals "tell_residual_sum" = some (some (.ref f_tell_residual_sum)))
    (l_tell_residual_sum : K.lookup f_tell_residual_sum = some ⟨oc_tell_residual_sum, od_tell_residual_sum, .func (PySem.W.fnOf "tell_residual_sum" "tell_residual_sum" (defArgs (top 94)) (defBody (top 94)) (defScope (top 94)) .none kV_tell_residual_sum dc_tell_residual_sum pm_tell_residual_sum an_tell_residual_sum cd_tell_residual_sum ct_tell_residual_sum), sl_tell_residual_sum⟩)
    (c_tell_residual_sum : PySem.W.codeIn K cd_tell_residual_sum "tell_residual_sum" = true)
    (k_tell_residual_sum : PySem.W.keepIn K (.ref f_tell_residual_sum) = true)
    (n_tell_variance : PySem.W.nsIn K mainGlobals "tell_variance" = some (some (.ref f_tell_variance)))
    (l_tell_variance : K.lookup f_tell_variance = some ⟨oc_tell_variance, od_tell_variance, .func (PySem.W.fnOf "tell_variance" "tell_variance" (defArgs (top 95)) (defBody (top 95)) (defScope (top 95)) .none kV_tell_variance dc_tell_variance pm_tell_variance an_tell_variance cd_tell_variance ct_tell_variance), sl_tell_variance⟩)
    (c_tell_variance : PySem.W.codeIn K cd_tell_variance "tell_variance" = true)
    (k_tell_variance : PySem.W.keepIn K (.ref f_tell_variance) = true)
    (n_terms_told : PySem.W.nsIn K mainGlobals "terms_told" = some (some (.ref f_terms_told)))
    (l_terms_told : K.lookup f_terms_told = some ⟨oc_terms_told, od_terms_told, .func (PySem.W.fnOf "terms_told" "terms_told" (defArgs (top 96)) (defBody (top 96)) (defScope (top 96)) .none kV_terms_told dc_terms_told pm_terms_told an_terms_told cd_terms_told ct_terms_told), sl_terms_told⟩)
    (c_terms_told : PySem.W.codeIn K cd_terms_told "terms_told" = true)
    (k_terms_told : PySem.W.keepIn K (.ref f_terms_told) = true)
    (n_tell_sequential : PySem.W.nsIn K mainGlobals "tell_sequential" = some (some (.ref f_tell_sequential)))
    (l_tell_sequential : K.lookup f_tell_sequential = some ⟨oc_tell_sequential, od_tell_sequential, .func (PySem.W.fnOf "tell_sequential" "tell_sequential" (defArgs (top 97)) (defBody (top 97)) (defScope (top 97)) .none kV_tell_sequential dc_tell_sequential pm_tell_sequential an_tell_sequential cd_tell_sequential ct_tell_sequential), sl_tell_sequential⟩)
    (c_tell_sequential : PySem.W.codeIn K cd_tell_sequential "tell_sequential" = true)
    (k_tell_sequential : PySem.W.keepIn K (.ref f_tell_sequential) = true)
    (n_tell_marginal : PySem.W.nsIn K mainGlobals "tell_marginal" = some (some (.ref f_tell_marginal)))
    (l_tell_marginal : K.lookup f_tell_marginal = some ⟨oc_tell_marginal, od_tell_marginal, .func (PySem.W.fnOf "tell_marginal" "tell_marginal" (defArgs (top 98)) (defBody (top 98)) (defScope (top 98)) .none kV_tell_marginal dc_tell_marginal pm_tell_marginal an_tell_marginal cd_tell_marginal ct_tell_marginal), sl_tell_marginal⟩)
    (c_tell_marginal : PySem.W.codeIn K cd_tell_marginal "tell_marginal" = true)
    (k_tell_marginal : PySem.W.keepIn K (.ref f_tell_marginal) = true)
    (n_tell_f_ratio : PySem.W.nsIn K mainGlobals "tell_f_ratio" = some (some (.ref f_tell_f_ratio)))
    (l_tell_f_ratio : K.lookup f_tell_f_ratio = some ⟨oc_tell_f_ratio, od_tell_f_ratio, .func (PySem.W.fnOf "tell_f_ratio" "tell_f_ratio" (defArgs (top 99)) (defBody (top 99)) (defScope (top 99)) .none kV_tell_f_ratio dc_tell_f_ratio pm_tell_f_ratio an_tell_f_ratio cd_tell_f_ratio ct_tell_f_ratio), sl_tell_f_ratio⟩)
    (c_tell_f_ratio : PySem.W.codeIn K cd_tell_f_ratio "tell_f_ratio" = true)
    (k_tell_f_ratio : PySem.W.keepIn K (.ref f_tell_f_ratio) = true)
    (n_tell_lack_of_fit : PySem.W.nsIn K mainGlobals "tell_lack_of_fit" = some (some (.ref f_tell_lack_of_fit)))
    (l_tell_lack_of_fit : K.lookup f_tell_lack_of_fit = some ⟨oc_tell_lack_of_fit, od_tell_lack_of_fit, .func (PySem.W.fnOf "tell_lack_of_fit" "tell_lack_of_fit" (defArgs (top 100)) (defBody (top 100)) (defScope (top 100)) .none kV_tell_lack_of_fit dc_tell_lack_of_fit pm_tell_lack_of_fit an_tell_lack_of_fit cd_tell_lack_of_fit ct_tell_lack_of_fit), sl_tell_lack_of_fit⟩)
    (c_tell_lack_of_fit : PySem.W.codeIn K cd_tell_lack_of_fit "tell_lack_of_fit" = true)
    (k_tell_lack_of_fit : PySem.W.keepIn K (.ref f_tell_lack_of_fit) = true)
    (n_tell_predict : PySem.W.nsIn K mainGlobals "tell_predict" = some (some (.ref f_tell_predict)))
    (l_tell_predict : K.lookup f_tell_predict = some ⟨oc_tell_predict, od_tell_predict, .func (PySem.W.fnOf "tell_predict" "tell_predict" (defArgs (top 101)) (defBody (top 101)) (defScope (top 101)) .none kV_tell_predict dc_tell_predict pm_tell_predict an_tell_predict cd_tell_predict ct_tell_predict), sl_tell_predict⟩)
    (c_tell_predict : PySem.W.codeIn K cd_tell_predict "tell_predict" = true)
    (k_tell_predict : PySem.W.keepIn K (.ref f_tell_predict) = true)
    (n_model_without : PySem.W.nsIn K mainGlobals "model_without" = some (some (.ref f_model_without)))
    (l_model_without : K.lookup f_model_without = some ⟨oc_model_without, od_model_without, .func (PySem.W.fnOf "model_without" "model_without" (defArgs (top 102)) (defBody (top 102)) (defScope (top 102)) .none kV_model_without dc_model_without pm_model_without an_model_without cd_model_without ct_model_without), sl_model_without⟩)
    (c_model_without : PySem.W.codeIn K cd_model_without "model_without" = true)
    (k_model_without : PySem.W.keepIn K (.ref f_model_without) = true)
    (n_tell_lost_value : PySem.W.nsIn K mainGlobals "tell_lost_value" = some (some (.ref f_tell_lost_value)))
    (l_tell_lost_value : K.lookup f_tell_lost_value = some ⟨oc_tell_lost_value, od_tell_lost_value, .func (PySem.W.fnOf "tell_lost_value" "tell_lost_value" (defArgs (top 103)) (defBody (top 103)) (defScope (top 103)) .none kV_tell_lost_value dc_tell_lost_value pm_tell_lost_value an_tell_lost_value cd_tell_lost_value ct_tell_lost_value), sl_tell_lost_value⟩)
    (c_tell_lost_value : PySem.W.codeIn K cd_tell_lost_value "tell_lost_value" = true)
    (k_tell_lost_value : PySem.W.keepIn K (.ref f_tell_lost_value) = true)
    (n_tell_stationary : PySem.W.nsIn K mainGlobals "tell_stationary" = some (some (.ref f_tell_stationary)))
    (l_tell_stationary : K.lookup f_tell_stationary = some ⟨oc_tell_stationary, od_tell_stationary, .func (PySem.W.fnOf "tell_stationary" "tell_stationary" (defArgs (top 104)) (defBody (top 104)) (defScope (top 104)) .none kV_tell_stationary dc_tell_stationary pm_tell_stationary an_tell_stationary cd_tell_stationary ct_tell_stationary), sl_tell_stationary⟩)
    (c_tell_stationary : PySem.W.codeIn K cd_tell_stationary "tell_stationary" = true)
    (k_tell_stationary : PySem.W.keepIn K (.ref f_tell_stationary) = true)
    (n_create : PySem.W.nsIn K mainGlobals "create" = some (some (.ref f_create)))
    (l_create : K.lookup f_create = some ⟨oc_create, od_create, .func (PySem.W.fnOf "create" "create" (defArgs (top 106)) (defBody (top 106)) (defScope (top 106)) .none kV_create dc_create pm_create an_create cd_create ct_create), sl_create⟩)
    (c_create : PySem.W.codeIn K cd_create "create" = true)
    (k_create : PySem.W.keepIn K (.ref f_create) = true)
    (n_add_row : PySem.W.nsIn K mainGlobals "add_row" = some (some (.ref f_add_row)))
    (l_add_row : K.lookup f_add_row = some ⟨oc_add_row, od_add_row, .func (PySem.W.fnOf "add_row" "add_row" (defArgs (top 107)) (defBody (top 107)) (defScope (top 107)) .none kV_add_row dc_add_row pm_add_row an_add_row cd_add_row ct_add_row), sl_add_row⟩)
    (c_add_row : PySem.W.codeIn K cd_add_row "add_row" = true)
    (k_add_row : PySem.W.keepIn K (.ref f_add_row) = true)
    (n_remove_row : PySem.W.nsIn K mainGlobals "remove_row" = some (some (.ref f_remove_row)))
    (l_remove_row : K.lookup f_remove_row = some ⟨oc_remove_row, od_remove_row, .func (PySem.W.fnOf "remove_row" "remove_row" (defArgs (top 108)) (defBody (top 108)) (defScope (top 108)) .none kV_remove_row dc_remove_row pm_remove_row an_remove_row cd_remove_row ct_remove_row), sl_remove_row⟩)
    (c_remove_row : PySem.W.codeIn K cd_remove_row "remove_row" = true)
    (k_remove_row : PySem.W.keepIn K (.ref f_remove_row) = true)
    (n_set_response : PySem.W.nsIn K mainGlobals "set_response" = some (some (.ref f_set_response)))
    (l_set_response : K.lookup f_set_response = some ⟨oc_set_response, od_set_response, .func (PySem.W.fnOf "set_response" "set_response" (defArgs (top 109)) (defBody (top 109)) (defScope (top 109)) .none kV_set_response dc_set_response pm_set_response an_set_response cd_set_response ct_set_response), sl_set_response⟩)
    (c_set_response : PySem.W.codeIn K cd_set_response "set_response" = true)
    (k_set_response : PySem.W.keepIn K (.ref f_set_response) = true)
    (n_set_terms : PySem.W.nsIn K mainGlobals "set_terms" = some (some (.ref f_set_terms)))
    (l_set_terms : K.lookup f_set_terms = some ⟨oc_set_terms, od_set_terms, .func (PySem.W.fnOf "set_terms" "set_terms" (defArgs (top 110)) (defBody (top 110)) (defScope (top 110)) .none kV_set_terms dc_set_terms pm_set_terms an_set_terms cd_set_terms ct_set_terms), sl_set_terms⟩)
    (c_set_terms : PySem.W.codeIn K cd_set_terms "set_terms" = true)
    (k_set_terms : PySem.W.keepIn K (.ref f_set_terms) = true)
    (n_clear_rows : PySem.W.nsIn K mainGlobals "clear_rows" = some (some (.ref f_clear_rows)))
    (l_clear_rows : K.lookup f_clear_rows = some ⟨oc_clear_rows, od_clear_rows, .func (PySem.W.fnOf "clear_rows" "clear_rows" (defArgs (top 111)) (defBody (top 111)) (defScope (top 111)) .none kV_clear_rows dc_clear_rows pm_clear_rows an_clear_rows cd_clear_rows ct_clear_rows), sl_clear_rows⟩)
    (c_clear_rows : PySem.W.codeIn K cd_clear_rows "clear_rows" = true)
    (k_clear_rows : PySem.W.keepIn K (.ref f_clear_rows) = true)
    (n_get_row : PySem.W.nsIn K mainGlobals "get_row" = some (some (.ref f_get_row)))
    (l_get_row : K.lookup f_get_row = some ⟨oc_get_row, od_get_row, .func (PySem.W.fnOf "get_row" "get_row" (defArgs (top 112)) (defBody (top 112)) (defScope (top 112)) .none kV_get_row dc_get_row pm_get_row an_get_row cd_get_row ct_get_row), sl_get_row⟩)
    (c_get_row : PySem.W.codeIn K cd_get_row "get_row" = true)
    (k_get_row : PySem.W.keepIn K (.ref f_get_row) = true)
    (n_normal_equations : PySem.W.nsIn K mainGlobals "normal_equations" = some (some (.ref f_normal_equations)))
    (l_normal_equations : K.lookup f_normal_equations = some ⟨oc_normal_equations, od_normal_equations, .func (PySem.W.fnOf "normal_equations" "normal_equations" (defArgs (top 113)) (defBody (top 113)) (defScope (top 113)) .none kV_normal_equations dc_normal_equations pm_normal_equations an_normal_equations cd_normal_equations ct_normal_equations), sl_normal_equations⟩)
    (c_normal_equations : PySem.W.codeIn K cd_normal_equations "normal_equations" = true)
    (k_normal_equations : PySem.W.keepIn K (.ref f_normal_equations) = true)
    (n_summary : PySem.W.nsIn K mainGlobals "summary" = some (some (.ref f_summary)))
    (l_summary : K.lookup f_summary = some ⟨oc_summary, od_summary, .func (PySem.W.fnOf "summary" "summary" (defArgs (top 114)) (defBody (top 114)) (defScope (top 114)) .none kV_summary dc_summary pm_summary an_summary cd_summary ct_summary), sl_summary⟩)
    (c_summary : PySem.W.codeIn K cd_summary "summary" = true)
    (k_summary : PySem.W.keepIn K (.ref f_summary) = true)
    (n_lists_at : PySem.W.nsIn K mainGlobals "lists_at" = some (some (.ref f_lists_at)))
    (l_lists_at : K.lookup f_lists_at = some ⟨oc_lists_at, od_lists_at, .func (PySem.W.fnOf "lists_at" "lists_at" (defArgs (top 120)) (defBody (top 120)) (defScope (top 120)) .none kV_lists_at dc_lists_at pm_lists_at an_lists_at cd_lists_at ct_lists_at), sl_lists_at⟩)
    (c_lists_at : PySem.W.codeIn K cd_lists_at "lists_at" = true)
    (k_lists_at : PySem.W.keepIn K (.ref f_lists_at) = true)
    (n_answer : PySem.W.nsIn K mainGlobals "answer" = some (some (.ref f_answer)))
    (l_answer : K.lookup f_answer = some ⟨oc_answer, od_answer, .func (PySem.W.fnOf "answer" "answer" (defArgs (top 121)) (defBody (top 121)) (defScope (top 121)) .none kV_answer dc_answer pm_answer an_answer cd_answer ct_answer), sl_answer⟩)
    (c_answer : PySem.W.codeIn K cd_answer "answer" = true)
    (k_answer : PySem.W.keepIn K (.ref f_answer) = true)
    (n_answers : PySem.W.nsIn K mainGlobals "answers" = some (some (.ref f_answers)))
    (l_answers : K.lookup f_answers = some ⟨oc_answers, od_answers, .func (PySem.W.fnOf "answers" "answers" (defArgs (top 122)) (defBody (top 122)) (defScope (top 122)) .none kV_answers dc_answers pm_answers an_answers cd_answers ct_answers), sl_answers⟩)
    (c_answers : PySem.W.codeIn K cd_answers "answers" = true)
    (k_answers : PySem.W.keepIn K (.ref f_answers) = true)
    (b_abs : PySem.W.nsIn K mainGlobals "abs" = some none)
    (b_all : PySem.W.nsIn K mainGlobals "all" = some none)
    (b_any : PySem.W.nsIn K mainGlobals "any" = some none)
    (b_enumerate : PySem.W.nsIn K mainGlobals "enumerate" = some none)
    (b_len : PySem.W.nsIn K mainGlobals "len" = some none)
    (b_list : PySem.W.nsIn K mainGlobals "list" = some none)
    (b_range : PySem.W.nsIn K mainGlobals "range" = some none)
    (b_sum : PySem.W.nsIn K mainGlobals "sum" = some none)
    (b_tuple : PySem.W.nsIn K mainGlobals "tuple" = some none)
    (b_zip : PySem.W.nsIn K mainGlobals "zip" = some none)
    (g_CREATE : PySem.W.nsIn K mainGlobals "CREATE" = some (some (.int (0) t_CREATE)))
    (g_FULL : PySem.W.nsIn K mainGlobals "FULL" = some (some (.int (-28) t_FULL)))
    (g_GREATEST : PySem.W.nsIn K mainGlobals "GREATEST" = some (some (.int (1000000) t_GREATEST)))
    (g_MAXIMUM : PySem.W.nsIn K mainGlobals "MAXIMUM" = some (some (.int (1) t_MAXIMUM)))
    (g_MINIMUM : PySem.W.nsIn K mainGlobals "MINIMUM" = some (some (.int (0) t_MINIMUM)))
    (g_MOST_COLUMNS : PySem.W.nsIn K mainGlobals "MOST_COLUMNS" = some (some (.int (8) t_MOST_COLUMNS)))
    (g_MOST_ENTRY : PySem.W.nsIn K mainGlobals "MOST_ENTRY" = some (some (.int (1000) t_MOST_ENTRY)))
    (g_MOST_ROWS : PySem.W.nsIn K mainGlobals "MOST_ROWS" = some (some (.int (24) t_MOST_ROWS)))
    (g_MOST_VARIABLES : PySem.W.nsIn K mainGlobals "MOST_VARIABLES" = some (some (.int (3) t_MOST_VARIABLES)))
    (g_NO_MODEL : PySem.W.nsIn K mainGlobals "NO_MODEL" = some (some (.int (-11) t_NO_MODEL)))
    (g_NO_RESULT : PySem.W.nsIn K mainGlobals "NO_RESULT" = some (some (.int (-33) t_NO_RESULT)))
    (g_NO_SUCH : PySem.W.nsIn K mainGlobals "NO_SUCH" = some (some (.int (-2) t_NO_SUCH)))
    (g_OUT_OF_RANGE : PySem.W.nsIn K mainGlobals "OUT_OF_RANGE" = some (some (.int (-22) t_OUT_OF_RANGE)))
    (g_SADDLE : PySem.W.nsIn K mainGlobals "SADDLE" = some (some (.int (2) t_SADDLE)))
    (g_ONE : PySem.W.nsIn K mainGlobals "ONE" = some (some (.ref r_ONE)))
    (l_ONE : K.lookup r_ONE = some ⟨.type "tuple", ro_ONE, .seq ri_ONE rn_ONE, rs_ONE⟩)
    (v_ONE : chkI ri_ONE.toList [1, 1] = true)
    (g_ZERO : PySem.W.nsIn K mainGlobals "ZERO" = some (some (.ref r_ZERO)))
    (l_ZERO : K.lookup r_ZERO = some ⟨.type "tuple", ro_ZERO, .seq ri_ZERO rn_ZERO, rs_ZERO⟩)
    (v_ZERO : chkI ri_ZERO.toList [0, 1] = true)
    (g_NUMBERS : PySem.W.nsIn K mainGlobals "NUMBERS" = some (some (.ref r_NUMBERS)))
    (l_NUMBERS : K.lookup r_NUMBERS = some ⟨.type "tuple", ro_NUMBERS, .seq ri_NUMBERS rn_NUMBERS, rs_NUMBERS⟩)
    (v_NUMBERS : chkI ri_NUMBERS.toList numsL = true)
    (g_LISTS : PySem.W.nsIn K mainGlobals "LISTS" = some (some (.ref r_LISTS)))
    (l_LISTS : K.lookup r_LISTS = some ⟨.type "tuple", ro_LISTS, .seq ri_LISTS rn_LISTS, rs_LISTS⟩)
    (v_LISTS : chkI ri_LISTS.toList lstsL = true)
    (g_DEEDS : PySem.W.nsIn K mainGlobals "DEEDS" = some (some (.ref r_DEEDS)))
    (l_DEEDS : K.lookup r_DEEDS = some ⟨.type "tuple", ro_DEEDS, .seq ri_DEEDS rn_DEEDS, rs_DEEDS⟩)
    (v_DEEDS : chkR ri_DEEDS.toList [f_create, f_add_row, f_remove_row, f_set_response, f_set_terms, f_clear_rows, f_get_row, f_tell_rank, f_tell_coefficients, f_tell_estimate, f_tell_covariance, f_tell_squared_ratio, f_tell_fitted, f_tell_leverage, f_tell_deleted, f_tell_residual_sum, f_tell_variance, f_tell_sequential, f_tell_marginal, f_tell_f_ratio, f_tell_lack_of_fit, f_tell_predict, f_tell_lost_value, f_normal_equations, f_tell_stationary, f_summary] = true)
    (inj : nodupB ([f_create, f_add_row, f_remove_row, f_set_response, f_set_terms, f_clear_rows, f_get_row, f_tell_rank, f_tell_coefficients, f_tell_estimate, f_tell_covariance, f_tell_squared_ratio, f_tell_fitted, f_tell_leverage, f_tell_deleted, f_tell_residual_sum, f_tell_variance, f_tell_sequential, f_tell_marginal, f_tell_f_ratio, f_tell_lack_of_fit, f_tell_predict, f_tell_lost_value, f_normal_equations, f_tell_stationary, f_summary] : List Addr) = true)
    (ncM : PySem.W.nsIn K mainGlobals "Model" = some (some (.ref cM)))
    (icM : PySem.W.findIn K (.ref cM) "__init__" = some (some (.ref fcM)))
    (jcM : PySem.W.isFn K (.ref fcM) = true)
    (lcM : K.lookup fcM = some ⟨occM, odcM, .func (PySem.W.fnOf "__init__" "Model.__init__" (defArgs (inClass (top 29) 0)) (defBody (inClass (top 29) 0)) (defScope (inClass (top 29) 0)) .none kVcM dccM pmcM ancM cdcM ctcM), slcM⟩)
    (ccMc : PySem.W.codeIn K cdcM "Model.__init__" = true)
    (kcM : PySem.W.keepIn K (.ref fcM) = true)
    (pgcM : PySem.W.plainGet K cM Str.empty = true)
    (hdcM : PySem.W.hasDictIn K cM = true)
    (pocM : PySem.W.plainOver K cM = true)
    (sacM : PySem.W.findIn K (.ref cM) "__setattr__" = some (some (.builtin "object.__setattr__")))
    (mkcM : PySem.W.makesIn K cM = true)
    (kccM : PySem.W.keepIn K (.ref cM) = true)
    (nacMmany : PySem.W.findIn K (.ref cM) "many" = some none)
    (nacMterms : PySem.W.findIn K (.ref cM) "terms" = some none)
    (nacMrows : PySem.W.findIn K (.ref cM) "rows" = some none)
    (ncD : PySem.W.nsIn K mainGlobals "Desk" = some (some (.ref cD)))
    (icD : PySem.W.findIn K (.ref cD) "__init__" = some (some (.ref fcD)))
    (jcD : PySem.W.isFn K (.ref fcD) = true)
    (lcD : K.lookup fcD = some ⟨occD, odcD, .func (PySem.W.fnOf "__init__" "Desk.__init__" (defArgs (inClass (top 30) 0)) (defBody (inClass (top 30) 0)) (defScope (inClass (top 30) 0)) .none kVcD dccD pmcD ancD cdcD ctcD), slcD⟩)
    (ccDc : PySem.W.codeIn K cdcD "Desk.__init__" = true)
    (kcD : PySem.W.keepIn K (.ref fcD) = true)
    (pgcD : PySem.W.plainGet K cD Str.empty = true)
    (hdcD : PySem.W.hasDictIn K cD = true)
    (pocD : PySem.W.plainOver K cD = true)
    (sacD : PySem.W.findIn K (.ref cD) "__setattr__" = some (some (.builtin "object.__setattr__")))
    (mkcD : PySem.W.makesIn K cD = true)
    (kccD : PySem.W.keepIn K (.ref cD) = true)
    (nacDmodel : PySem.W.findIn K (.ref cD) "model" = some none)
    (tr : P.given.tree = none) : ∃ fd : FuncData, (∀ (s : Shared) (us : List Value), us.length = (["calls"] : List Str).length → BindsTo s fd ⟨us, []⟩ ((["calls"] : List Str).zip us)) ∧ ∀ base : Heap, base.NoSeer → FnOk P w K mg base CX0 62 fa fd ["calls"] (TopSp K) :=
  row_done hfa (df_mk X G n_answers l_answers c_answers k_answers) fun base hb => wd_mk X G n_is_within l_is_within c_is_within k_is_within n_are_within l_are_within c_are_within k_are_within n_is_vector l_is_vector c_is_vector k_is_vector n_is_index l_is_index c_is_index k_is_index n_are_terms l_are_terms c_are_terms k_are_terms n_is_surface l_is_surface c_is_surface k_is_surface n_common l_common c_common k_common n_multiple l_multiple c_multiple k_multiple n_ratio l_ratio c_ratio k_ratio n_plus l_plus c_plus k_plus n_minus l_minus c_minus k_minus n_times l_times c_times k_times n_over l_over c_over k_over n_square l_square c_square k_square n_term_count l_term_count c_term_count k_term_count n_responses_of l_responses_of c_responses_of k_responses_of n_entries_of l_entries_of c_entries_of k_entries_of n_entries_at l_entries_at c_entries_at k_entries_at n_places_below l_places_below c_places_below k_places_below n_places_beside l_places_beside c_places_beside k_places_beside n_lowered l_lowered c_lowered k_lowered n_cleared l_cleared c_cleared k_cleared n_first_with l_first_with c_first_with k_first_with n_without l_without c_without k_without n_rank_of l_rank_of c_rank_of k_rank_of n_leads_of l_leads_of c_leads_of k_leads_of n_solved l_solved c_solved k_solved n_product l_product c_product k_product n_column l_column c_column k_column n_products l_products c_products k_products n_right_sides l_right_sides c_right_sides k_right_sides n_solved_for l_solved_for c_solved_for k_solved_for n_best_fit l_best_fit c_best_fit k_best_fit n_weighed l_weighed c_weighed k_weighed n_residual_sum_of l_residual_sum_of c_residual_sum_of k_residual_sum_of n_pairs_of l_pairs_of c_pairs_of k_pairs_of n_hessian l_hessian c_hessian k_hessian n_determinant l_determinant c_determinant k_determinant n_leading_minors l_leading_minors c_leading_minors k_leading_minors n_is_turned l_is_turned c_is_turned k_is_turned n_kind_of l_kind_of c_kind_of k_kind_of n_point_of l_point_of c_point_of k_point_of n_value_at l_value_at c_value_at k_value_at n_rank l_rank c_rank k_rank n_freedom l_freedom c_freedom k_freedom n_solution l_solution c_solution k_solution n_estimate_of l_estimate_of c_estimate_of k_estimate_of n_factor_of l_factor_of c_factor_of k_factor_of n_is_estimable l_is_estimable c_is_estimable k_is_estimable n_residual_sum l_residual_sum c_residual_sum k_residual_sum n_variance_of l_variance_of c_variance_of k_variance_of n_looked_at l_looked_at c_looked_at k_looked_at n_told_between l_told_between c_told_between k_told_between n_sequential_of l_sequential_of c_sequential_of k_sequential_of n_marginal_at l_marginal_at c_marginal_at k_marginal_at n_marginal_of l_marginal_of c_marginal_of k_marginal_of n_groups_of l_groups_of c_groups_of k_groups_of n_spread l_spread c_spread k_spread n_pure_error l_pure_error c_pure_error k_pure_error n_tell_rank l_tell_rank c_tell_rank k_tell_rank n_tell_coefficients l_tell_coefficients c_tell_coefficients k_tell_coefficients n_tell_estimate l_tell_estimate c_tell_estimate k_tell_estimate n_tell_covariance l_tell_covariance c_tell_covariance k_tell_covariance n_tell_squared_ratio l_tell_squared_ratio c_tell_squared_ratio k_tell_squared_ratio n_fitted_at l_fitted_at c_fitted_at k_fitted_at n_leverage_at l_leverage_at c_leverage_at k_leverage_at n_tell_fitted l_tell_fitted c_tell_fitted k_tell_fitted n_tell_leverage l_tell_leverage c_tell_leverage k_tell_leverage n_tell_deleted l_tell_deleted c_tell_deleted k_tell_deleted n_tell_residual_sum l_tell_residual_sum c_tell_residual_sum k_tell_residual_sum n_tell_variance l_tell_variance c_tell_variance k_tell_variance n_terms_told l_terms_told c_terms_told k_terms_told n_tell_sequential l_tell_sequential c_tell_sequential k_tell_sequential n_tell_marginal l_tell_marginal c_tell_marginal k_tell_marginal n_tell_f_ratio l_tell_f_ratio c_tell_f_ratio k_tell_f_ratio n_tell_lack_of_fit l_tell_lack_of_fit c_tell_lack_of_fit k_tell_lack_of_fit n_tell_predict l_tell_predict c_tell_predict k_tell_predict n_model_without l_model_without c_model_without k_model_without n_tell_lost_value l_tell_lost_value c_tell_lost_value k_tell_lost_value n_tell_stationary l_tell_stationary c_tell_stationary k_tell_stationary n_create l_create c_create k_create n_add_row l_add_row c_add_row k_add_row n_remove_row l_remove_row c_remove_row k_remove_row n_set_response l_set_response c_set_response k_set_response n_set_terms l_set_terms c_set_terms k_set_terms n_clear_rows l_clear_rows c_clear_rows k_clear_rows n_get_row l_get_row c_get_row k_get_row n_normal_equations l_normal_equations c_normal_equations k_normal_equations n_summary l_summary c_summary k_summary n_lists_at l_lists_at c_lists_at k_lists_at n_answer l_answer c_answer k_answer n_answers l_answers c_answers k_answers b_abs b_all b_any b_enumerate b_len b_list b_range b_sum b_tuple b_zip g_CREATE g_FULL g_GREATEST g_MAXIMUM g_MINIMUM g_MOST_COLUMNS g_MOST_ENTRY g_MOST_ROWS g_MOST_VARIABLES g_NO_MODEL g_NO_RESULT g_NO_SUCH g_OUT_OF_RANGE g_SADDLE g_ONE l_ONE v_ONE g_ZERO l_ZERO v_ZERO g_NUMBERS l_NUMBERS v_NUMBERS g_LISTS l_LISTS v_LISTS g_DEEDS l_DEEDS v_DEEDS inj ncM icM jcM lcM ccMc kcM pgcM hdcM pocM sacM mkcM kccM nacMmany nacMterms nacMrows ncD icD jcD lcD ccDc kcD pgcD hdcD pocD sacD mkcD kccD nacDmodel hb tr
end LW

set_option linter.all false
set_option Elab.async false
set_option maxRecDepth 100000
set_option maxHeartbeats 8000000
namespace LW
open PySem PySem.Spec PyProof.Rows L2
open PySem.W (Codec)
theorem only_ni {H : Hp} (hO : OnlyF H) : NoIns H := fun b u h => by
  rcases hO b with z | ⟨o, v, z⟩
  · rw [h] at z; cases z
  · rw [h] at z
    have e : u = .frz o v := Option.some.inj z
    rw [e]
    rfl
theorem asked_case (K K' : PySem.W.Frag) (hk : ∀ H b xs, SqL K' H b xs → SqL K H b xs) (H : Hp) (xs : List V) (a : Codec.denoteAll PySem.Challenge.rw_linearfits_s01_answers.args) (hO : OnlyF H) (hw : Codec.withinAll PySem.Challenge.rw_linearfits_s01_answers.args a = true)
    (hask : Codec.app PySem.Challenge.rw_linearfits_s01_answers.args PySem.Challenge.rw_linearfits_s01_answers.asked a = true) (hx : DwAll K' H xs (Codec.encAll PySem.Challenge.rw_linearfits_s01_answers.args a)) :
    TopSp K xs H (fun v H' => Dw K' H' v (PySem.Challenge.rw_linearfits_s01_answers.ret.enc (Codec.app PySem.Challenge.rw_linearfits_s01_answers.args PySem.Challenge.rw_linearfits_s01_answers.f a))) fun _ _ _ => False := by
  cases hx with
  | cons h1 h2 =>
    cases h2
    cases h1 with
    | lst hs ha =>
      have e := L2.ints_dw a.1 _ ha
      subst e
      have q : ((Codec.inLen 0 25000 a.1 && a.1.all (Codec.inInt (_root_.Int.negSucc 2147483647) (_root_.Int.ofNat 4294967295))) && true) = true := hw
      rw [Bool.and_eq_true, Bool.and_eq_true] at q
      exact ⟨_, a.1, rfl, hk _ _ _ hs, only_ni hO, (Codec.inNat_iff.mp q.1.1).2, hask, fun p H2 hp => .lst (L2.SqL.of hp) (L2.dw_ints _)⟩
end LW

set_option linter.all false
set_option Elab.async false
open PySem PySem.W PyProof.Rows
set_option maxRecDepth 100000 in
set_option maxHeartbeats 16000000 in
theorem PySem.Challenge.cw_linearfits_s01_answers_holds : PySem.Challenge.rw_linearfits_s01_answers.Holds := by
  w_on; k_headS; (case hw => exact ⟨[.list [.int 7]], by decide +kernel, by decide +kernel⟩)
  k_fillS
  refine LW.walk_end (r := PySem.Challenge.rw_linearfits_s01_answers) (k := 62) (ps := ["calls"]) (sp := LW.TopSp) (by decide +kernel) (by decide +kernel) rfl ⟨rfl, by decide, by decide⟩ (fun w h Y => PySem.W.kIn_of Y) ?F LW.asked_case
  case F =>
    intro w mg fa h Y KX G hmg
    refine' LW.all_done KX G hmg ?n_is_within ?l_is_within ?c_is_within ?k_is_within ?n_are_within ?l_are_within ?c_are_within ?k_are_within ?n_is_vector ?l_is_vector ?c_is_vector ?k_is_vector ?n_is_index ?l_is_index ?c_is_index ?k_is_index ?n_are_terms ?l_are_terms ?c_are_terms ?k_are_terms ?n_is_surface ?l_is_surface ?c_is_surface ?k_is_surface ?n_common ?l_common ?c_common ?k_common ?n_multiple ?l_multiple ?c_multiple ?k_multiple ?n_ratio ?l_ratio ?c_ratio ?k_ratio ?n_plus ?l_plus ?c_plus ?k_plus ?n_minus ?l_minus ?c_minus ?k_minus ?n_times ?l_times ?c_times ?k_times ?n_over ?l_over ?c_over ?k_over ?n_square ?l_square ?c_square ?k_square ?n_term_count ?l_term_count ?c_term_count ?k_term_count ?n_responses_of ?l_responses_of ?c_responses_of ?k_responses_of ?n_entries_of ?l_entries_of ?c_entries_of ?k_entries_of ?n_entries_at ?l_entries_at ?c_entries_at ?k_entries_at ?n_places_below ?l_places_below ?c_places_below ?k_places_below ?n_places_beside ?l_places_beside ?c_places_beside ?k_places_beside ?n_lowered ?l_lowered ?c_lowered ?k_lowered ?n_cleared ?l_cleared ?c_cleared ?k_cleared ?n_first_with ?l_first_with ?c_first_with ?k_first_with ?n_without ?l_without ?c_without ?k_without ?n_rank_of ?l_rank_of ?c_rank_of ?k_rank_of ?n_leads_of ?l_leads_of ?c_leads_of ?k_leads_of ?n_solved ?l_solved ?c_solved ?k_solved ?n_product ?l_product ?c_product ?k_product ?n_column ?l_column ?c_column ?k_column ?n_products ?l_products ?c_products ?k_products ?n_right_sides ?l_right_sides ?c_right_sides ?k_right_sides ?n_solved_for ?l_solved_for ?c_solved_for ?k_solved_for ?n_best_fit ?l_best_fit ?c_best_fit ?k_best_fit ?n_weighed ?l_weighed ?c_weighed ?k_weighed ?n_residual_sum_of ?l_residual_sum_of ?c_residual_sum_of ?k_residual_sum_of ?n_pairs_of ?l_pairs_of ?c_pairs_of ?k_pairs_of ?n_hessian ?l_hessian ?c_hessian ?k_hessian ?n_determinant ?l_determinant ?c_determinant ?k_determinant ?n_leading_minors ?l_leading_minors ?c_leading_minors ?k_leading_minors ?n_is_turned ?l_is_turned ?c_is_turned ?k_is_turned ?n_kind_of ?l_kind_of ?c_kind_of ?k_kind_of ?n_point_of ?l_point_of ?c_point_of ?k_point_of ?n_value_at ?l_value_at ?c_value_at ?k_value_at ?n_rank ?l_rank ?c_rank ?k_rank ?n_freedom ?l_freedom ?c_freedom ?k_freedom ?n_solution ?l_solution ?c_solution ?k_solution ?n_estimate_of ?l_estimate_of ?c_estimate_of ?k_estimate_of ?n_factor_of ?l_factor_of ?c_factor_of ?k_factor_of ?n_is_estimable ?l_is_estimable ?c_is_estimable ?k_is_estimable ?n_residual_sum ?l_residual_sum ?c_residual_sum ?k_residual_sum ?n_variance_of ?l_variance_of ?c_variance_of ?k_variance_of ?n_looked_at ?l_looked_at ?c_looked_at ?k_looked_at ?n_told_between ?l_told_between ?c_told_between ?k_told_between ?n_sequential_of ?l_sequential_of ?c_sequential_of ?k_sequential_of ?n_marginal_at ?l_marginal_at ?c_marginal_at ?k_marginal_at ?n_marginal_of ?l_marginal_of ?c_marginal_of ?k_marginal_of ?n_groups_of ?l_groups_of ?c_groups_of ?k_groups_of ?n_spread ?l_spread ?c_spread ?k_spread ?n_pure_error ?l_pure_error ?c_pure_error ?k_pure_error ?n_tell_rank ?l_tell_rank ?c_tell_rank ?k_tell_rank ?n_tell_coefficients ?l_tell_coefficients ?c_tell_coefficients ?k_tell_coefficients ?n_tell_estimate ?l_tell_estimate ?c_tell_estimate ?k_tell_estimate ?n_tell_covariance ?l_tell_covariance ?c_tell_covariance ?k_tell_covariance ?n_tell_squared_ratio ?l_tell_squared_ratio ?c_tell_squared_ratio ?k_tell_squared_ratio ?n_fitted_at ?l_fitted_at ?c_fitted_at ?k_fitted_at ?n_leverage_at ?l_leverage_at ?c_leverage_at ?k_leverage_at ?n_tell_fitted ?l_tell_fitted ?c_tell_fitted ?k_tell_fitted ?n_tell_leverage ?l_tell_leverage ?c_tell_leverage ?k_tell_leverage ?n_tell_deleted ?l_tell_deleted ?c_tell_deleted ?k_tell_deleted ?n_tell_residual_sum ?l_tell_residual_sum ?c_tell_residual_sum ?k_tell_residual_sum ?n_tell_variance ?l_tell_variance ?c_tell_variance ?k_tell_variance ?n_terms_told ?l_terms_told ?c_terms_told ?k_terms_told ?n_tell_sequential ?l_tell_sequential ?c_tell_sequential ?k_tell_sequential ?n_tell_marginal ?l_tell_marginal ?c_tell_marginal ?k_tell_marginal ?n_tell_f_ratio ?l_tell_f_ratio ?c_tell_f_ratio ?k_tell_f_ratio ?n_tell_lack_of_fit ?l_tell_lack_of_fit ?c_tell_lack_of_fit ?k_tell_lack_of_fit ?n_tell_predict ?l_tell_predict ?c_tell_predict ?k_tell_predict ?n_model_without ?l_model_without ?c_model_without ?k_model_without ?n_tell_lost_value ?l_tell_lost_value ?c_tell_lost_value ?k_tell_lost_value ?n_tell_stationary ?l_tell_stationary ?c_tell_stationary ?k_tell_stationary ?n_create ?l_create ?c_create ?k_create ?n_add_row ?l_add_row ?c_add_row ?k_add_row ?n_remove_row ?l_remove_row ?c_remove_row ?k_remove_row ?n_set_response ?l_set_response ?c_set_response ?k_set_response ?n_set_terms ?l_set_terms ?c_set_terms ?k_set_terms ?n_clear_rows ?l_clear_rows ?c_clear_rows ?k_clear_rows ?n_get_row ?l_get_row ?c_get_row ?k_get_row ?n_normal_equations ?l_normal_equations ?c_normal_equations ?k_normal_equations ?n_summary ?l_summary ?c_summary ?k_summary ?n_lists_at ?l_lists_at ?c_lists_at ?k_lists_at ?n_answer ?l_answer ?c_answer ?k_answer ?n_answers ?l_answers ?c_answers ?k_answers ?b_abs ?b_all ?b_any ?b_enumerate ?b_len ?b_list ?b_range ?b_sum ?b_tuple ?b_zip ?g_CREATE ?g_FULL ?g_GREATEST ?g_MAXIMUM ?g_MINIMUM ?g_MOST_COLUMNS ?g_MOST_ENTRY ?g_MOST_ROWS ?g_MOST_VARIABLES ?g_NO_MODEL ?g_NO_RESULT ?g_NO_SUCH ?g_OUT_OF_RANGE ?g_SADDLE ?g_ONE ?l_ONE ?v_ONE ?g_ZERO ?l_ZERO ?v_ZERO ?g_NUMBERS ?l_NUMBERS ?v_NUMBERS ?g_LISTS ?l_LISTS ?v_LISTS ?g_DEEDS ?l_DEEDS ?v_DEEDS ?inj ?ncM ?icM ?jcM ?lcM ?ccMc ?kcM ?pgcM ?hdcM ?pocM ?sacM ?mkcM ?kccM ?nacMmany ?nacMterms ?nacMrows ?ncD ?icD ?jcD ?lcD ?ccDc ?kcD ?pgcD ?hdcD ?pocD ?sacD ?mkcD ?kccD ?nacDmodel ?tr
    (case n_is_within => k_is)
    (case l_is_within => k_is)
    (case c_is_within => k_is)
    (case k_is_within => k_is)
    (case n_are_within => k_is)
    (case l_are_within => k_is)
    (case c_are_within => k_is)
    (case k_are_within => k_is)
    (case n_is_vector => k_is)
    (case l_is_vector => k_is)
    (case c_is_vector => k_is)
    (case k_is_vector => k_is)
    (case n_is_index => k_is)
    (case l_is_index => k_is)
    (case c_is_index => k_is)
    (case k_is_index => k_is)
    (case n_are_terms => k_is)
    (case l_are_terms => k_is)
    (case c_are_terms => k_is)
    (case k_are_terms => k_is)
    (case n_is_surface => k_is)
    (case l_is_surface => k_is)
    (case c_is_surface => k_is)
    (case k_is_surface => k_is)
    (case n_common => k_is)
    (case l_common => k_is)
    (case c_common => k_is)
    (case k_common => k_is)
    (case n_multiple => k_is)
    (case l_multiple => k_is)
    (case c_multiple => k_is)
    (case k_multiple => k_is)
    (case n_ratio => k_is)
    (case l_ratio => k_is)
    (case c_ratio => k_is)
    (case k_ratio => k_is)
    (case n_plus => k_is)
    (case l_plus => k_is)
    (case c_plus => k_is)
    (case k_plus => k_is)
    (case n_minus => k_is)
    (case l_minus => k_is)
    (case c_minus => k_is)
    (case k_minus => k_is)
    (case n_times => k_is)
    (case l_times => k_is)
    (case c_times => k_is)
    (case k_times => k_is)
    (case n_over => k_is)
    (case l_over => k_is)
    (case c_over => k_is)
    (case k_over => k_is)
    (case n_square => k_is)
    (case l_square => k_is)
    (case c_square => k_is)
    (case k_square => k_is)
    (case n_term_count => k_is)
    (case l_term_count => k_is)
    (case c_term_count => k_is)
    (case k_term_count => k_is)
    (case n_responses_of => k_is)
    (case l_responses_of => k_is)
    (case c_responses_of => k_is)
    (case k_responses_of => k_is)
    (case n_entries_of => k_is)
    (case l_entries_of => k_is)
    (case c_entries_of => k_is)
    (case k_entries_of => k_is)
    (case n_entries_at => k_is)
    (case l_entries_at => k_is)
    (case c_entries_at => k_is)
    (case k_entries_at => k_is)
    (case n_places_below => k_is)
    (case l_places_below => k_is)
    (case c_places_below => k_is)
    (case k_places_below => k_is)
    (case n_places_beside => k_is)
    (case l_places_beside => k_is)
    (case c_places_beside => k_is)
    (case k_places_beside => k_is)
    (case n_lowered => k_is)
    (case l_lowered => k_is)
    (case c_lowered => k_is)
    (case k_lowered => k_is)
    (case n_cleared => k_is)
    (case l_cleared => k_is)
    (case c_cleared => k_is)
    (case k_cleared => k_is)
    (case n_first_with => k_is)
    (case l_first_with => k_is)
    (case c_first_with => k_is)
    (case k_first_with => k_is)
    (case n_without => k_is)
    (case l_without => k_is)
    (case c_without => k_is)
    (case k_without => k_is)
    (case n_rank_of => k_is)
    (case l_rank_of => k_is)
    (case c_rank_of => k_is)
    (case k_rank_of => k_is)
    (case n_leads_of => k_is)
    (case l_leads_of => k_is)
    (case c_leads_of => k_is)
    (case k_leads_of => k_is)
    (case n_solved => k_is)
    (case l_solved => k_is)
    (case c_solved => k_is)
    (case k_solved => k_is)
    (case n_product => k_is)
    (case l_product => k_is)
    (case c_product => k_is)
    (case k_product => k_is)
    (case n_column => k_is)
    (case l_column => k_is)
    (case c_column => k_is)
    (case k_column => k_is)
    (case n_products => k_is)
    (case l_products => k_is)
    (case c_products => k_is)
    (case k_products => k_is)
    (case n_right_sides => k_is)
    (case l_right_sides => k_is)
    (case c_right_sides => k_is)
    (case k_right_sides => k_is)
    (case n_solved_for => k_is)
    (case l_solved_for => k_is)
    (case c_solved_for => k_is)
    (case k_solved_for => k_is)
    (case n_best_fit => k_is)
    (case l_best_fit => k_is)
    (case c_best_fit => k_is)
    (case k_best_fit => k_is)
    (case n_weighed => k_is)
    (case l_weighed => k_is)
    (case c_weighed => k_is)
    (case k_weighed => k_is)
    (case n_residual_sum_of => k_is)
    (case l_residual_sum_of => k_is)
    (case c_residual_sum_of => k_is)
    (case k_residual_sum_of => k_is)
    (case n_pairs_of => k_is)
    (case l_pairs_of => k_is)
    (case c_pairs_of => k_is)
    (case k_pairs_of => k_is)
    (case n_hessian => k_is)
    (case l_hessian => k_is)
    (case c_hessian => k_is)
    (case k_hessian => k_is)
    (case n_determinant => k_is)
    (case l_determinant => k_is)
    (case c_determinant => k_is)
    (case k_determinant => k_is)
    (case n_leading_minors => k_is)
    (case l_leading_minors => k_is)
    (case c_leading_minors => k_is)
    (case k_leading_minors => k_is)
    (case n_is_turned => k_is)
    (case l_is_turned => k_is)
    (case c_is_turned => k_is)
    (case k_is_turned => k_is)
    (case n_kind_of => k_is)
    (case l_kind_of => k_is)
    (case c_kind_of => k_is)
    (case k_kind_of => k_is)
    (case n_point_of => k_is)
    (case l_point_of => k_is)
    (case c_point_of => k_is)
    (case k_point_of => k_is)
    (case n_value_at => k_is)
    (case l_value_at => k_is)
    (case c_value_at => k_is)
    (case k_value_at => k_is)
    (case n_rank => k_is)
    (case l_rank => k_is)
    (case c_rank => k_is)
    (case k_rank => k_is)
    (case n_freedom => k_is)
    (case l_freedom => k_is)
    (case c_freedom => k_is)
    (case k_freedom => k_is)
    (case n_solution => k_is)
    (case l_solution => k_is)
    (case c_solution => k_is)
    (case k_solution => k_is)
    (case n_estimate_of => k_is)
    (case l_estimate_of => k_is)
    (case c_estimate_of => k_is)
    (case k_estimate_of => k_is)
    (case n_factor_of => k_is)
    (case l_factor_of => k_is)
    (case c_factor_of => k_is)
    (case k_factor_of => k_is)
    (case n_is_estimable => k_is)
    (case l_is_estimable => k_is)
    (case c_is_estimable => k_is)
    (case k_is_estimable => k_is)
    (case n_residual_sum => k_is)
    (case l_residual_sum => k_is)
    (case c_residual_sum => k_is)
    (case k_residual_sum => k_is)
    (case n_variance_of => k_is)
    (case l_variance_of => k_is)
    (case c_variance_of => k_is)
    (case k_variance_of => k_is)
    (case n_looked_at => k_is)
    (case l_looked_at => k_is)
    (case c_looked_at => k_is)
    (case k_looked_at => k_is)
    (case n_told_between => k_is)
    (case l_told_between => k_is)
    (case c_told_between => k_is)
    (case k_told_between => k_is)
    (case n_sequential_of => k_is)
    (case l_sequential_of => k_is)
    (case c_sequential_of => k_is)
    (case k_sequential_of => k_is)
    (case n_marginal_at => k_is)
    (case l_marginal_at => k_is)
    (case c_marginal_at => k_is)
    (case k_marginal_at => k_is)
    (case n_marginal_of => k_is)
    (case l_marginal_of => k_is)
    (case c_marginal_of => k_is)
    (case k_marginal_of => k_is)
    (case n_groups_of => k_is)
    (case l_groups_of => k_is)
    (case c_groups_of => k_is)
    (case k_groups_of => k_is)
    (case n_spread => k_is)
    (case l_spread => k_is)
    (case c_spread => k_is)
    (case k_spread => k_is)
    (case n_pure_error => k_is)
    (case l_pure_error => k_is)
    (case c_pure_error => k_is)
    (case k_pure_error => k_is)
    (case n_tell_rank => k_is)
    (case l_tell_rank => k_is)
    (case c_tell_rank => k_is)
    (case k_tell_rank => k_is)
    (case n_tell_coefficients => k_is)
    (case l_tell_coefficients => k_is)
    (case c_tell_coefficients => k_is)
    (case k_tell_coefficients => k_is)
    (case n_tell_estimate => k_is)
    (case l_tell_estimate => k_is)
    (case c_tell_estimate => k_is)
    (case k_tell_estimate => k_is)
    (case n_tell_covariance => k_is)
    (case l_tell_covariance => k_is)
    (case c_tell_covariance => k_is)
    (case k_tell_covariance => k_is)
    (case n_tell_squared_ratio => k_is)
    (case l_tell_squared_ratio => k_is)
    (case c_tell_squared_ratio => k_is)
    (case k_tell_squared_ratio => k_is)
    (case n_fitted_at => k_is)
    (case l_fitted_at => k_is)
    (case c_fitted_at => k_is)
    (case k_fitted_at => k_is)
    (case n_leverage_at => k_is)
    (case l_leverage_at => k_is)
    (case c_leverage_at => k_is)
    (case k_leverage_at => k_is)
    (case n_tell_fitted => k_is)
    (case l_tell_fitted => k_is)
    (case c_tell_fitted => k_is)
    (case k_tell_fitted => k_is)
    (case n_tell_leverage => k_is)
    (case l_tell_leverage => k_is)
    (case c_tell_leverage => k_is)
    (case k_tell_leverage => k_is)
    (case n_tell_deleted => k_is)
    (case l_tell_deleted => k_is)
    (case c_tell_deleted => k_is)
    (case k_tell_deleted => k_is)
    (case n_tell_residual_sum => k_is)
    (case l_tell_residual_sum => k_is)
    (case c_tell_residual_sum => k_is)
    (case k_tell_residual_sum => k_is)
    (case n_tell_variance => k_is)
    (case l_tell_variance => k_is)
    (case c_tell_variance => k_is)
    (case k_tell_variance => k_is)
    (case n_terms_told => k_is)
    (case l_terms_told => k_is)
    (case c_terms_told => k_is)
    (case k_terms_told => k_is)
    (case n_tell_sequential => k_is)
    (case l_tell_sequential => k_is)
    (case c_tell_sequential => k_is)
    (case k_tell_sequential => k_is)
    (case n_tell_marginal => k_is)
    (case l_tell_marginal => k_is)
    (case c_tell_marginal => k_is)
    (case k_tell_marginal => k_is)
    (case n_tell_f_ratio => k_is)
    (case l_tell_f_ratio => k_is)
    (case c_tell_f_ratio => k_is)
    (case k_tell_f_ratio => k_is)
    (case n_tell_lack_of_fit => k_is)
    (case l_tell_lack_of_fit => k_is)
    (case c_tell_lack_of_fit => k_is)
    (case k_tell_lack_of_fit => k_is)
    (case n_tell_predict => k_is)
    (case l_tell_predict => k_is)
    (case c_tell_predict => k_is)
    (case k_tell_predict => k_is)
    (case n_model_without => k_is)
    (case l_model_without => k_is)
    (case c_model_without => k_is)
    (case k_model_without => k_is)
    (case n_tell_lost_value => k_is)
    (case l_tell_lost_value => k_is)
    (case c_tell_lost_value => k_is)
    (case k_tell_lost_value => k_is)
    (case n_tell_stationary => k_is)
    (case l_tell_stationary => k_is)
    (case c_tell_stationary => k_is)
    (case k_tell_stationary => k_is)
    (case n_create => k_is)
    (case l_create => k_is)
    (case c_create => k_is)
    (case k_create => k_is)
    (case n_add_row => k_is)
    (case l_add_row => k_is)
    (case c_add_row => k_is)
    (case k_add_row => k_is)
    (case n_remove_row => k_is)
    (case l_remove_row => k_is)
    (case c_remove_row => k_is)
    (case k_remove_row => k_is)
    (case n_set_response => k_is)
    (case l_set_response => k_is)
    (case c_set_response => k_is)
    (case k_set_response => k_is)
    (case n_set_terms => k_is)
    (case l_set_terms => k_is)
    (case c_set_terms => k_is)
    (case k_set_terms => k_is)
    (case n_clear_rows => k_is)
    (case l_clear_rows => k_is)
    (case c_clear_rows => k_is)
    (case k_clear_rows => k_is)
    (case n_get_row => k_is)
    (case l_get_row => k_is)
    (case c_get_row => k_is)
    (case k_get_row => k_is)
    (case n_normal_equations => k_is)
    (case l_normal_equations => k_is)
    (case c_normal_equations => k_is)
    (case k_normal_equations => k_is)
    (case n_summary => k_is)
    (case l_summary => k_is)
    (case c_summary => k_is)
    (case k_summary => k_is)
    (case n_lists_at => k_is)
    (case l_lists_at => k_is)
    (case c_lists_at => k_is)
    (case k_lists_at => k_is)
    (case n_answer => k_is)
    (case l_answer => k_is)
    (case c_answer => k_is)
    (case k_answer => k_is)
    (case n_answers => k_is)
    (case l_answers => k_is)
    (case c_answers => k_is)
    (case k_answers => k_is)
    (case b_abs => k_is)
    (case b_all => k_is)
    (case b_any => k_is)
    (case b_enumerate => k_is)
    (case b_len => k_is)
    (case b_list => k_is)
    (case b_range => k_is)
    (case b_sum => k_is)
    (case b_tuple => k_is)
    (case b_zip => k_is)
    (case g_CREATE => k_is)
    (case g_FULL => k_is)
    (case g_GREATEST => k_is)
    (case g_MAXIMUM => k_is)
    (case g_MINIMUM => k_is)
    (case g_MOST_COLUMNS => k_is)
    (case g_MOST_ENTRY => k_is)
    (case g_MOST_ROWS => k_is)
    (case g_MOST_VARIABLES => k_is)
    (case g_NO_MODEL => k_is)
    (case g_NO_RESULT => k_is)
    (case g_NO_SUCH => k_is)
    (case g_OUT_OF_RANGE => k_is)
    (case g_SADDLE => k_is)
    (case g_ONE => k_is)
    (case l_ONE => k_is)
    (case v_ONE => rfl)
    (case g_ZERO => k_is)
    (case l_ZERO => k_is)
    (case v_ZERO => rfl)
    (case g_NUMBERS => k_is)
    (case l_NUMBERS => k_is)
    (case v_NUMBERS => rfl)
    (case g_LISTS => k_is)
    (case l_LISTS => k_is)
    (case v_LISTS => rfl)
    (case g_DEEDS => k_is)
    (case l_DEEDS => k_is)
    (case v_DEEDS => rfl)
    (case inj => rfl)
    (case ncM => k_is)
    (case icM => k_is)
    (case jcM => k_is)
    (case lcM => k_is)
    (case ccMc => k_is)
    (case kcM => k_is)
    (case pgcM => k_is)
    (case hdcM => k_is)
    (case pocM => k_is)
    (case sacM => k_is)
    (case mkcM => k_is)
    (case kccM => k_is)
    (case nacMmany => k_is)
    (case nacMterms => k_is)
    (case nacMrows => k_is)
    (case ncD => k_is)
    (case icD => k_is)
    (case jcD => k_is)
    (case lcD => k_is)
    (case ccDc => k_is)
    (case kcD => k_is)
    (case pgcD => k_is)
    (case hdcD => k_is)
    (case pocD => k_is)
    (case sacD => k_is)
    (case mkcD => k_is)
    (case kccD => k_is)
    (case nacDmodel => k_is)
    (case tr => rfl)

