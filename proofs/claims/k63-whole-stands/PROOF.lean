import PyProof.Rows.All
import Wide.All
import OpenK.AllK
import Wide.FinOn
import HandS.ForMost
import HandS.ForExc
import HandS.Wide
import HandS.IsInst
import HandS.Defaults
import HandS.FStr
import HandS.ExcInit
import HandS.EndTab
import KE.KExcSuper
import HandS.More
import HandS.Style
import KE.KDflt
import KE.KExcIs
import HandS.ExcField
import HandS.Text
import HandS.MakeKwOnly
import PyProof.ReprRoads
import PySem.Challenge.RW_timesfloor_k63_whole_stands_as_points
set_option Elab.async false
set_option linter.all false
set_option maxRecDepth 100000
set_option maxHeartbeats 4000000
namespace TF
/-! the plain law: numbers as pairs (above, under), heights, what is led back -/
abbrev Q2 := Int × Int
def red (a b : Int) : Q2 := (a / (Int.gcd a b : Int), b / (Int.gcd a b : Int))
/-- reduced -/
def Rd2 (a b : Int) : Prop := 0 < b ∧ Int.gcd a b = 1
theorem red_of {a b : Int} (h : Int.gcd a b = 1) : red a b = (a, b) := by
  unfold red; rw [h]; simp
theorem gcd_pos {a b : Int} (hb : 0 < b) : 0 < (Int.gcd a b : Int) := by
  have : 0 < Int.gcd a b := Int.gcd_pos_of_ne_zero_right a (by omega)
  omega
theorem red_rd {a b : Int} (hb : 0 < b) : Rd2 (red a b).1 (red a b).2 := by
  have hg := gcd_pos (a := a) hb
  refine ⟨?_, ?_⟩
  · show 0 < b / (Int.gcd a b : Int)
    exact Int.ediv_pos_of_pos_of_dvd hb (by omega) (Int.gcd_dvd_right ..)
  · show Int.gcd (a / (Int.gcd a b : Int)) (b / (Int.gcd a b : Int)) = 1
    exact Int.gcd_ediv_gcd_ediv_gcd (by omega)
theorem gcd_int {a : Int} : Int.gcd a 1 = 1 := by simp
theorem gcd_shift (l a b : Int) : Int.gcd (l * b + a) b = Int.gcd a b := by
  rw [Int.gcd_comm, Int.add_comm, Int.gcd_add_mul_right_right, Int.gcd_comm]
/-- the heights of contents: none for endless -/
def ht : Option Nat → Q2
  | none => (0, 1)
  | some 0 => (3, 1)
  | some (n + 1) => (1, 3 ^ n)
def IsH (a b : Int) : Prop := ∃ c, ht c = (a, b)
theorem pow3 (n : Nat) : (0 : Int) < 3 ^ n := Int.pow_pos (by decide)
theorem ht_pos (c : Option Nat) : 0 < (ht c).2 := by
  match c with
  | none => decide
  | some 0 => decide
  | some (n + 1) => exact pow3 n
theorem ht_gcd (c : Option Nat) : Int.gcd (ht c).1 (ht c).2 = 1 := by
  match c with
  | none => decide
  | some 0 => decide
  | some (n + 1) => show Int.gcd 1 _ = 1; simp
theorem ht_rd (c : Option Nat) : Rd2 (ht c).1 (ht c).2 := ⟨ht_pos c, ht_gcd c⟩
theorem ht_lo (c : Option Nat) : 0 ≤ (ht c).1 := by
  match c with
  | none => decide
  | some 0 => decide
  | some (n + 1) => show (0 : Int) ≤ 1; decide
theorem ht_hi (c : Option Nat) : (ht c).1 ≤ 3 * (ht c).2 := by
  match c with
  | none => decide
  | some 0 => decide
  | some (n + 1) => show (1 : Int) ≤ 3 * 3 ^ n; have := pow3 n; omega
/-- what like_contents finds of a number above 0: the least n -/
def Lk (a b : Int) (n : Nat) : Prop := 2 * b ≤ a * 3 ^ n ∧ ∀ m, m < n → a * 3 ^ m < 2 * b
theorem lk_uniq {a b : Int} {n m : Nat} (h : Lk a b n) (k : Lk a b m) : n = m := by
  rcases Nat.lt_trichotomy n m with x | x | x
  · have := k.2 n x; have := h.1; omega
  · exact x
  · have := h.2 m x; have := k.1; omega
theorem lk_ht (k : Nat) : Lk (ht (some k)).1 (ht (some k)).2 k := by
  match k with
  | 0 => exact ⟨by decide, fun m h => absurd h (Nat.not_lt_zero _)⟩
  | n + 1 =>
    have h0 := pow3 n
    refine ⟨?_, fun m h => ?_⟩
    · show 2 * (3 : Int) ^ n ≤ 1 * 3 ^ (n + 1)
      rw [Int.pow_succ]; omega
    · show 1 * (3 : Int) ^ m < 2 * 3 ^ n
      have e : n = m + (n - m) := by omega
      have hm := pow3 m
      have h1 := pow3 (n - m)
      have : (3 : Int) ^ m ≤ 3 ^ n := by
        rw [e, Int.pow_add]
        have : (3 : Int) ^ m * 1 ≤ 3 ^ m * 3 ^ (n - m) := Int.mul_le_mul_of_nonneg_left (by omega) (by omega)
        omega
      omega
theorem lk_of {a b : Int} {n : Nat} (h : Lk a b n) {c : Option Nat} (e : ht c = (a, b)) (ha : 0 < a) : c = some n := by
  match c, e with
  | none, e => have : (0 : Int) = a := congrArg Prod.fst e; omega
  | some k, e =>
    have q := lk_ht k
    rw [e] at q
    rw [lk_uniq h q]
/-- the fork of has_contents -/
theorem isH_out {a b : Int} (h : a < 0 ∨ 3 * b < a) : ¬ IsH a b := by
  rintro ⟨c, e⟩
  have h1 := ht_lo c
  have h2 := ht_hi c
  rw [e] at h1 h2
  dsimp only at h1 h2
  omega
theorem isH_top {a b : Int} (hb : 0 < b) (h : 2 * b ≤ a) : IsH a b ↔ (a = 3 ∧ b = 1) := by
  constructor
  · rintro ⟨c, e⟩
    match c, e with
    | none, e =>
      have e1 : (0 : Int) = a := congrArg Prod.fst e
      have e2 : (1 : Int) = b := congrArg Prod.snd e
      omega
    | some 0, e =>
      have e1 : (3 : Int) = a := congrArg Prod.fst e
      have e2 : (1 : Int) = b := congrArg Prod.snd e
      omega
    | some (n + 1), e =>
      have e1 : (1 : Int) = a := congrArg Prod.fst e
      omega
  · rintro ⟨rfl, rfl⟩
    exact ⟨some 0, rfl⟩
theorem isH_mid {a b : Int} (hb : 0 < b) (h1 : b < a) (h2 : a < 2 * b) : ¬ IsH a b := by
  rintro ⟨c, e⟩
  match c, e with
  | none, e =>
    have e1 : (0 : Int) = a := congrArg Prod.fst e
    omega
  | some 0, e =>
    have e1 : (3 : Int) = a := congrArg Prod.fst e
    have e2 : (1 : Int) = b := congrArg Prod.snd e
    omega
  | some (n + 1), e =>
    have e1 : (1 : Int) = a := congrArg Prod.fst e
    omega
theorem isH_low {a b : Int} {n : Nat} (ha : 0 < a) (h : Lk a b n) : IsH a b ↔ ht (some n) = (a, b) := by
  constructor
  · rintro ⟨c, e⟩
    rw [← lk_of h e ha]; exact e
  · intro e; exact ⟨_, e⟩
/-- the point of a stand: its first number -/
def px (l : Int) (c : Option Nat) : Q2 := (4 * l * (ht c).2 + (ht c).1, (ht c).2)
theorem px_rd (l : Int) (c : Option Nat) : Rd2 (px l c).1 (px l c).2 := ⟨ht_pos c, by show Int.gcd (4 * l * (ht c).2 + (ht c).1) (ht c).2 = 1; rw [gcd_shift]; exact ht_gcd c⟩
theorem div_shift (l a b : Int) (hb : 0 < b) (h0 : 0 ≤ a) (h4 : a < 4 * b) : (4 * l * b + a) / b / 4 = l := by
  have e : (4 * l * b + a) / b = 4 * l + a / b := by
    rw [Int.add_comm, Int.add_mul_ediv_right _ _ (by omega), Int.add_comm]
  rw [e]
  have h1 : 0 ≤ a / b := Int.ediv_nonneg h0 (by omega)
  have h2 : a / b < 4 := Int.ediv_lt_of_lt_mul hb h4
  omega
theorem px_line (l : Int) (c : Option Nat) : (px l c).1 / (px l c).2 / 4 = l := by
  have := ht_hi c; have := ht_pos c; have := ht_lo c
  exact div_shift l _ _ (ht_pos c) (ht_lo c) (by omega)
/-- what is left behind the line -/
theorem px_rest (l : Int) (c : Option Nat) : ((px l c).1 - 4 * l * (px l c).2, (px l c).2) = ht c := by
  show (4 * l * (ht c).2 + (ht c).1 - 4 * l * (ht c).2, (ht c).2) = ht c
  rw [Int.add_comm, Int.add_sub_cancel]
theorem ht_inj {c d : Option Nat} (h : ht c = ht d) : c = d := by
  match c, d with
  | none, none => rfl
  | none, some 0 => exact absurd (congrArg Prod.fst h) (by decide)
  | none, some (n + 1) => exact absurd (congrArg Prod.fst h) (by show ¬ (0 : Int) = 1; decide)
  | some k, d =>
    have hp : 0 < (ht (some k)).1 := by
      match k with
      | 0 => decide
      | n + 1 => show (0 : Int) < 1; decide
    exact (lk_of (lk_ht k) h.symm hp).symm
theorem px_inj {l l' : Int} {c c' : Option Nat} (h : px l c = px l' c') : l = l' ∧ c = c' := by
  have h1 := px_line l c
  have h2 := px_line l' c'
  rw [h, h2] at h1
  subst h1
  refine ⟨rfl, ht_inj ?_⟩
  rw [← px_rest l' c, ← px_rest l' c', h]
end TF
namespace TF
open PySem PySem.Spec PyProof.Rows L2
/-! ### the text by places (wip/gen.py prints it) -/
def topS (i : Nat) : Stmt := PySem.Challenge.pw_timesfloor_k63_whole_stands_as_points.main.body.getD i (.Pass ⟨0, 0, 0, 0⟩)
abbrev s_is_integer : Stmt := topS 9
abbrev n_is_integer : List Str := ["value"]
abbrev p_is_integer : List Str := ["value"]
theorem sc_is_integer : FnScope n_is_integer p_is_integer (defScope s_is_integer) := ⟨rfl, rfl, rfl, by decide +kernel, rfl, by decide +kernel, by decide +kernel⟩
abbrev s_is_within : Stmt := topS 10
abbrev n_is_within : List Str := ["value", "least", "most"]
abbrev p_is_within : List Str := ["value", "least", "most"]
theorem sc_is_within : FnScope n_is_within p_is_within (defScope s_is_within) := ⟨rfl, rfl, rfl, by decide +kernel, rfl, by decide +kernel, by decide +kernel⟩
abbrev s_is_list : Stmt := topS 11
abbrev n_is_list : List Str := ["value"]
abbrev p_is_list : List Str := ["value"]
theorem sc_is_list : FnScope n_is_list p_is_list (defScope s_is_list) := ⟨rfl, rfl, rfl, by decide +kernel, rfl, by decide +kernel, by decide +kernel⟩
abbrev s_halves : Stmt := topS 14
abbrev n_halves : List Str := ["number"]
abbrev p_halves : List Str := ["number"]
theorem sc_halves : FnScope n_halves p_halves (defScope s_halves) := ⟨rfl, rfl, rfl, by decide +kernel, rfl, by decide +kernel, by decide +kernel⟩
abbrev s_common : Stmt := topS 15
abbrev n_common : List Str := ["one", "other"]
abbrev p_common : List Str := ["one", "other"]
theorem sc_common : FnScope n_common p_common (defScope s_common) := ⟨rfl, rfl, rfl, by decide +kernel, rfl, by decide +kernel, by decide +kernel⟩
abbrev s_lowest_in : Stmt := topS 16
abbrev n_lowest_in : List Str := ["above", "under", "by"]
abbrev p_lowest_in : List Str := ["above", "under"]
theorem sc_lowest_in : FnScope n_lowest_in p_lowest_in (defScope s_lowest_in) := ⟨rfl, rfl, rfl, by decide +kernel, rfl, by decide +kernel, by decide +kernel⟩
abbrev s_plus_in : Stmt := topS 17
abbrev n_plus_in : List Str := ["one", "other", "a", "b", "c", "d"]
abbrev p_plus_in : List Str := ["one", "other"]
theorem sc_plus_in : FnScope n_plus_in p_plus_in (defScope s_plus_in) := ⟨rfl, rfl, rfl, by decide +kernel, rfl, by decide +kernel, by decide +kernel⟩
abbrev s_times_in : Stmt := topS 18
abbrev n_times_in : List Str := ["one", "other", "a", "b", "c", "d"]
abbrev p_times_in : List Str := ["one", "other"]
theorem sc_times_in : FnScope n_times_in p_times_in (defScope s_times_in) := ⟨rfl, rfl, rfl, by decide +kernel, rfl, by decide +kernel, by decide +kernel⟩
abbrev s_minus_in : Stmt := topS 19
abbrev n_minus_in : List Str := ["one", "other"]
abbrev p_minus_in : List Str := ["one", "other"]
theorem sc_minus_in : FnScope n_minus_in p_minus_in (defScope s_minus_in) := ⟨rfl, rfl, rfl, by decide +kernel, rfl, by decide +kernel, by decide +kernel⟩
abbrev s_below_in : Stmt := topS 20
abbrev n_below_in : List Str := ["one", "other", "a", "b", "c", "d"]
abbrev p_below_in : List Str := ["one", "other"]
theorem sc_below_in : FnScope n_below_in p_below_in (defScope s_below_in) := ⟨rfl, rfl, rfl, by decide +kernel, rfl, by decide +kernel, by decide +kernel⟩
abbrev s_whole_in : Stmt := topS 21
abbrev n_whole_in : List Str := ["number", "above", "under"]
abbrev p_whole_in : List Str := ["number"]
theorem sc_whole_in : FnScope n_whole_in p_whole_in (defScope s_whole_in) := ⟨rfl, rfl, rfl, by decide +kernel, rfl, by decide +kernel, by decide +kernel⟩
abbrev s_is_number : Stmt := topS 22
abbrev n_is_number : List Str := ["value"]
abbrev p_is_number : List Str := ["value"]
theorem sc_is_number : FnScope n_is_number p_is_number (defScope s_is_number) := ⟨rfl, rfl, rfl, by decide +kernel, rfl, by decide +kernel, by decide +kernel⟩
abbrev s_kept_number : Stmt := topS 23
abbrev n_kept_number : List Str := ["value"]
abbrev p_kept_number : List Str := ["value"]
theorem sc_kept_number : FnScope n_kept_number p_kept_number (defScope s_kept_number) := ⟨rfl, rfl, rfl, by decide +kernel, rfl, by decide +kernel, by decide +kernel⟩
abbrev s_need_point : Stmt := topS 24
abbrev n_need_point : List Str := ["value", "wide", "part", "each"]
abbrev p_need_point : List Str := ["value", "wide", "part"]
theorem sc_need_point : FnScope n_need_point p_need_point (defScope s_need_point) := ⟨rfl, rfl, rfl, by decide +kernel, rfl, by decide +kernel, by decide +kernel⟩
abbrev s_is_line : Stmt := topS 39
abbrev n_is_line : List Str := ["value", "many", "each"]
abbrev p_is_line : List Str := ["value", "many"]
theorem sc_is_line : FnScope n_is_line p_is_line (defScope s_is_line) := ⟨rfl, rfl, rfl, by decide +kernel, rfl, by decide +kernel, by decide +kernel⟩
abbrev s_Program_init : Stmt := inClass (topS 40) 0
abbrev n_Program_init : List Str := ["self", "lines", "line"]
abbrev p_Program_init : List Str := ["self", "lines"]
theorem sc_Program_init : FnScope n_Program_init p_Program_init (defScope s_Program_init) := ⟨rfl, rfl, rfl, by decide +kernel, rfl, by decide +kernel, by decide +kernel⟩
abbrev s_need_program : Stmt := topS 42
abbrev n_need_program : List Str := ["value", "part"]
abbrev p_need_program : List Str := ["value", "part"]
theorem sc_need_program : FnScope n_need_program p_need_program (defScope s_need_program) := ⟨rfl, rfl, rfl, by decide +kernel, rfl, by decide +kernel, by decide +kernel⟩
abbrev s_is_contents : Stmt := topS 44
abbrev n_is_contents : List Str := ["value"]
abbrev p_is_contents : List Str := ["value"]
theorem sc_is_contents : FnScope n_is_contents p_is_contents (defScope s_is_contents) := ⟨rfl, rfl, rfl, by decide +kernel, rfl, by decide +kernel, by decide +kernel⟩
abbrev s_need_stand : Stmt := topS 45
abbrev n_need_stand : List Str := ["program", "value"]
abbrev p_need_stand : List Str := ["program", "value"]
theorem sc_need_stand : FnScope n_need_stand p_need_stand (defScope s_need_stand) := ⟨rfl, rfl, rfl, by decide +kernel, rfl, by decide +kernel, by decide +kernel⟩
abbrev s_height_in : Stmt := topS 52
abbrev n_height_in : List Str := ["contents", "under", "_"]
abbrev p_height_in : List Str := ["contents"]
theorem sc_height_in : FnScope n_height_in p_height_in (defScope s_height_in) := ⟨rfl, rfl, rfl, by decide +kernel, rfl, by decide +kernel, by decide +kernel⟩
abbrev s_point_in : Stmt := topS 53
abbrev n_point_in : List Str := ["stand"]
abbrev p_point_in : List Str := ["stand"]
theorem sc_point_in : FnScope n_point_in p_point_in (defScope s_point_in) := ⟨rfl, rfl, rfl, by decide +kernel, rfl, by decide +kernel, by decide +kernel⟩
abbrev s_parted : Stmt := topS 54
abbrev n_parted : List Str := ["point", "line"]
abbrev p_parted : List Str := ["point"]
theorem sc_parted : FnScope n_parted p_parted (defScope s_parted) := ⟨rfl, rfl, rfl, by decide +kernel, rfl, by decide +kernel, by decide +kernel⟩
abbrev s_like_contents : Stmt := topS 55
abbrev n_like_contents : List Str := ["height", "found", "under"]
abbrev p_like_contents : List Str := ["height"]
theorem sc_like_contents : FnScope n_like_contents p_like_contents (defScope s_like_contents) := ⟨rfl, rfl, rfl, by decide +kernel, rfl, by decide +kernel, by decide +kernel⟩
abbrev s_has_contents : Stmt := topS 56
abbrev n_has_contents : List Str := ["height"]
abbrev p_has_contents : List Str := ["height"]
theorem sc_has_contents : FnScope n_has_contents p_has_contents (defScope s_has_contents) := ⟨rfl, rfl, rfl, by decide +kernel, rfl, by decide +kernel, by decide +kernel⟩
abbrev s_point_of : Stmt := topS 57
abbrev n_point_of : List Str := ["program", "stand", "kept", "contents"]
abbrev p_point_of : List Str := ["program", "stand"]
theorem sc_point_of : FnScope n_point_of p_point_of (defScope s_point_of) := ⟨rfl, rfl, rfl, by decide +kernel, rfl, by decide +kernel, by decide +kernel⟩
abbrev s_stand_of : Stmt := topS 58
abbrev n_stand_of : List Str := ["program", "point", "line", "one", "other"]
abbrev p_stand_of : List Str := ["program", "point"]
theorem sc_stand_of : FnScope n_stand_of p_stand_of (defScope s_stand_of) := ⟨rfl, rfl, rfl, by decide +kernel, rfl, by decide +kernel, by decide +kernel⟩
abbrev s_law_quarry : Stmt := topS 60
abbrev n_law_quarry : List Str := ["_law_script", "_law_cell"]
abbrev p_law_quarry : List Str := ["_law_script"]
theorem sc_law_quarry : FnScope n_law_quarry p_law_quarry (defScope s_law_quarry) := ⟨rfl, rfl, rfl, by decide +kernel, rfl, by decide +kernel, by decide +kernel⟩
abbrev s_law_hew : Stmt := topS 61
abbrev n_law_hew : List Str := ["_law_quarry_here", "_law_many", "_law_left", "_law_turn", "_law_cell", "_law_mixed"]
abbrev p_law_hew : List Str := ["_law_quarry_here", "_law_many"]
theorem sc_law_hew : FnScope n_law_hew p_law_hew (defScope s_law_hew) := ⟨rfl, rfl, rfl, by decide +kernel, rfl, by decide +kernel, by decide +kernel⟩
abbrev s_law_pick : Stmt := topS 62
abbrev n_law_pick : List Str := ["_law_quarry_here", "_law_some"]
abbrev p_law_pick : List Str := ["_law_quarry_here", "_law_some"]
theorem sc_law_pick : FnScope n_law_pick p_law_pick (defScope s_law_pick) := ⟨rfl, rfl, rfl, by decide +kernel, rfl, by decide +kernel, by decide +kernel⟩
abbrev s_law_pair : Stmt := topS 63
abbrev n_law_pair : List Str := ["_law_number"]
abbrev p_law_pair : List Str := ["_law_number"]
theorem sc_law_pair : FnScope n_law_pair p_law_pair (defScope s_law_pair) := ⟨rfl, rfl, rfl, by decide +kernel, rfl, by decide +kernel, by decide +kernel⟩
abbrev s_law_form : Stmt := topS 64
abbrev n_law_form : List Str := ["_law_above", "_law_under", "_law_one", "_law_other"]
abbrev p_law_form : List Str := ["_law_above", "_law_under"]
theorem sc_law_form : FnScope n_law_form p_law_form (defScope s_law_form) := ⟨rfl, rfl, rfl, by decide +kernel, rfl, by decide +kernel, by decide +kernel⟩
abbrev s_law_add : Stmt := topS 65
abbrev n_law_add : List Str := ["_law_one", "_law_other", "_law_a", "_law_b", "_law_c", "_law_d"]
abbrev p_law_add : List Str := ["_law_one", "_law_other"]
theorem sc_law_add : FnScope n_law_add p_law_add (defScope s_law_add) := ⟨rfl, rfl, rfl, by decide +kernel, rfl, by decide +kernel, by decide +kernel⟩
abbrev s_law_mul : Stmt := topS 66
abbrev n_law_mul : List Str := ["_law_one", "_law_other", "_law_a", "_law_b", "_law_c", "_law_d"]
abbrev p_law_mul : List Str := ["_law_one", "_law_other"]
theorem sc_law_mul : FnScope n_law_mul p_law_mul (defScope s_law_mul) := ⟨rfl, rfl, rfl, by decide +kernel, rfl, by decide +kernel, by decide +kernel⟩
abbrev s_law_less : Stmt := topS 67
abbrev n_law_less : List Str := ["_law_one", "_law_other", "_law_a", "_law_b", "_law_c", "_law_d"]
abbrev p_law_less : List Str := ["_law_one", "_law_other"]
theorem sc_law_less : FnScope n_law_less p_law_less (defScope s_law_less) := ⟨rfl, rfl, rfl, by decide +kernel, rfl, by decide +kernel, by decide +kernel⟩
abbrev s_law_line : Stmt := topS 68
abbrev n_law_line : List Str := ["_law_quarry_here", "_law_many", "_law_word", "_law_box"]
abbrev p_law_line : List Str := ["_law_quarry_here", "_law_many"]
theorem sc_law_line : FnScope n_law_line p_law_line (defScope s_law_line) := ⟨rfl, rfl, rfl, by decide +kernel, rfl, by decide +kernel, by decide +kernel⟩
abbrev s_law_lines : Stmt := topS 69
abbrev n_law_lines : List Str := ["_law_quarry_here", "_law_most", "_law_many", "_law_at"]
abbrev p_law_lines : List Str := ["_law_quarry_here", "_law_most"]
theorem sc_law_lines : FnScope n_law_lines p_law_lines (defScope s_law_lines) := ⟨rfl, rfl, rfl, by decide +kernel, rfl, by decide +kernel, by decide +kernel⟩
abbrev s_law_contents : Stmt := topS 70
abbrev n_law_contents : List Str := ["_law_quarry_here"]
abbrev p_law_contents : List Str := ["_law_quarry_here"]
theorem sc_law_contents : FnScope n_law_contents p_law_contents (defScope s_law_contents) := ⟨rfl, rfl, rfl, by decide +kernel, rfl, by decide +kernel, by decide +kernel⟩
abbrev s_law_height : Stmt := topS 72
abbrev n_law_height : List Str := ["_law_contents_here", "_law_under", "_law_turn"]
abbrev p_law_height : List Str := ["_law_contents_here"]
theorem sc_law_height : FnScope n_law_height p_law_height (defScope s_law_height) := ⟨rfl, rfl, rfl, by decide +kernel, rfl, by decide +kernel, by decide +kernel⟩
abbrev s_law_point : Stmt := topS 73
abbrev n_law_point : List Str := ["_law_stand_here"]
abbrev p_law_point : List Str := ["_law_stand_here"]
theorem sc_law_point : FnScope n_law_point p_law_point (defScope s_law_point) := ⟨rfl, rfl, rfl, by decide +kernel, rfl, by decide +kernel, by decide +kernel⟩
abbrev s_law_far_stand : Stmt := topS 74
abbrev n_law_far_stand : List Str := ["_law_quarry_here", "_law_lines_here", "_law_some"]
abbrev p_law_far_stand : List Str := ["_law_quarry_here", "_law_lines_here"]
theorem sc_law_far_stand : FnScope n_law_far_stand p_law_far_stand (defScope s_law_far_stand) := ⟨rfl, rfl, rfl, by decide +kernel, rfl, by decide +kernel, by decide +kernel⟩
abbrev s_law_no_height : Stmt := topS 75
abbrev n_law_no_height : List Str := ["_law_quarry_here", "_law_under", "_law_turn", "_law_some"]
abbrev p_law_no_height : List Str := ["_law_quarry_here"]
theorem sc_law_no_height : FnScope n_law_no_height p_law_no_height (defScope s_law_no_height) := ⟨rfl, rfl, rfl, by decide +kernel, rfl, by decide +kernel, by decide +kernel⟩
abbrev s_law_heard : Stmt := topS 76
abbrev n_law_heard : List Str := ["_law_ask", "_law_caught", "error"]
abbrev p_law_heard : List Str := ["_law_ask"]
theorem sc_law_heard : FnScope n_law_heard p_law_heard (defScope s_law_heard) := ⟨rfl, rfl, rfl, by decide +kernel, rfl, by decide +kernel, by decide +kernel⟩
abbrev s_law_others_right : Stmt := topS 77
abbrev n_law_others_right : List Str := ["_law_quarry_here", "_law_lines_here", "_law_stand_here", "_law_program", "_law_point_here", "_law_none", "_law_others", "_law_other"]
abbrev p_law_others_right : List Str := ["_law_quarry_here", "_law_lines_here", "_law_stand_here"]
theorem sc_law_others_right : FnScope n_law_others_right p_law_others_right (defScope s_law_others_right) := ⟨rfl, rfl, rfl, by decide +kernel, rfl, by decide +kernel, by decide +kernel⟩
abbrev s_law_refused_right : Stmt := topS 78
abbrev n_law_refused_right : List Str := ["_law_quarry_here", "_law_lines_here", "_law_stand_here", "_law_program", "_law_many", "_law_odd", "_law_no", "_law_none", "_law_long", "_law_heard_here"]
abbrev p_law_refused_right : List Str := ["_law_quarry_here", "_law_lines_here", "_law_stand_here"]
theorem sc_law_refused_right : FnScope n_law_refused_right p_law_refused_right (defScope s_law_refused_right) := ⟨rfl, rfl, rfl, by decide +kernel, rfl, by decide +kernel, by decide +kernel⟩
abbrev s_law : Stmt := topS 79
abbrev n_law : List Str := ["_law_script", "_law_quarry_here", "_law_turn", "_law_lines_here", "_law_points", "_law_program", "_law_lap", "_law_stand_here", "_law_due", "_law_far"]
abbrev p_law : List Str := ["_law_script"]
theorem sc_law : FnScope n_law p_law (defScope s_law) := ⟨rfl, rfl, rfl, by decide +kernel, rfl, by decide +kernel, by decide +kernel⟩
/-! ### a def of the module, as it stands behind the top; a def that keeps a promise -/
structure Df (K : PySem.W.Frag) (mg : Str → Option Value) (x : Str) (st : Stmt) (ps : List Str) : Prop where
  ex : ∃ (f : Addr) (fd : FuncData), Fun K x x st f fd ∧ mg x = some (.ref f) ∧ Binds K fd ps []
/-- the def that the module calls x keeps the promise sp -/
def Has (P : Program) (w : World) (K : PySem.W.Frag) (mg : Str → Option Value) (base : Heap) (CX : CXT) (k : Nat) (x : Str) (ps : List Str) (sp : Sp) : Prop :=
  ∃ (f : Addr) (fd : FuncData), mg x = some (.ref f) ∧ PySem.W.keepIn K (.ref f) = true ∧ Binds K fd ps [] ∧ FnOk P w K mg base CX k f fd ps sp
section
variable {P : Program} {w : World} {K : PySem.W.Frag} {mg : Str → Option Value} {base : Heap}
theorem Df.ok {x : Str} {st : Stmt} {N ps : List Str} {k : Nat} {sp : Sp} (D : Df K mg x st ps) (S : FnScope N ps (defScope st)) (len : ∀ vs H Q E, sp vs H Q E → vs.length = ps.length)
    (hbody : ∀ (f : Addr) (cdv : Value) (A : Around) (outer : List Env) (s : Shared) (H : Hp) (vs : List V) (Q : VK) (E : XK), Room k (A.deeper (envOfC x (defScope st) s.heap.objs.size f cdv)) → sp vs H Q E →
      ∃ t, PSs (cxOf CX0 P w K mg base N x (defScope st) f cdv A outer s H E).nox (defBody st) t ∧ t { nx := fun _ H' => Q .non H', rt := Q } (start N vs) H) : Has P w K mg base CX0 (k + 1) x ps sp := by
  obtain ⟨f, fd, F, g, b⟩ := D.ex
  exact ⟨f, fd, g, F.kp, b, F.ok S len (hbody f)⟩
theorem Df.okX {x : Str} {st : Stmt} {N ps : List Str} {k : Nat} {sp : Sp} (D : Df K mg x st ps) (S : FnScope N ps (defScope st)) (len : ∀ vs H Q E, sp vs H Q E → vs.length = ps.length)
    (hbody : ∀ (f : Addr) (cdv : Value) (A : Around) (outer : List Env) (s : Shared) (H : Hp) (vs : List V) (Q : VK) (E : XK), Room k (A.deeper (envOfC x (defScope st) s.heap.objs.size f cdv)) → sp vs H Q E →
      ∃ t, PSs (cxOf (L2.CX P w) P w K mg base N x (defScope st) f cdv A outer s H E) (defBody st) t ∧ t { nx := fun _ H' => Q .non H', rt := Q } (start N vs) H) : Has P w K mg base (L2.CX P w) (k + 1) x ps sp := by
  obtain ⟨f, fd, F, g, b⟩ := D.ex
  exact ⟨f, fd, g, F.kp, b, F.okX S len (hbody f)⟩
end
section
variable {X : Cx} {CX : CXT} {k : Nat} {ps : List Str} {sp : Sp} {E : XK} {x : Str} {p pos : Pos} {e : Expr} {es : List Expr} {t : TA}
/-- x(e, ..) -/
theorem pe_h (h : Has X.prog X.w X.K X.mg X.base CX k x ps sp) (hr : Room k X.A) (hx : Passes CX X E) (ha : PA X (e :: es) t) (hg : Gl X x := by rfl)
    (hdb : (x == ("__debug__" : Str)) = false := by decide) (he : starEach (e :: es) X.env = (false, eval e X.env) :: starEach es X.env := by rfl) (hpl : (backTo pos (starEach es X.env)).any (·.1) = false := by rfl) :
    PE X (.Call (.Name x p) (e :: es) [] pos) (tCall sp [] E t) := by
  obtain ⟨f, fd, g, kp, b, F⟩ := h
  exact pe_call F hr hg g kp b .nil hx ha hdb he hpl
/-- the same in a def that lets out what it raises -/
theorem pe_hS {E : L2.St → XK} (h : Has X.prog X.w X.K X.mg X.base CX k x ps sp) (hr : Room k X.A) (hx : ∀ σ, PassesAt CX X σ (E σ)) (ha : PA X (e :: es) t) (hg : Gl X x := by rfl)
    (hdb : (x == ("__debug__" : Str)) = false := by decide) (he : starEach (e :: es) X.env = (false, eval e X.env) :: starEach es X.env := by rfl) (hpl : (backTo pos (starEach es X.env)).any (·.1) = false := by rfl) :
    PE X (.Call (.Name x p) (e :: es) [] pos) (tCallS sp E t) := by
  obtain ⟨f, fd, g, kp, b, F⟩ := h
  exact pe_callS F hr hg g kp b hx ha hdb he hpl
end
/-! ### names that are still built-in -/
structure Bz (mg : Str → Option Value) : Prop where
  len : mg "len" = none
  isi : mg "isinstance" = none
  int : mg "int" = none
  bool : mg "bool" = none
  list : mg "list" = none
  tuple : mg "tuple" = none
  str : mg "str" = none
  abs : mg "abs" = none
  range : mg "range" = none
  all : mg "all" = none
  any : mg "any" = none
  repr : mg "repr" = none
  sup : mg "super" = none
/-! ### numbers as values -/
/-- v is the number q -/
def NumV (K : PySem.W.Frag) (H : Hp) (v : V) (q : Q2) : Prop := (q.2 = 1 ∧ v = .int q.1) ∨ (q.2 ≠ 1 ∧ ∃ p, v = .ref p ∧ SqT K H p [.int q.1, .int q.2])
theorem sqT_same {K : PySem.W.Frag} {H H' : Hp} {a : Addr} {xs : List V} (e : Same H H') (h : SqT K H a xs) : SqT K H' a xs := by
  rcases h with (h | ⟨o, h⟩) | h
  · exact .inl (.inl (e _ _ h))
  · exact .inl (.inr ⟨o, e _ _ h⟩)
  · exact .inr h
theorem NumV.same {K : PySem.W.Frag} {H H' : Hp} {v : V} {q : Q2} (h : NumV K H v q) (e : Same H H') : NumV K H' v q := by
  rcases h with h | ⟨h, p, hv, hs⟩
  · exact .inl h
  · exact .inr ⟨h, p, hv, sqT_same e hs⟩
theorem NumV.int {K : PySem.W.Frag} {H : Hp} (a : Int) : NumV K H (.int a) (a, 1) := .inl ⟨rfl, rfl⟩
theorem same_upd {H : Hp} {p : Addr} {o : HO} (h : H p = none) : Same H (upd H p o) := fun b x e => by
  rw [upd_ne (ne_of_none e h)]
  exact e
end TF


set_option Elab.async false
set_option linter.all false
set_option maxRecDepth 100000
set_option maxHeartbeats 4000000
namespace TF
open PySem PySem.Spec PyProof.Rows L2
/-! ### kinds of values -/
inductive VTy (K : PySem.W.Frag) (H : Hp) : V → String → Prop where
  | non : VTy K H .non "NoneType"
  | bl (b : Bool) : VTy K H (.bl b) "bool"
  | int (i : Int) : VTy K H (.int i) "int"
  | str (x : Str) : VTy K H (.str x) "str"
  | lst {a : Addr} {xs : List V} (h : SqL K H a xs) : VTy K H (.ref a) "list"
  | tup {a : Addr} {xs : List V} (h : SqT K H a xs) : VTy K H (.ref a) "tuple"
  | dK {a : Addr} {kvs : List (Key × V)} (h : H a = some (.dK kvs)) : VTy K H (.ref a) "dict"
theorem VTy.tyx {K : PySem.W.Frag} {H : Hp} {v : V} {n : String} (h : VTy K H v n) : TyX K H v (.type n) := by
  cases h with
  | non => exact .base .non
  | bl b => exact .base (.bl b)
  | int i => exact .base (.int i)
  | str x => exact .base (.str x)
  | lst h =>
    rcases h with (h | ⟨o, h⟩) | ⟨o, its, n, hk, hc, _⟩
    · exact .base (.lst h)
    · exact .base (.frz h)
    · exact .kList hk hc
  | tup h =>
    rcases h with (h | ⟨o, h⟩) | ⟨o, its, n, hk, hc, _⟩
    · exact .base (.tup h)
    · exact .fTuple h
    · exact .kTuple hk hc
  | dK h => exact .base (.dK h)
theorem VTy.same {K : PySem.W.Frag} {H H' : Hp} {v : V} {n : String} (h : VTy K H v n) (e : Same H H') : VTy K H' v n := by
  cases h with
  | non => exact .non
  | bl b => exact .bl b
  | int i => exact .int i
  | str x => exact .str x
  | lst h => exact .lst (e.seq h)
  | tup h => exact .tup (sqT_same e h)
  | dK h => exact .dK (e _ _ h)
theorem VTy.num {K : PySem.W.Frag} {H : Hp} {v : V} {q : Q2} (h : NumV K H v q) : ∃ n, VTy K H v n ∧ ((q.2 = 1 ∧ n = "int") ∨ (q.2 ≠ 1 ∧ n = "tuple")) := by
  rcases h with ⟨h, rfl⟩ | ⟨h, p, rfl, hs⟩
  · exact ⟨_, .int _, .inl ⟨h, rfl⟩⟩
  · exact ⟨_, .tup hs, .inr ⟨h, rfl⟩⟩
section
variable {P : Program} {w : World} {K : PySem.W.Frag} {mg : Str → Option Value} {base : Heap}
/-! ### is_integer, is_list, is_within -/
def spIsInt (K : PySem.W.Frag) : Sp := fun vs H Q _ => ∃ (v : V) (n : String), vs = [v] ∧ VTy K H v n ∧ Q (.bl (n == "int")) H
theorem ok_is_integer (B : Bz mg) (D : Df K mg "is_integer" s_is_integer p_is_integer) : Has P w K mg base CX0 1 "is_integer" p_is_integer (spIsInt K) := by
  refine D.ok sc_is_integer (fun vs H Q E h => ?_) (fun f cdv A outer s H vs Q E hr h => ?_)
  · obtain ⟨v, n, rfl, _⟩ := h
    rfl
  · obtain ⟨v, n, rfl, ty, q⟩ := h
    have tx := ty.tyx
    refine ⟨_, pss_one (ps_ret (pe_and (pe_callB call_isi (by rfl) B.isi (by decide +kernel) (pa_cons (pv 0) (pa_cons (pe_bltn (v := .ty "int") (by rfl) B.int (by decide +kernel) rfl) pa_nil)))
      (pe_one (pe_not (pe_callB call_isi (by rfl) B.isi (by decide +kernel) (pa_cons (pv 0) (pa_cons (pe_bltn (v := .ty "bool") (by rfl) B.bool (by decide +kernel) rfl) pa_nil))))))), ?_⟩
    cases ty with
    | non => exact ⟨_, rfl, _, _, _, _, false, rfl, .ty "int", tx, kit_ty (by decide +kernel), _, rfl, iteF q⟩
    | str x => exact ⟨_, rfl, _, _, _, _, false, rfl, .ty "int", tx, kit_ty (by decide +kernel), _, rfl, iteF q⟩
    | lst h => exact ⟨_, rfl, _, _, _, _, false, rfl, .ty "int", tx, kit_ty (by decide +kernel), _, rfl, iteF q⟩
    | tup h => exact ⟨_, rfl, _, _, _, _, false, rfl, .ty "int", tx, kit_ty (by decide +kernel), _, rfl, iteF q⟩
    | dK h => exact ⟨_, rfl, _, _, _, _, false, rfl, .ty "int", tx, kit_ty (by decide +kernel), _, rfl, iteF q⟩
    | bl b => exact ⟨_, rfl, _, _, _, _, true, rfl, .ty "int", tx, kit_ty (by decide +kernel), _, rfl, iteT ⟨_, rfl, _, _, _, _, true, rfl, .ty "bool", tx, kit_ty (by decide +kernel), _, rfl, q⟩⟩
    | int i => exact ⟨_, rfl, _, _, _, _, true, rfl, .ty "int", tx, kit_ty (by decide +kernel), _, rfl, iteT ⟨_, rfl, _, _, _, _, false, rfl, .ty "bool", tx, kit_ty (by decide +kernel), _, rfl, q⟩⟩
def spIsList (K : PySem.W.Frag) : Sp := fun vs H Q _ => ∃ (v : V) (n : String), vs = [v] ∧ VTy K H v n ∧ ∀ H', Same H H' → Q (.bl (n == "list" || n == "tuple")) H'
theorem kit_lt {K : PySem.W.Frag} {n : String} {b c : Bool} (h1 : kitB n "list" = some b) (h2 : kitB n "tuple" = some c) : PySem.W.kitAny K (.type n) [.type "list", .type "tuple"] = some (b || c) := by
  refine kitAny_cons (kit_ty h1) (fun e => ?_) (fun e => by rw [e]; rfl)
  subst e
  exact kitAny_cons (kit_ty h2) (fun e => by subst e; exact kitAny_nil) (fun e => by rw [e]; rfl)
theorem ok_is_list (B : Bz mg) (D : Df K mg "is_list" s_is_list p_is_list) : Has P w K mg base CX0 1 "is_list" p_is_list (spIsList K) := by
  refine D.ok sc_is_list (fun vs H Q E h => ?_) (fun f cdv A outer s H vs Q E hr h => ?_)
  · obtain ⟨v, n, rfl, _⟩ := h
    rfl
  · obtain ⟨v, n, rfl, ty, q⟩ := h
    refine ⟨_, pss_one (ps_ret (pe_callB call_isiT (by rfl) B.isi (by decide +kernel) (pa_cons (pv 0) (pa_cons (pe_tup (pa_cons (pe_bltn (v := .ty "list") (by rfl) B.list (by decide +kernel) rfl) (pa_cons (pe_bltn (v := .ty "tuple") (by rfl) B.tuple (by decide +kernel) rfl) pa_nil))) pa_nil)))), ?_⟩
    refine ⟨_, rfl, (by show 2 ≤ sizeLine; decide), fun p np => ?_⟩
    have sm : Same H (upd H p (.tup [.ty "list", .ty "tuple"])) := same_upd np
    have tx := (ty.same sm).tyx
    have fin : ∀ c : Bool, PySem.W.kitAny K (.type n) [.type "list", .type "tuple"] = some c → c = (n == "list" || n == "tuple") → _ := fun c e1 e2 =>
      (show rIsiT K [v, .ref p] (upd H p (.tup [.ty "list", .ty "tuple"])) Q from ⟨v, p, _, _, [.type "list", .type "tuple"], c, rfl, upd_same, .cons (.ty _) (.cons (.ty _) .nil), tx, e1, by rw [e2]; exact q _ sm⟩)
    cases ty with
    | non => exact fin false (kit_lt (b := false) (c := false) (by decide +kernel) (by decide +kernel)) rfl
    | str x => exact fin false (kit_lt (b := false) (c := false) (by decide +kernel) (by decide +kernel)) rfl
    | lst h => exact fin true (kit_lt (b := true) (c := false) (by decide +kernel) (by decide +kernel)) rfl
    | tup h => exact fin true (kit_lt (b := false) (c := true) (by decide +kernel) (by decide +kernel)) rfl
    | dK h => exact fin false (kit_lt (b := false) (c := false) (by decide +kernel) (by decide +kernel)) rfl
    | bl b => exact fin false (kit_lt (b := false) (c := false) (by decide +kernel) (by decide +kernel)) rfl
    | int i => exact fin false (kit_lt (b := false) (c := false) (by decide +kernel) (by decide +kernel)) rfl
def optV : Option Int → V
  | none => .non
  | some i => .int i
/-- an integer from lo to hi -/
def within (v : V) (lo hi : Option Int) : Bool := match v with
  | .int i => (match lo with | none => true | some l => decide (l ≤ i)) && (match hi with | none => true | some h => decide (i ≤ h))
  | _ => false
def spIsWithin (K : PySem.W.Frag) : Sp := fun vs H Q _ => ∃ (v : V) (n : String) (lo hi : Option Int), vs = [v, optV lo, optV hi] ∧ VTy K H v n ∧ Q (.bl (within v lo hi)) H
theorem ok_is_within (B : Bz mg) (D : Df K mg "is_within" s_is_within p_is_within) (h1 : Has P w K mg base CX0 1 "is_integer" p_is_integer (spIsInt K)) : Has P w K mg base CX0 2 "is_within" p_is_within (spIsWithin K) := by
  refine D.ok sc_is_within (fun vs H Q E h => ?_) (fun f cdv A outer s H vs Q E hr h => ?_)
  · obtain ⟨v, n, lo, hi, rfl, _⟩ := h
    rfl
  · obtain ⟨v, n, lo, hi, rfl, ty, q⟩ := h
    refine ⟨_, pss_cons (ps_if (pt_not (pt_val (pe_h h1 hr pass0 (pa_cons (pv 0) pa_nil)))) (pss_one (ps_ret pe_bl)) pss_nil)
      (pss_one (ps_ret (pe_and (pe_or (pe_cmpR op_isN (pv 1) pe_non (nomark _)) (pe_one (pe_cmpR op_le (pv 1) (pv 0) (nomark _))))
        (pe_one (pe_or (pe_cmpR op_isN (pv 2) pe_non (nomark _)) (pe_one (pe_cmpR op_le (pv 0) (pv 2) (nomark _)))))))), ?_⟩
    cases ty with
    | int i =>
      refine ⟨_, rfl, _, _, rfl, .int i, _, rfl, iteF ?_⟩
      cases lo with
      | none =>
        refine ⟨_, rfl, rfl, _, rfl, iteT ?_⟩
        cases hi with
        | none => exact ⟨_, rfl, iteT ⟨_, rfl, rfl, _, rfl, iteT q⟩⟩
        | some h => exact ⟨_, rfl, iteT ⟨_, rfl, rfl, _, rfl, iteF ⟨_, rfl, _, rfl, _, _, rfl, rfl, q⟩⟩⟩
      | some l =>
        refine ⟨_, rfl, rfl, _, rfl, iteF ⟨_, rfl, _, rfl, _, _, rfl, rfl, ?_⟩⟩
        by_cases hl : l ≤ i
        · have e : decide (l ≤ i) = true := decide_eq_true hl
          refine ⟨_, rfl, ?_⟩
          rw [e]
          cases hi with
          | none =>
            refine iteT ⟨_, rfl, rfl, _, rfl, iteT ?_⟩
            have e3 : within (.int i) (some l) none = true := by show (decide (l ≤ i) && true) = true; rw [e]; rfl
            rw [e3] at q
            exact q
          | some h =>
            refine iteT ⟨_, rfl, rfl, _, rfl, iteF ⟨_, rfl, _, rfl, _, _, rfl, rfl, ?_⟩⟩
            have e3 : within (.int i) (some l) (some h) = decide (i ≤ h) := by show (decide (l ≤ i) && decide (i ≤ h)) = _; rw [e]; rfl
            rw [e3] at q
            exact q
        · have e : decide (l ≤ i) = false := decide_eq_false hl
          refine ⟨_, rfl, ?_⟩
          rw [e]
          refine iteF ?_
          have e3 : within (.int i) (some l) hi = false := by show (decide (l ≤ i) && _) = false; rw [e]; rfl
          rw [e3] at q
          exact q
    | non => exact ⟨_, rfl, _, _, rfl, .non, _, rfl, iteT q⟩
    | str x => exact ⟨_, rfl, _, _, rfl, .str x, _, rfl, iteT q⟩
    | lst h => exact ⟨_, rfl, _, _, rfl, .lst h, _, rfl, iteT q⟩
    | tup h => exact ⟨_, rfl, _, _, rfl, .tup h, _, rfl, iteT q⟩
    | dK h => exact ⟨_, rfl, _, _, rfl, .dK h, _, rfl, iteT q⟩
    | bl b => exact ⟨_, rfl, _, _, rfl, .bl b, _, rfl, iteT q⟩
end
end TF


set_option Elab.async false
set_option linter.all false
set_option maxRecDepth 100000
set_option maxHeartbeats 4000000
namespace TF
open PySem PySem.Spec PyProof.Rows L2
/-! ### sizes -/
def Sz (n : Nat) (z : Int) : Prop := z.natAbs < 2 ^ n
theorem Sz.mono {n m : Nat} {z : Int} (h : Sz n z) (l : n ≤ m) : Sz m z := Nat.lt_of_lt_of_le h (Nat.pow_le_pow_right (by decide) l)
theorem Sz.mul {n m : Nat} {z y : Int} (h : Sz n z) (k : Sz m y) : Sz (n + m) (z * y) := wide_lt h k
theorem Sz.add {n : Nat} {z y : Int} (h : Sz n z) (k : Sz n y) : Sz (n + 1) (z + y) := by
  unfold Sz at *
  rw [Nat.pow_succ]; omega
theorem Sz.neg {n : Nat} {z : Int} (h : Sz n z) : Sz n (-z) := by
  unfold Sz at *; omega
theorem Sz.div {n : Nat} {z y : Int} (h : Sz n z) : Sz n (z / y) := by
  unfold Sz at *
  exact Nat.lt_of_le_of_lt (Int.natAbs_ediv_le_natAbs z y) h
theorem Sz.of_le {n : Nat} {z y : Int} (h : Sz n y) (l : z.natAbs ≤ y.natAbs) : Sz n z := Nat.lt_of_le_of_lt l h
theorem Sz.cmul {n m : Nat} {z y : Int} (h : Sz n z) (k : Sz m y) (h0 : 0 < n := by decide) (h1 : 0 < m := by decide) (l : n + m ≤ 1000000 := by decide) : CMulW z y := wide_mul h k h0 h1 l
theorem Sz.cdiv {n : Nat} {z y : Int} (k : Sz n y) (hp : 0 < y) (h0 : 0 < n := by decide) (l : n ≤ 9000 := by decide) : CDivW z y := wide_div hp k h0 l
theorem gcd_le {a b : Int} (hb : 0 < b) : (Int.gcd a b : Int) ≤ b := Int.le_of_dvd hb (Int.gcd_dvd_right ..)
section
variable {P : Program} {w : World} {K : PySem.W.Frag} {mg : Str → Option Value} {base : Heap}
/-! ### common: Euclid's -/
def spCommon : Sp := fun vs H Q _ => ∃ (a b : Int), vs = [.int a, .int b] ∧ Q (.int (Int.gcd a b)) H
theorem ifabs (a : Int) : (if a < 0 then -a else a) = (a.natAbs : Int) := by
  split <;> omega
theorem gcd_step {x y : Int} (hx : 0 ≤ x) (hy : 0 < y) : Int.gcd y (x.fmod y) = Int.gcd x y := by
  rw [Int.fmod_eq_emod_of_nonneg _ (by omega)]
  obtain ⟨m, rfl⟩ := Int.eq_ofNat_of_zero_le hx
  obtain ⟨n, rfl⟩ := Int.eq_ofNat_of_zero_le (show 0 ≤ y by omega)
  show Nat.gcd n (m % n) = Nat.gcd m n
  rw [Nat.gcd_comm n, ← Nat.gcd_rec, Nat.gcd_comm]
theorem ok_common (B : Bz mg) (D : Df K mg "common" s_common p_common) : Has P w K mg base CX0 1 "common" p_common spCommon := by
  refine D.ok sc_common (fun vs H Q E h => ?_) (fun f cdv A outer s H vs Q E hr h => ?_)
  · obtain ⟨a, b, rfl, _⟩ := h
    rfl
  · obtain ⟨a, b, rfl, q⟩ := h
    refine ⟨_, pss_cons (ps_par (i := 0) (j := 1) (by rfl) sc_common.nd rfl rfl (by decide) rfl rfl (pa_cons (pe_callB call_abs (by rfl) B.abs (by decide +kernel) (pa_cons (pv 0) pa_nil)) (pa_cons (pe_callB call_abs (by rfl) B.abs (by decide +kernel) (pa_cons (pv 1) pa_nil)) pa_nil)) (by rfl))
      (pss_cons (ps_while PassesOwn.never (pt_cmpR op_gt (pv 1) pe_int (nomark _)) (pss_one (ps_par (i := 0) (j := 1) (by rfl) sc_common.nd rfl rfl (by decide) rfl rfl (pa_cons (pv 1) (pa_cons (pe_op op_modN (pv 0) (pv 1)) pa_nil)) (by rfl))))
      (pss_one (ps_ret (pv 0)))), ?_⟩
    refine ⟨_, rfl, _, rfl, _, rfl, _, rfl, _, _, rfl, ?_⟩
    refine while_by (fun σ H' => ∃ x y : Int, σ = [some (.int x), some (.int y)] ∧ 0 ≤ x ∧ 0 ≤ y ∧ Int.gcd x y = Int.gcd a b ∧ H' = H) (fun σ _ => match σ with | [_, some (.int y)] => y.toNat | _ => 0) ?_ ?_ ?_
    · rw [ifabs, ifabs]
      exact ⟨a.natAbs, b.natAbs, rfl, by omega, by omega, by simp [Int.gcd], rfl⟩
    · rintro σ H' ⟨x, y, rfl, hx, hy, hg, rfl⟩
      refine ⟨_, rfl, _, _, rfl, rfl, _, rfl, ite2 (fun e => ?_) (fun e => ?_)⟩
      · have e : 0 < y := of_decide_eq_true e
        refine ⟨_, rfl, _, rfl, _, rfl, _, _, rfl, rfl, by omega, _, _, rfl, ⟨y, x.fmod y, rfl, by omega, ?_, ?_, rfl⟩, ?_⟩
        · rw [Int.fmod_eq_emod_of_nonneg _ (by omega)]; exact Int.emod_nonneg _ (by omega)
        · rw [gcd_step hx e]; exact hg
        · show (x.fmod y).toNat < y.toNat
          rw [Int.fmod_eq_emod_of_nonneg _ (by omega)]
          have := Int.emod_lt_of_pos x e
          have := Int.emod_nonneg x (show y ≠ 0 by omega)
          omega
      · have e : ¬ 0 < y := fun z => e (decide_eq_true z)
        have e0 : y = 0 := by omega
        subst e0
        refine ⟨_, rfl, ?_⟩
        have ex : x = (Int.gcd a b : Int) := by
          rw [← hg]; simp [Int.gcd]; omega
        rw [ex]
        exact q
    · exact fun σ H Q Q' hq ⟨v, e1, i, j, e2, e3, k, e4, q⟩ => ⟨v, e1, i, j, e2, e3, k, e4, hq _ _ q⟩
/-! ### lowest_in -/
def spLow (K : PySem.W.Frag) : Sp := fun vs H Q _ => ∃ (a b : Int), vs = [.int a, .int b] ∧ 0 < b ∧ Sz 9000 b ∧ ∀ v H', Same H H' → NumV K H' v (red a b) → Q v H'
theorem ok_lowest_in (D : Df K mg "lowest_in" s_lowest_in p_lowest_in) (h1 : Has P w K mg base CX0 1 "common" p_common spCommon) : Has P w K mg base CX0 2 "lowest_in" p_lowest_in (spLow K) := by
  refine D.ok sc_lowest_in (fun vs H Q E h => ?_) (fun f cdv A outer s H vs Q E hr h => ?_)
  · obtain ⟨a, b, rfl, _⟩ := h
    rfl
  · obtain ⟨a, b, rfl, hb, hz, q⟩ := h
    have hg := gcd_pos (a := a) hb
    have hgz : Sz 9000 (Int.gcd a b : Int) := hz.of_le (by have := gcd_le (a := a) hb; omega)
    refine ⟨_, pss_cons (ps_set (i := 2) sc_lowest_in.nd rfl (Or.inl rfl) (pe_ifExp (pt_cmpR op_gt (pv 1) pe_int (nomark _)) (pe_h h1 hr pass0 (pa_cons (pv 0) (pa_cons (pv 1) pa_nil))) (pe_un un_neg (pe_h h1 hr pass0 (pa_cons (pv 0) (pa_cons (pv 1) pa_nil))))))
      (pss_one (ps_ret (pe_ifExp (pt_cmpR op_eq (pe_op op_fdivW (pv 1) (pv 2)) pe_int (nomark _)) (pe_op op_fdivW (pv 0) (pv 2)) (pe_tup (pa_cons (pe_op op_fdivW (pv 0) (pv 2)) (pa_cons (pe_op op_fdivW (pv 1) (pv 2)) pa_nil)))))), ?_⟩
    refine ⟨_, rfl, _, _, rfl, rfl, _, rfl, ite2 (fun _ => ?_) (fun z => absurd (decide_eq_true hb) z)⟩
    refine ⟨_, rfl, _, rfl, a, b, rfl, ?_⟩
    refine ⟨_, rfl, _, rfl, _, _, rfl, rfl, hgz.cdiv hg, rfl, _, rfl, ite2 (fun e => ?_) (fun e => ?_)⟩
    · have e : b / (Int.gcd a b : Int) = 1 := V.int.inj (of_decide_eq_true e)
      refine ⟨_, rfl, _, rfl, _, _, rfl, rfl, hgz.cdiv hg, ?_⟩
      exact q _ _ (Same.refl _) (.inl ⟨e, rfl⟩)
    · have e : ¬ b / (Int.gcd a b : Int) = 1 := fun z => e (decide_eq_true (congrArg V.int z))
      refine ⟨_, rfl, _, rfl, _, _, rfl, rfl, hgz.cdiv hg, _, rfl, _, rfl, _, _, rfl, rfl, hgz.cdiv hg, (by show 2 ≤ sizeLine; decide), fun p np => ?_⟩
      exact q _ _ (same_upd np) (.inr ⟨e, p, rfl, SqT.of upd_same⟩)
/-! ### halves -/
def spHalves (K : PySem.W.Frag) : Sp := fun vs H Q _ => ∃ (v : V) (a b : Int), vs = [v] ∧ NumV K H v (a, b) ∧ ∀ p H', Same H H' → H' p = some (.tup [.int a, .int b]) → Q (.ref p) H'
theorem ok_halves (D : Df K mg "halves" s_halves p_halves) (h1 : Has P w K mg base CX0 1 "is_integer" p_is_integer (spIsInt K)) : Has P w K mg base CX0 2 "halves" p_halves (spHalves K) := by
  refine D.ok sc_halves (fun vs H Q E h => ?_) (fun f cdv A outer s H vs Q E hr h => ?_)
  · obtain ⟨v, a, b, rfl, _⟩ := h
    rfl
  · obtain ⟨v, a, b, rfl, hn, q⟩ := h
    refine ⟨_, pss_one (ps_ret (pe_ifExp (pt_val (pe_h h1 hr pass0 (pa_cons (pv 0) pa_nil))) (pe_tup (pa_cons (pv 0) (pa_cons pe_int pa_nil))) (pe_tup (pa_cons (pe_ix ix_tup (pv 0) pe_int (fun _ _ => rfl)) (pa_cons (pe_ix ix_tup (pv 0) pe_int (fun _ _ => rfl)) pa_nil))))), ?_⟩
    rcases hn with ⟨e, rfl⟩ | ⟨e, p, rfl, hs⟩
    · have e : b = 1 := e
      subst e
      exact ⟨_, rfl, _, _, rfl, .int _, _, rfl, iteT ⟨_, rfl, (by show 2 ≤ sizeLine; decide), fun p np => q p _ (same_upd np) upd_same⟩⟩
    · exact ⟨_, rfl, _, _, rfl, .tup hs, _, rfl, iteF ⟨_, rfl, p, _, 0, _, rfl, rfl, hs, atI_nat (j := 0) rfl, _, rfl, p, _, 1, _, rfl, rfl, hs, atI_nat (j := 1) rfl, (by show 2 ≤ sizeLine; decide), fun p' np => q p' _ (same_upd np) upd_same⟩⟩
end
end TF


set_option Elab.async false
set_option linter.all false
set_option maxRecDepth 100000
set_option maxHeartbeats 4000000
namespace TF
open PySem PySem.Spec PyProof.Rows L2
section
variable {P : Program} {w : World} {K : PySem.W.Frag} {mg : Str → Option Value} {base : Heap}
/-! ### plus_in, times_in, minus_in, below_in, whole_in -/
/-- two numbers handed in -/
def Two (K : PySem.W.Frag) (H : Hp) (vs : List V) (a b c d : Int) : Prop := ∃ v u : V, vs = [v, u] ∧ NumV K H v (a, b) ∧ NumV K H u (c, d) ∧ 0 < b ∧ 0 < d ∧ Sz 3000 a ∧ Sz 3000 b ∧ Sz 3000 c ∧ Sz 3000 d
def spPlus (K : PySem.W.Frag) : Sp := fun vs H Q _ => ∃ a b c d : Int, Two K H vs a b c d ∧ ∀ v H', Same H H' → NumV K H' v (red (a * d + c * b) (b * d)) → Q v H'
def spTimes (K : PySem.W.Frag) : Sp := fun vs H Q _ => ∃ a b c d : Int, Two K H vs a b c d ∧ ∀ v H', Same H H' → NumV K H' v (red (a * c) (b * d)) → Q v H'
def spBelow (K : PySem.W.Frag) : Sp := fun vs H Q _ => ∃ a b c d : Int, Two K H vs a b c d ∧ ∀ H', Same H H' → Q (.bl (decide (a * d < c * b))) H'
theorem ok_plus_in (D : Df K mg "plus_in" s_plus_in p_plus_in) (h1 : Has P w K mg base CX0 2 "halves" p_halves (spHalves K)) (h2 : Has P w K mg base CX0 2 "lowest_in" p_lowest_in (spLow K)) : Has P w K mg base CX0 3 "plus_in" p_plus_in (spPlus K) := by
  refine D.ok sc_plus_in (fun vs H Q E h => ?_) (fun f cdv A outer s H vs Q E hr h => ?_)
  · obtain ⟨a, b, c, d, ⟨v, u, rfl, _⟩, _⟩ := h
    rfl
  · obtain ⟨a, b, c, d, ⟨v, u, rfl, hv, hu, hb, hd, za, zb, zc, zd⟩, q⟩ := h
    refine ⟨_, pss_cons (ps_asg (pe_tup (pa_cons (pe_h h1 hr pass0 (pa_cons (pv 0) pa_nil)) (pa_cons (pe_h h1 hr pass0 (pa_cons (pv 1) pa_nil)) pa_nil)))
        (pg_tup (by rfl) (pgs_cons (pg_tup (by rfl) (pgs_cons (pg_name (i := 2) sc_plus_in.nd rfl (.inl rfl)) (pgs_cons (pg_name (i := 3) sc_plus_in.nd rfl (.inl rfl)) pgs_nil)))
          (pgs_cons (pg_tup (by rfl) (pgs_cons (pg_name (i := 4) sc_plus_in.nd rfl (.inl rfl)) (pgs_cons (pg_name (i := 5) sc_plus_in.nd rfl (.inl rfl)) pgs_nil))) pgs_nil))))
      (pss_one (ps_ret (pe_h h2 hr pass0 (pa_cons (pe_op op_add (pe_op op_mulW (pv 2) (pv 5)) (pe_op op_mulW (pv 4) (pv 3))) (pa_cons (pe_op op_mulW (pv 3) (pv 5)) pa_nil))))), ?_⟩
    refine ⟨_, rfl, v, a, b, rfl, hv, fun p1 H1 s1 e1 => ⟨_, rfl, u, c, d, rfl, hu.same s1, fun p2 H2 s2 e2 => ⟨(by show 2 ≤ sizeLine; decide), fun p3 np => ?_⟩⟩⟩
    have s3 := same_upd (o := HO.tup [.ref p1, .ref p2]) np
    refine ⟨p3, _, rfl, SqT.of upd_same, rfl, _, _, rfl, ⟨p1, _, rfl, SqT.of (s3 _ _ (s2 _ _ e1)), rfl, _, _, rfl, _, _, rfl, rfl, _, _, rfl, ⟨p2, _, rfl, SqT.of (s3 _ _ e2), rfl, _, _, rfl, _, _, rfl, rfl, rfl, ?_⟩⟩⟩
    refine ⟨_, rfl, _, rfl, _, _, rfl, rfl, za.cmul zd, _, rfl, _, rfl, _, _, rfl, rfl, zc.cmul zb, _, _, rfl, rfl, _, rfl, _, rfl, _, _, rfl, rfl, zb.cmul zd, ?_⟩
    exact ⟨_, _, rfl, Int.mul_pos hb hd, (zb.mul zd).mono (by decide), fun v H' s' hn => q v H' ((s1.trans s2).trans (s3.trans s')) hn⟩
theorem ok_times_in (D : Df K mg "times_in" s_times_in p_times_in) (h1 : Has P w K mg base CX0 2 "halves" p_halves (spHalves K)) (h2 : Has P w K mg base CX0 2 "lowest_in" p_lowest_in (spLow K)) : Has P w K mg base CX0 3 "times_in" p_times_in (spTimes K) := by
  refine D.ok sc_times_in (fun vs H Q E h => ?_) (fun f cdv A outer s H vs Q E hr h => ?_)
  · obtain ⟨a, b, c, d, ⟨v, u, rfl, _⟩, _⟩ := h
    rfl
  · obtain ⟨a, b, c, d, ⟨v, u, rfl, hv, hu, hb, hd, za, zb, zc, zd⟩, q⟩ := h
    refine ⟨_, pss_cons (ps_asg (pe_tup (pa_cons (pe_h h1 hr pass0 (pa_cons (pv 0) pa_nil)) (pa_cons (pe_h h1 hr pass0 (pa_cons (pv 1) pa_nil)) pa_nil)))
        (pg_tup (by rfl) (pgs_cons (pg_tup (by rfl) (pgs_cons (pg_name (i := 2) sc_times_in.nd rfl (.inl rfl)) (pgs_cons (pg_name (i := 3) sc_times_in.nd rfl (.inl rfl)) pgs_nil)))
          (pgs_cons (pg_tup (by rfl) (pgs_cons (pg_name (i := 4) sc_times_in.nd rfl (.inl rfl)) (pgs_cons (pg_name (i := 5) sc_times_in.nd rfl (.inl rfl)) pgs_nil))) pgs_nil))))
      (pss_one (ps_ret (pe_h h2 hr pass0 (pa_cons (pe_op op_mulW (pv 2) (pv 4)) (pa_cons (pe_op op_mulW (pv 3) (pv 5)) pa_nil))))), ?_⟩
    refine ⟨_, rfl, v, a, b, rfl, hv, fun p1 H1 s1 e1 => ⟨_, rfl, u, c, d, rfl, hu.same s1, fun p2 H2 s2 e2 => ⟨(by show 2 ≤ sizeLine; decide), fun p3 np => ?_⟩⟩⟩
    have s3 := same_upd (o := HO.tup [.ref p1, .ref p2]) np
    refine ⟨p3, _, rfl, SqT.of upd_same, rfl, _, _, rfl, ⟨p1, _, rfl, SqT.of (s3 _ _ (s2 _ _ e1)), rfl, _, _, rfl, _, _, rfl, rfl, _, _, rfl, ⟨p2, _, rfl, SqT.of (s3 _ _ e2), rfl, _, _, rfl, _, _, rfl, rfl, rfl, ?_⟩⟩⟩
    refine ⟨_, rfl, _, rfl, _, _, rfl, rfl, za.cmul zc, _, rfl, _, rfl, _, _, rfl, rfl, zb.cmul zd, ?_⟩
    exact ⟨_, _, rfl, Int.mul_pos hb hd, (zb.mul zd).mono (by decide), fun v H' s' hn => q v H' ((s1.trans s2).trans (s3.trans s')) hn⟩
theorem ok_below_in (D : Df K mg "below_in" s_below_in p_below_in) (h1 : Has P w K mg base CX0 2 "halves" p_halves (spHalves K)) : Has P w K mg base CX0 3 "below_in" p_below_in (spBelow K) := by
  refine D.ok sc_below_in (fun vs H Q E h => ?_) (fun f cdv A outer s H vs Q E hr h => ?_)
  · obtain ⟨a, b, c, d, ⟨v, u, rfl, _⟩, _⟩ := h
    rfl
  · obtain ⟨a, b, c, d, ⟨v, u, rfl, hv, hu, hb, hd, za, zb, zc, zd⟩, q⟩ := h
    refine ⟨_, pss_cons (ps_asg (pe_tup (pa_cons (pe_h h1 hr pass0 (pa_cons (pv 0) pa_nil)) (pa_cons (pe_h h1 hr pass0 (pa_cons (pv 1) pa_nil)) pa_nil)))
        (pg_tup (by rfl) (pgs_cons (pg_tup (by rfl) (pgs_cons (pg_name (i := 2) sc_below_in.nd rfl (.inl rfl)) (pgs_cons (pg_name (i := 3) sc_below_in.nd rfl (.inl rfl)) pgs_nil)))
          (pgs_cons (pg_tup (by rfl) (pgs_cons (pg_name (i := 4) sc_below_in.nd rfl (.inl rfl)) (pgs_cons (pg_name (i := 5) sc_below_in.nd rfl (.inl rfl)) pgs_nil))) pgs_nil))))
      (pss_one (ps_ret (pe_cmpR op_lt (pe_op op_mulW (pv 2) (pv 5)) (pe_op op_mulW (pv 4) (pv 3)) (nomark _)))), ?_⟩
    refine ⟨_, rfl, v, a, b, rfl, hv, fun p1 H1 s1 e1 => ⟨_, rfl, u, c, d, rfl, hu.same s1, fun p2 H2 s2 e2 => ⟨(by show 2 ≤ sizeLine; decide), fun p3 np => ?_⟩⟩⟩
    have s3 := same_upd (o := HO.tup [.ref p1, .ref p2]) np
    refine ⟨p3, _, rfl, SqT.of upd_same, rfl, _, _, rfl, ⟨p1, _, rfl, SqT.of (s3 _ _ (s2 _ _ e1)), rfl, _, _, rfl, _, _, rfl, rfl, _, _, rfl, ⟨p2, _, rfl, SqT.of (s3 _ _ e2), rfl, _, _, rfl, _, _, rfl, rfl, rfl, ?_⟩⟩⟩
    exact ⟨_, rfl, _, rfl, _, _, rfl, rfl, za.cmul zd, _, rfl, _, rfl, _, _, rfl, rfl, zc.cmul zb, _, _, rfl, rfl, q _ ((s1.trans s2).trans s3)⟩
def spWhole (K : PySem.W.Frag) : Sp := fun vs H Q _ => ∃ (v : V) (a b : Int), vs = [v] ∧ NumV K H v (a, b) ∧ 0 < b ∧ Sz 3000 b ∧ ∀ H', Same H H' → Q (.int (a / b)) H'
theorem ok_whole_in (D : Df K mg "whole_in" s_whole_in p_whole_in) (h1 : Has P w K mg base CX0 2 "halves" p_halves (spHalves K)) : Has P w K mg base CX0 3 "whole_in" p_whole_in (spWhole K) := by
  refine D.ok sc_whole_in (fun vs H Q E h => ?_) (fun f cdv A outer s H vs Q E hr h => ?_)
  · obtain ⟨v, a, b, rfl, _⟩ := h
    rfl
  · obtain ⟨v, a, b, rfl, hv, hb, zb, q⟩ := h
    refine ⟨_, pss_cons (ps_asg (pe_h h1 hr pass0 (pa_cons (pv 0) pa_nil)) (pg_tup (by rfl) (pgs_cons (pg_name (i := 1) sc_whole_in.nd rfl (.inl rfl)) (pgs_cons (pg_name (i := 2) sc_whole_in.nd rfl (.inl rfl)) pgs_nil))))
      (pss_one (ps_ret (pe_op op_fdivW (pv 1) (pv 2)))), ?_⟩
    refine ⟨_, rfl, v, a, b, rfl, hv, fun p1 H1 s1 e1 => ⟨p1, _, rfl, SqT.of e1, rfl, _, _, rfl, _, _, rfl, rfl, ?_⟩⟩
    exact ⟨_, rfl, _, rfl, _, _, rfl, rfl, zb.cdiv hb, q _ s1⟩
/-- one number less a whole one -/
def spMinus (K : PySem.W.Frag) : Sp := fun vs H Q _ => ∃ (v : V) (a b c : Int), vs = [v, .int c] ∧ NumV K H v (a, b) ∧ 0 < b ∧ Sz 3000 a ∧ Sz 3000 b ∧ Sz 3000 c ∧ ∀ v H', Same H H' → NumV K H' v (red (a - c * b) b) → Q v H'
theorem ok_minus_in (D : Df K mg "minus_in" s_minus_in p_minus_in) (h1 : Has P w K mg base CX0 3 "plus_in" p_plus_in (spPlus K)) (h2 : Has P w K mg base CX0 3 "times_in" p_times_in (spTimes K)) : Has P w K mg base CX0 4 "minus_in" p_minus_in (spMinus K) := by
  refine D.ok sc_minus_in (fun vs H Q E h => ?_) (fun f cdv A outer s H vs Q E hr h => ?_)
  · obtain ⟨v, a, b, c, rfl, _⟩ := h
    rfl
  · obtain ⟨v, a, b, c, rfl, hv, hb, za, zb, zc, q⟩ := h
    refine ⟨_, pss_one (ps_ret (pe_h h1 hr pass0 (pa_cons (pv 0) (pa_cons (pe_h h2 hr pass0 (pa_cons (pv 1) (pa_cons (pe_un un_neg pe_int) pa_nil))) pa_nil)))), ?_⟩
    have z1 : Sz 3000 1 := Sz.mono (n := 1) (by show (1 : Int).natAbs < 2 ^ 1; decide) (by decide)
    refine ⟨_, rfl, _, rfl, _, rfl, c, 1, -1, 1, ⟨_, _, rfl, .int _, .int _, by decide, by decide, zc, z1, z1.neg, z1⟩, fun u H1 s1 hn => ?_⟩
    have er : red (c * -1) (1 * 1) = (-c, 1) := by
      rw [show c * -1 = -c by omega, show (1 : Int) * 1 = 1 by decide, red_of gcd_int]
    rw [er] at hn
    refine ⟨a, b, -c, 1, ⟨_, _, rfl, hv.same s1, hn, hb, by decide, za, zb, zc.neg, z1⟩, fun u' H2 s2 hn2 => q u' H2 (s1.trans s2) ?_⟩
    have e2 : red (a * 1 + -c * b) (b * 1) = red (a - c * b) b := by
      rw [Int.mul_one, Int.mul_one, Int.neg_mul]; rfl
    rw [e2] at hn2
    exact hn2
end
end TF


set_option Elab.async false
set_option linter.all false
set_option maxRecDepth 100000
set_option maxHeartbeats 4000000
namespace TF
open PySem PySem.Spec PyProof.Rows L2
/-! ### data of numbers -/
def numD (q : Q2) : PyData := if q.2 = 1 then .int q.1 else .tuple [.int q.1, .int q.2]
theorem NumV.dp {K : PySem.W.Frag} {H : Hp} {v : V} {q : Q2} (h : NumV K H v q) : Dp K H v (numD q) := by
  unfold numD
  rcases h with ⟨h, rfl⟩ | ⟨h, p, rfl, hs⟩
  · rw [if_pos h]; exact .int _
  · rw [if_neg h]; exact .tup hs (.cons (.int _) (.cons (.int _) .nil))
theorem numD_shaped (q : Q2) : SeqAt.shaped (numD q) = true := by
  unfold numD
  split
  · rfl
  · simp [SeqAt.shaped, PyData.canLay0, PyData.canLayAll0, PyData.depth, PyData.depthAll]
theorem numD_eqv (q r : Q2) : PyData.eqv (numD q) (numD r) = decide (q = r) := by
  obtain ⟨a, b⟩ := q
  obtain ⟨c, d⟩ := r
  unfold numD
  by_cases h1 : b = 1
  · subst h1
    by_cases h2 : d = 1
    · subst h2
      simp [PyData.eqv, Bool.beq_eq_decide_eq]
    · rw [if_pos rfl, if_neg h2]
      simp [PyData.eqv]
      intro _ e; exact absurd e.symm h2
  · by_cases h2 : d = 1
    · subst h2
      rw [if_neg h1, if_pos rfl]
      simp [PyData.eqv]
      intro _ e; exact absurd e h1
    · rw [if_neg h1, if_neg h2]
      simp [PyData.eqv, PyData.eqvAll, Bool.beq_eq_decide_eq]
/-! ### constants of the modules -/
structure Mc (mg : Str → Option Value) : Prop where
  LU : ∃ t, mg "LEAST_UNDER" = some (.int 2 t)
  SPAN : ∃ t, mg "SPAN" = some (.int 4 t)
  BASE : ∃ t, mg "BASE" = some (.int 3 t)
  LOWEST : ∃ t, mg "LOWEST" = some (.int 2 t)
  MC : ∃ t, mg "MOST_CONTENTS" = some (.int 200 t)
  WIDE : ∃ t, mg "WIDE" = some (.int 2 t)
  ML : ∃ t, mg "MOST_LINES" = some (.int 15 t)
  LB : ∃ t, mg "LAST_BOX" = some (.int 1 t)
  STOP : ∃ t, mg "STOP" = some (.str "stop" t)
theorem pe_ci {X : Cx} {x : Str} {i : Int} {pos : Pos} (h : ∃ t, X.mg x = some (.int i t)) (hg : Gl X x := by rfl) (hd : (x == ("__debug__" : Str)) = false := by decide) : PE X (.Name x pos) (tC (.int i)) := by
  obtain ⟨t, e⟩ := h
  exact pe_glob hg e ⟨t, rfl⟩ hd
theorem pe_cs {X : Cx} {x y : Str} {pos : Pos} (h : ∃ t, X.mg x = some (.str y t)) (hg : Gl X x := by rfl) (hd : (x == ("__debug__" : Str)) = false := by decide) : PE X (.Name x pos) (tC (.str y)) := by
  obtain ⟨t, e⟩ := h
  exact pe_glob hg e ⟨t, rfl⟩ hd
/-- a while by an invariant and a measure -/
theorem while_at {c : TT} {tb : TS} {D : Ends} {σ : L2.St} {H : Hp} (Pv : L2.St → Hp → Prop) (μ : L2.St → Hp → Nat) (h0 : Pv σ H)
    (hs : ∀ σ H, Pv σ H → c σ H fun b H1 => if b = true then ∃ N : L2.St → Hp → Prop, (∀ σ' H', N σ' H' → ∃ m', m' < μ σ H ∧ (m' = μ σ' H' ∧ Pv σ' H')) ∧ tb { D with nx := N, ct := N, bk := D.nx } σ H1 else D.nx σ H1) : tWhile c tb D σ H :=
  ⟨fun m σ H => m = μ σ H ∧ Pv σ H, ⟨_, rfl, h0⟩, fun m σ H ⟨e, p⟩ => by subst e; exact hs σ H p⟩
/-! ### contents -/
def cv : Option Nat → V
  | none => .non
  | some k => .int k
/-- contents that aren't too great for what is reckoned here -/
def CB (c : Option Nat) : Prop := ∀ k, c = some k → k ≤ 1400
theorem sz_pow3 (n m : Nat) (h : 2 * n < m) : Sz m ((3 : Int) ^ n) := by
  unfold Sz
  have e : ((3 : Int) ^ n).natAbs = 3 ^ n := by rw [Int.natAbs_pow]; rfl
  rw [e]
  have h1 : 3 ^ n ≤ 4 ^ n := Nat.pow_le_pow_left (by decide) n
  have h2 : 4 ^ n = 2 ^ (2 * n) := by rw [Nat.pow_mul]
  have h3 : 2 ^ (2 * n) < 2 ^ m := Nat.pow_lt_pow_right (by decide) h
  omega
theorem sz_small {z : Int} (h : z.natAbs < 1048576) : Sz 3000 z := Sz.mono (n := 20) (by unfold Sz; simpa using h) (by decide)
theorem ht_sz {c : Option Nat} (h : CB c) : Sz 2900 (ht c).1 ∧ Sz 2900 (ht c).2 := by
  match c, h with
  | none, _ => exact ⟨Sz.mono (n := 2) (by unfold Sz; decide) (by decide), Sz.mono (n := 2) (by unfold Sz; decide) (by decide)⟩
  | some 0, _ => exact ⟨Sz.mono (n := 2) (by unfold Sz; decide) (by decide), Sz.mono (n := 2) (by unfold Sz; decide) (by decide)⟩
  | some (n + 1), h =>
    have := h _ rfl
    exact ⟨Sz.mono (n := 2) (by unfold Sz; show (1 : Int).natAbs < 2 ^ 2; decide) (by decide), sz_pow3 n 2900 (by omega)⟩
section
variable {P : Program} {w : World} {K : PySem.W.Frag} {mg : Str → Option Value} {base : Heap}
/-! ### is_number, kept_number, is_contents -/
def spIsNum (K : PySem.W.Frag) : Sp := fun vs H Q _ => (∃ (v : V) (n : String), vs = [v] ∧ VTy K H v n ∧ (n == "list" || n == "tuple") = false ∧ ∀ H', Same H H' → Q (.bl (n == "int")) H') ∨
  ∃ (p : Addr) (a b : Int), vs = [.ref p] ∧ SqT K H p [.int a, .int b] ∧ 2 ≤ b ∧ ∀ H', Same H H' → Q (.bl (decide (Int.gcd a b = 1))) H'
theorem ok_is_number (B : Bz mg) (M : Mc mg) (D : Df K mg "is_number" s_is_number p_is_number) (H_is_list : Has P w K mg base CX0 1 "is_list" p_is_list (spIsList K)) (H_is_integer : Has P w K mg base CX0 1 "is_integer" p_is_integer (spIsInt K))
    (H_is_within : Has P w K mg base CX0 2 "is_within" p_is_within (spIsWithin K)) (H_common : Has P w K mg base CX0 1 "common" p_common spCommon) : Has P w K mg base CX0 3 "is_number" p_is_number (spIsNum K) := by
  refine D.ok sc_is_number (fun vs H Q E h => ?_) (fun f cdv A outer s H vs Q E hr h => ?_)
  · rcases h with ⟨v, n, rfl, _⟩ | ⟨p, a, b, rfl, _⟩ <;> rfl
  · refine ⟨_, (pss_cons (ps_if (pt_not (pt_val (pe_h H_is_list (hr.mono (by decide)) pass0 (pa_cons (pv 0) pa_nil))))
      (pss_one (ps_ret (pe_h H_is_integer (hr.mono (by decide)) pass0 (pa_cons (pv 0) pa_nil))))
      pss_nil)
      (pss_cons (ps_if (PW.pt (pw_or (pt_cmpR op_ne (pe_callB call_len_seq (by rfl) B.len (by decide +kernel) (pa_cons (pv 0) pa_nil)) pe_int (nomark _)) (pw_or (pt_not (pt_val (pe_h H_is_integer (hr.mono (by decide)) pass0 (pa_cons (pe_ix ix_tup (pv 0) pe_int (fun _ _ => rfl)) pa_nil)))) (pw_or1 (pt_not (pt_val (pe_h H_is_within (hr.mono (by decide)) pass0 (pa_cons (pe_ix ix_tup (pv 0) pe_int (fun _ _ => rfl)) (pa_cons (pe_ci M.LU) (pa_cons pe_non pa_nil))))))))))
      (pss_one (ps_ret pe_bl))
      pss_nil)
      (pss_one (ps_ret (pe_cmpR op_eq (pe_h H_common (hr.mono (by decide)) pass0 (pa_cons (pe_ix ix_tup (pv 0) pe_int (fun _ _ => rfl)) (pa_cons (pe_ix ix_tup (pv 0) pe_int (fun _ _ => rfl)) pa_nil))) pe_int (nomark _)))))), ?_⟩
    rcases h with ⟨v, n, rfl, ty, hn, q⟩ | ⟨p, a, b, rfl, hs, hb, q⟩
    · refine ⟨_, rfl, _, _, rfl, ty, fun H1 s1 => ?_⟩
      rw [hn]
      exact ⟨_, rfl, iteT ⟨_, rfl, v, n, rfl, ty.same s1, q H1 s1⟩⟩
    · refine ⟨_, rfl, _, _, rfl, .tup hs, fun H1 s1 => ⟨_, rfl, iteF ?_⟩⟩
      have hs1 := sqT_same s1 hs
      refine ⟨_, rfl, p, _, rfl, .inr hs1, rfl, _, rfl, iteF ⟨_, rfl, p, _, 0, _, rfl, rfl, hs1, atI_nat (j := 0) rfl, _, _, rfl, .int _, _, rfl, iteF ⟨_, rfl, p, _, 1, _, rfl, rfl, hs1, atI_nat (j := 1) rfl, _, _, some 2, none, rfl, .int _, ?_⟩⟩⟩
      have e : within (.int b) (some 2) none = true := by show (decide (2 ≤ b) && true) = true; rw [decide_eq_true hb]; rfl
      rw [e]
      refine ⟨_, rfl, iteF ⟨_, rfl, p, _, 0, _, rfl, rfl, hs1, atI_nat (j := 0) rfl, _, rfl, p, _, 1, _, rfl, rfl, hs1, atI_nat (j := 1) rfl, a, b, rfl, rfl, ?_⟩⟩
      have e2 : decide (V.int (Int.gcd a b : Int) = V.int 1) = decide (Int.gcd a b = 1) := by
        by_cases h : Int.gcd a b = 1
        · rw [decide_eq_true h, h]; exact decide_eq_true rfl
        · rw [decide_eq_false h]
          exact decide_eq_false fun z => h (by have := V.int.inj z; omega)
      rw [e2]
      exact q H1 s1
def spKept (K : PySem.W.Frag) : Sp := fun vs H Q _ => ∃ (v : V) (q : Q2), vs = [v] ∧ NumV K H v q ∧ ∀ H', Same H H' → Q v H'
theorem ok_kept_number (B : Bz mg) (D : Df K mg "kept_number" s_kept_number p_kept_number) (h1 : Has P w K mg base CX0 1 "is_list" p_is_list (spIsList K)) : Has P w K mg base CX0 2 "kept_number" p_kept_number (spKept K) := by
  refine D.ok sc_kept_number (fun vs H Q E h => ?_) (fun f cdv A outer s H vs Q E hr h => ?_)
  · obtain ⟨v, n, rfl, _⟩ := h
    rfl
  · obtain ⟨v, n, rfl, hn, q⟩ := h
    refine ⟨_, pss_one (ps_ret (pe_ifExp (pt_val (pe_h h1 hr pass0 (pa_cons (pv 0) pa_nil))) (pe_callTy call_tupleT (by rfl) B.tuple (by decide +kernel) (pa_cons (pv 0) pa_nil)) (pv 0))), ?_⟩
    rcases hn with ⟨_, rfl⟩ | ⟨_, p, rfl, hs⟩
    · exact ⟨_, rfl, _, _, rfl, .int _, fun H1 s1 => ⟨_, rfl, iteF ⟨_, rfl, q H1 s1⟩⟩⟩
    · exact ⟨_, rfl, _, _, rfl, .tup hs, fun H1 s1 => ⟨_, rfl, iteT ⟨_, rfl, p, _, rfl, sqT_same s1 hs, q H1 s1⟩⟩⟩
/-- what a box may have -/
def isCont (v : V) : Bool := decide (v = .non) || within v (some 0) none
def spIsCont (K : PySem.W.Frag) : Sp := fun vs H Q _ => ∃ (v : V) (n : String), vs = [v] ∧ VTy K H v n ∧ Q (.bl (isCont v)) H
theorem ok_is_contents (B : Bz mg) (D : Df K mg "is_contents" s_is_contents p_is_contents) (h3 : Has P w K mg base CX0 2 "is_within" p_is_within (spIsWithin K)) : Has P w K mg base CX0 3 "is_contents" p_is_contents (spIsCont K) := by
  refine D.ok sc_is_contents (fun vs H Q E h => ?_) (fun f cdv A outer s H vs Q E hr h => ?_)
  · obtain ⟨v, n, rfl, _⟩ := h
    rfl
  · obtain ⟨v, n, rfl, ty, q⟩ := h
    refine ⟨_, pss_one (ps_ret (pe_or (pe_cmpR op_isN (pv 0) pe_non (nomark _)) (pe_one (pe_h h3 hr pass0 (pa_cons (pv 0) (pa_cons pe_int (pa_cons pe_non pa_nil))))))), ?_⟩
    refine ⟨_, rfl, rfl, _, rfl, ite2 (fun e => ?_) (fun e => ⟨_, rfl, _, _, some 0, none, rfl, ty, ?_⟩)⟩
    · have e2 : isCont v = true := by unfold isCont; rw [e]; rfl
      rw [e2] at q
      exact q
    · have e1 : decide (v = .non) = false := by simpa using e
      have e2 : isCont v = within v (some 0) none := by unfold isCont; rw [e1]; rfl
      rw [e2] at q
      exact q
end
end TF


set_option Elab.async false
set_option linter.all false
set_option maxRecDepth 100000
set_option maxHeartbeats 4000000
namespace TF
open PySem PySem.Spec PyProof.Rows L2
theorem gcd2_pow3 (n : Nat) : Int.gcd 2 (3 ^ n) = 1 := by
  show Nat.gcd 2 ((3 : Int) ^ n).natAbs = 1
  rw [Int.natAbs_pow]
  exact Nat.Coprime.pow_right n (by decide)
theorem gcd1 (b : Int) : Int.gcd 1 b = 1 := by simp
section
variable {P : Program} {w : World} {K : PySem.W.Frag} {mg : Str → Option Value} {base : Heap}
/-! ### height_in -/
def spHeight (K : PySem.W.Frag) : Sp := fun vs H Q _ => ∃ c : Option Nat, vs = [cv c] ∧ CB c ∧ ∀ v H', Same H H' → NumV K H' v (ht c) → Q v H'
theorem ok_height_in (B : Bz mg) (M : Mc mg) (D : Df K mg "height_in" s_height_in p_height_in) (H_lowest_in : Has P w K mg base CX0 2 "lowest_in" p_lowest_in (spLow K)) : Has P w K mg base CX0 3 "height_in" p_height_in (spHeight K) := by
  refine D.ok sc_height_in (fun vs H Q E h => ?_) (fun f cdv A outer s H vs Q E hr h => ?_)
  · obtain ⟨c, rfl, _⟩ := h
    rfl
  · obtain ⟨c, rfl, hc, q⟩ := h
    refine ⟨_, (pss_cons (ps_if (pt_cmpR op_isN (pv 0) pe_non (nomark _))
      (pss_one (ps_ret pe_int))
      pss_nil)
      (pss_cons (ps_if (pt_cmpR op_eq (pv 0) pe_int (nomark _))
      (pss_one (ps_ret (pe_ci M.BASE)))
      pss_nil)
      (pss_cons (ps_set (i := 1) sc_height_in.nd rfl (Or.inl rfl) pe_int)
      (pss_cons (ps_for PassesOwn.never rfl (pi_range1 rfl B.range (pa_cons (pe_op op_sub (pv 0) pe_int) pa_nil)) (pg_name (i := 2) sc_height_in.nd rfl (.inl rfl))
      (pss_one (ps_set (i := 1) sc_height_in.nd rfl (Or.inl rfl) (pe_op op_mulW (pv 1) (pe_ci M.BASE)))))
      (pss_one (ps_ret (pe_h H_lowest_in (hr.mono (by decide)) pass0 (pa_cons pe_int (pa_cons (pv 1) pa_nil))))))))), ?_⟩
    match c, hc, q with
    | none, hc, q => exact ⟨_, rfl, rfl, _, rfl, iteT (q _ _ (Same.refl _) (.int 0))⟩
    | some 0, hc, q => exact ⟨_, rfl, rfl, _, rfl, iteF ⟨_, rfl, rfl, _, rfl, iteT (q _ _ (Same.refl _) (.int 3))⟩⟩
    | some (n + 1), hc, q =>
      have hn := hc _ rfl
      refine ⟨_, rfl, rfl, _, rfl, iteF ⟨_, rfl, rfl, _, rfl, ?_⟩⟩
      have e0 : decide (cv (some (n + 1)) = V.int 0) = false := decide_eq_false fun z => by
        have := V.int.inj z
        omega
      rw [e0]
      refine iteF ⟨_, rfl, _, _, rfl, rfl, n, ?_, ?_, ?_, ?_⟩
      · exact congrArg (fun z => [V.int z]) (show ((n + 1 : Nat) : Int) - 1 = n by omega)
      · omega
      · omega
      · refine for_range (lo := 0) (n := (n : Int).toNat) (fun i σ H' => ∃ y, σ = [some (.int ((n + 1 : Nat) : Int)), some (.int (3 ^ i)), y] ∧ H' = H) ⟨_, rfl, rfl⟩ ?_ ?_
        · rintro i σ H' hi ⟨y, rfl, rfl⟩
          have z1 : Sz 3000 ((3 : Int) ^ i) := sz_pow3 i 3000 (by omega)
          refine ⟨_, rfl, _, _, rfl, rfl, z1.cmul (m := 20) (by unfold Sz; decide), some (.int (0 + (i : Int))), ?_, rfl⟩
          rw [Int.pow_succ]
          rfl
        · rintro σ H' ⟨y, rfl, rfl⟩
          rw [show (n : Int).toNat = n by omega]
          refine ⟨_, rfl, 1, 3 ^ n, rfl, pow3 n, sz_pow3 n 9000 (by omega), fun v H1 s1 hv => q v H1 s1 ?_⟩
          rw [red_of (gcd1 _)] at hv
          exact hv
/-! ### point_in -/
def spPointIn (K : PySem.W.Frag) : Sp := fun vs H Q _ => ∃ (p : Addr) (l : Int) (c1 c2 : Option Nat), vs = [.ref p] ∧ SqT K H p [.int l, cv c1, cv c2] ∧ 0 ≤ l ∧ l ≤ 15 ∧ CB c1 ∧ CB c2 ∧
  ∀ (t : Addr) (v1 v2 : V) H', Same H H' → H' t = some (.tup [v1, v2]) → NumV K H' v1 (px l c1) → NumV K H' v2 (ht c2) → Q (.ref t) H'
theorem ok_point_in (M : Mc mg) (D : Df K mg "point_in" s_point_in p_point_in) (H_plus_in : Has P w K mg base CX0 3 "plus_in" p_plus_in (spPlus K)) (H_height_in : Has P w K mg base CX0 3 "height_in" p_height_in (spHeight K)) : Has P w K mg base CX0 4 "point_in" p_point_in (spPointIn K) := by
  refine D.ok sc_point_in (fun vs H Q E h => ?_) (fun f cdv A outer s H vs Q E hr h => ?_)
  · obtain ⟨p, l, c1, c2, rfl, _⟩ := h
    rfl
  · obtain ⟨p, l, c1, c2, rfl, hs, h0, h15, hc1, hc2, q⟩ := h
    refine ⟨_, (pss_one (ps_ret (pe_tup (pa_cons (pe_h H_plus_in (hr.mono (by decide)) pass0 (pa_cons (pe_op op_mulW (pe_ci M.SPAN) (pe_ix ix_tup (pv 0) pe_int (fun _ _ => rfl))) (pa_cons (pe_h H_height_in (hr.mono (by decide)) pass0 (pa_cons (pe_ix ix_tup (pv 0) pe_int (fun _ _ => rfl)) pa_nil)) pa_nil))) (pa_cons (pe_h H_height_in (hr.mono (by decide)) pass0 (pa_cons (pe_ix ix_tup (pv 0) pe_int (fun _ _ => rfl)) pa_nil)) pa_nil))))), ?_⟩
    refine ⟨_, rfl, p, _, 0, _, rfl, rfl, hs, atI_nat (j := 0) rfl, _, _, rfl, rfl, Sz.cmul (n := 10) (m := 10) (by unfold Sz; decide) (by unfold Sz; omega), _, rfl, p, _, 1, _, rfl, rfl, hs, atI_nat (j := 1) rfl, c1, rfl, hc1, fun v1 H1 s1 n1 => ?_⟩
    have z1 := ht_sz hc1
    refine ⟨4 * l, 1, (ht c1).1, (ht c1).2, ⟨_, _, rfl, .int _, n1, by decide, ht_pos _, sz_small (by omega), sz_small (by decide), z1.1.mono (by decide), z1.2.mono (by decide)⟩, fun v2 H2 s2 n2 => ?_⟩
    have e2 : red (4 * l * (ht c1).2 + (ht c1).1 * 1) (1 * (ht c1).2) = px l c1 := by
      rw [Int.mul_one, Int.one_mul]
      exact red_of (px_rd l c1).2
    rw [e2] at n2
    have s12 := s1.trans s2
    refine ⟨_, rfl, p, _, 2, _, rfl, rfl, sqT_same s12 hs, atI_nat (j := 2) rfl, c2, rfl, hc2, fun v3 H3 s3 n3 => ⟨(by show 2 ≤ sizeLine; decide), fun t nt => ?_⟩⟩
    have s4 := same_upd (o := HO.tup [v2, v3]) nt
    exact q t v2 v3 _ (s12.trans (s3.trans s4)) upd_same (n2.same (s3.trans s4)) (n3.same s4)
/-! ### parted -/
def spParted (K : PySem.W.Frag) : Sp := fun vs H Q _ => ∃ (p : Addr) (v1 v2 : V) (a b : Int), vs = [.ref p] ∧ SqT K H p [v1, v2] ∧ NumV K H v1 (a, b) ∧ Rd2 a b ∧ Sz 1500 a ∧ Sz 1500 b ∧
  ∀ (t : Addr) (u : V) H', Same H H' → H' t = some (.tup [.int (a / b / 4), u, v2]) → NumV K H' u (a - 4 * (a / b / 4) * b, b) → Q (.ref t) H'
theorem ok_parted (M : Mc mg) (D : Df K mg "parted" s_parted p_parted) (H_whole_in : Has P w K mg base CX0 3 "whole_in" p_whole_in (spWhole K)) (H_minus_in : Has P w K mg base CX0 4 "minus_in" p_minus_in (spMinus K)) : Has P w K mg base CX0 5 "parted" p_parted (spParted K) := by
  refine D.ok sc_parted (fun vs H Q E h => ?_) (fun f cdv A outer s H vs Q E hr h => ?_)
  · obtain ⟨p, v1, v2, a, b, rfl, _⟩ := h
    rfl
  · obtain ⟨p, v1, v2, a, b, rfl, hs, hv, ⟨hb, hg⟩, za, zb, q⟩ := h
    refine ⟨_, (pss_cons (ps_set (i := 1) sc_parted.nd rfl (Or.inl rfl) (pe_op op_fdivW (pe_h H_whole_in (hr.mono (by decide)) pass0 (pa_cons (pe_ix ix_tup (pv 0) pe_int (fun _ _ => rfl)) pa_nil)) (pe_ci M.SPAN)))
      (pss_one (ps_ret (pe_tup (pa_cons (pv 1) (pa_cons (pe_h H_minus_in (hr.mono (by decide)) pass0 (pa_cons (pe_ix ix_tup (pv 0) pe_int (fun _ _ => rfl)) (pa_cons (pe_op op_mulW (pe_ci M.SPAN) (pv 1)) pa_nil))) (pa_cons (pe_ix ix_tup (pv 0) pe_int (fun _ _ => rfl)) pa_nil))))))), ?_⟩
    refine ⟨_, rfl, p, _, 0, _, rfl, rfl, hs, atI_nat (j := 0) rfl, v1, a, b, rfl, hv, hb, zb.mono (by decide), fun H1 s1 => ⟨_, _, rfl, rfl, Sz.cdiv (n := 10) (by unfold Sz; decide) (by decide), ?_⟩⟩
    have hs1 := sqT_same s1 hs
    have zl : Sz 1500 (a / b / 4) := (za.div).div
    have z4 : Sz 1510 (4 * (a / b / 4)) := (Sz.mul (n := 10) (by unfold Sz; decide) zl).mono (by decide)
    refine ⟨_, rfl, _, rfl, p, _, 0, _, rfl, rfl, hs1, atI_nat (j := 0) rfl, _, rfl, _, _, rfl, rfl, Sz.cmul (n := 10) (by unfold Sz; decide) zl, v1, a, b, _, rfl, hv.same s1, hb, za.mono (by decide), zb.mono (by decide), z4.mono (by decide), fun u H2 s2 nu => ?_⟩
    refine ⟨_, rfl, p, _, 1, _, rfl, rfl, sqT_same s2 hs1, atI_nat (j := 1) rfl, (by show 3 ≤ sizeLine; decide), fun t nt => ?_⟩
    have s3 := same_upd (o := HO.tup [.int (a / b / 4), u, v2]) nt
    refine q t u _ (s1.trans (s2.trans s3)) upd_same ?_
    have e : red (a - 4 * (a / b / 4) * b) b = (a - 4 * (a / b / 4) * b, b) := red_of (by
      rw [show a - 4 * (a / b / 4) * b = -(4 * (a / b / 4)) * b + a by rw [Int.neg_mul]; omega, gcd_shift]
      exact hg)
    rw [e] at nu
    exact nu.same s3
/-! ### like_contents -/
def spLike (K : PySem.W.Frag) : Sp := fun vs H Q _ => ∃ (v : V) (a b : Int), vs = [v] ∧ NumV K H v (a, b) ∧ Rd2 a b ∧ 0 ≤ a ∧ Sz 1600 a ∧ Sz 1600 b ∧ (a = 0 → ∀ H', Same H H' → Q .non H') ∧ (0 < a → ∀ n H', Same H H' → Lk a b n → Q (.int (n : Nat)) H')
theorem zero_iff {a b : Int} (h : Rd2 a b) : ((a, b) : Q2) = (0, 1) ↔ a = 0 := by
  constructor
  · exact fun e => congrArg Prod.fst e
  · rintro rfl
    have : Int.gcd 0 b = 1 := h.2
    have hb := h.1
    have e : b = 1 := by
      simp [Int.gcd] at this
      omega
    rw [e]
theorem ok_like_contents (M : Mc mg) (D : Df K mg "like_contents" s_like_contents p_like_contents) (H_below_in : Has P w K mg base CX0 3 "below_in" p_below_in (spBelow K)) (H_lowest_in : Has P w K mg base CX0 2 "lowest_in" p_lowest_in (spLow K)) :
    Has P w K mg base CX0 4 "like_contents" p_like_contents (spLike K) := by
  refine D.ok sc_like_contents (fun vs H Q E h => ?_) (fun f cdv A outer s H vs Q E hr h => ?_)
  · obtain ⟨v, a, b, rfl, _⟩ := h
    rfl
  · obtain ⟨v, a, b, rfl, hv, hrd, ha, za, zb, q0, q1⟩ := h
    have hb := hrd.1
    refine ⟨_, (pss_cons (ps_if (pt_cmpR (op_eqD hr.units) (pv 0) pe_int (nomark _))
      (pss_one (ps_ret pe_non))
      pss_nil)
      (pss_cons (ps_asg (pe_tup (pa_cons pe_int (pa_cons pe_int pa_nil))) (pg_tup (by rfl) (pgs_cons (pg_name (i := 1) sc_like_contents.nd rfl (.inl rfl)) (pgs_cons (pg_name (i := 2) sc_like_contents.nd rfl (.inl rfl)) pgs_nil))))
      (pss_cons (ps_while PassesOwn.never (pt_val (pe_h H_below_in (hr.mono (by decide)) pass0 (pa_cons (pv 0) (pa_cons (pe_h H_lowest_in (hr.mono (by decide)) pass0 (pa_cons (pe_ci M.LOWEST) (pa_cons (pv 2) pa_nil))) pa_nil))))
      (pss_one (ps_par (i := 1) (j := 2) (by rfl) sc_like_contents.nd rfl rfl (by decide) rfl rfl (pa_cons (pe_op op_add (pv 1) pe_int) (pa_cons (pe_op op_mulW (pv 2) (pe_ci M.BASE)) pa_nil)) (by rfl))))
      (pss_one (ps_ret (pv 1)))))), ?_⟩
    refine ⟨_, rfl, _, _, hv.dp, (NumV.int 0).dp, numD_shaped _, numD_shaped _, _, rfl, ?_⟩
    rw [numD_eqv]
    refine ite2 (fun e => q0 ((zero_iff hrd).mp (of_decide_eq_true e)) _ (Same.refl _)) (fun e => ?_)
    have ha0 : 0 < a := by
      have : ¬ a = 0 := fun z => e (decide_eq_true ((zero_iff hrd).mpr z))
      omega
    refine ⟨(by show 2 ≤ sizeLine; decide), fun pt nt => ⟨pt, _, rfl, SqT.of upd_same, rfl, _, _, rfl, _, _, rfl, rfl, ?_⟩⟩
    refine while_at (fun σ H' => ∃ n : Nat, σ = [some v, some (.int (n : Nat)), some (.int (3 ^ n))] ∧ Same H H' ∧ ∀ m, m < n → a * 3 ^ m < 2 * b) (fun σ _ => match σ with | [_, _, some (.int u)] => (2 * b - a * u).toNat | _ => 0) ⟨0, rfl, same_upd nt, fun m hm => absurd hm (Nat.not_lt_zero _)⟩ ?_
    rintro σ H1 ⟨n, rfl, s1, hn⟩
    have zp : Sz 1700 ((3 : Int) ^ n) := by
      match n, hn with
      | 0, _ => exact Sz.mono (n := 2) (by unfold Sz; show (1 : Int).natAbs < _; decide) (by decide)
      | m + 1, hn =>
        have h1 := hn m (Nat.lt_succ_self m)
        have h2 := pow3 m
        have h3 : 1 * (3 : Int) ^ m ≤ a * 3 ^ m := Int.mul_le_mul_of_nonneg_right (by omega) (by omega)
        have z6 : Sz 1610 (b * 6) := Sz.mul zb (m := 10) (by unfold Sz; decide)
        exact (z6.of_le (by rw [Int.pow_succ]; omega)).mono (by decide)
    refine ⟨_, rfl, _, rfl, 2, 3 ^ n, rfl, pow3 n, zp.mono (by decide), fun u H2 s2 nu => ?_⟩
    rw [red_of (gcd2_pow3 n)] at nu
    refine ⟨a, b, 2, 3 ^ n, ⟨_, _, rfl, hv.same (s1.trans s2), nu, hb, pow3 n, za.mono (by decide), zb.mono (by decide), sz_small (by decide), zp.mono (by decide)⟩, fun H3 s3 => ⟨_, rfl, ite2 (fun e => ?_) (fun e => ?_)⟩⟩
    · have e : a * 3 ^ n < 2 * b := of_decide_eq_true e
      refine ⟨fun σ' H' => σ' = [some v, some (.int ((n + 1 : Nat) : Int)), some (.int (3 ^ (n + 1)))] ∧ Same H H', ?_, ?_⟩
      · rintro σ' H' ⟨rfl, s4⟩
        have hp := pow3 n
        have hp2 : 1 * (3 : Int) ^ n ≤ a * 3 ^ n := Int.mul_le_mul_of_nonneg_right (by omega) (by omega)
        refine ⟨_, ?_, rfl, n + 1, rfl, s4, fun m hm => ?_⟩
        · show (2 * b - a * (3 : Int) ^ (n + 1)).toNat < (2 * b - a * (3 : Int) ^ n).toNat
          rw [Int.pow_succ, ← Int.mul_assoc]
          omega
        · by_cases z : m = n
          · rw [z]; exact e
          · exact hn m (by omega)
      · refine ⟨_, rfl, _, _, rfl, rfl, _, rfl, _, _, rfl, rfl, zp.cmul (m := 10) (by unfold Sz; decide), _, _, rfl, ?_, s1.trans (s2.trans s3)⟩
        rw [Int.pow_succ]
        rfl
    · have e : ¬ a * 3 ^ n < 2 * b := fun z => e (decide_eq_true z)
      exact ⟨_, rfl, q1 ha0 n H3 (s1.trans (s2.trans s3)) ⟨by omega, hn⟩⟩
/-! ### has_contents -/
def spHasC (K : PySem.W.Frag) : Sp := fun vs H Q _ => ∃ (v : V) (a b : Int), vs = [v] ∧ NumV K H v (a, b) ∧ Rd2 a b ∧ Sz 1600 a ∧ Sz 1600 b ∧ b.natAbs < 2 ^ 1200 ∧ ∀ (k : Bool) H', Same H H' → (k = true ↔ IsH a b) → Q (.bl k) H'
theorem lk_cb {a b : Int} {n : Nat} (ha : 0 < a) (hb : 0 < b) (hz : b.natAbs < 2 ^ 1200) (h : Lk a b n) : n ≤ 1400 := by
  rcases Nat.lt_or_ge n 1401 with x | x
  · omega
  · have h1 := h.2 1400 (by omega)
    have h2 : 1 * (3 : Int) ^ 1400 ≤ a * 3 ^ 1400 := Int.mul_le_mul_of_nonneg_right (by omega) (by have := pow3 1400; omega)
    have h3 : b < ((2 ^ 1200 : Nat) : Int) := by omega
    have h4 : 2 * ((2 ^ 1200 : Nat) : Int) ≤ (3 : Int) ^ 1400 := by decide +kernel
    omega
theorem ok_has_contents (M : Mc mg) (D : Df K mg "has_contents" s_has_contents p_has_contents) (H_below_in : Has P w K mg base CX0 3 "below_in" p_below_in (spBelow K)) (H_height_in : Has P w K mg base CX0 3 "height_in" p_height_in (spHeight K))
    (H_like_contents : Has P w K mg base CX0 4 "like_contents" p_like_contents (spLike K)) : Has P w K mg base CX0 5 "has_contents" p_has_contents (spHasC K) := by
  refine D.ok sc_has_contents (fun vs H Q E h => ?_) (fun f cdv A outer s H vs Q E hr h => ?_)
  · obtain ⟨v, a, b, rfl, _⟩ := h
    rfl
  · obtain ⟨v, a, b, rfl, hv, hrd, za, zb, hz, q⟩ := h
    have hb := hrd.1
    refine ⟨_, (pss_cons (ps_if (PW.pt (pw_or (pt_val (pe_h H_below_in (hr.mono (by decide)) pass0 (pa_cons (pv 0) (pa_cons pe_int pa_nil)))) (pw_or1 (pt_val (pe_h H_below_in (hr.mono (by decide)) pass0 (pa_cons (pe_ci M.BASE) (pa_cons (pv 0) pa_nil)))))))
      (pss_one (ps_ret pe_bl))
      pss_nil)
      (pss_cons (ps_if (pt_not (pt_val (pe_h H_below_in (hr.mono (by decide)) pass0 (pa_cons (pv 0) (pa_cons (pe_ci M.LOWEST) pa_nil)))))
      (pss_one (ps_ret (pe_cmpR (op_eqD hr.units) (pv 0) (pe_ci M.BASE) (nomark _))))
      pss_nil)
      (pss_one (ps_ret (pe_and (pe_not (pe_h H_below_in (hr.mono (by decide)) pass0 (pa_cons pe_int (pa_cons (pv 0) pa_nil)))) (pe_one (pe_cmpR (op_eqD hr.units) (pe_h H_height_in (hr.mono (by decide)) pass0 (pa_cons (pe_h H_like_contents (hr.mono (by decide)) pass0 (pa_cons (pv 0) pa_nil)) pa_nil)) (pv 0) (nomark _)))))))), ?_⟩
    have cmp : ∀ {H' : Hp} (c : Int), c.natAbs < 1048576 → Same H H' → Two K H' [v, .int c] a b c 1 ∧ Two K H' [.int c, v] c 1 a b := fun {H'} c hc s =>
      ⟨⟨_, _, rfl, hv.same s, .int _, hb, by decide, za.mono (by decide), zb.mono (by decide), sz_small hc, sz_small (by decide)⟩, ⟨_, _, rfl, .int _, hv.same s, by decide, hb, sz_small hc, sz_small (by decide), za.mono (by decide), zb.mono (by decide)⟩⟩
    refine ⟨_, rfl, a, b, 0, 1, (cmp 0 (by decide) (Same.refl _)).1, fun H1 s1 => ⟨_, rfl, ite2 (fun e => ?_) (fun e => ?_)⟩⟩
    · have e : a * 1 < 0 * b := of_decide_eq_true e
      exact iteT (q false _ s1 ⟨(fun z => nomatch z), fun z => absurd z (isH_out (.inl (by omega)))⟩)
    have ea : ¬ a * 1 < 0 * b := fun z => e (decide_eq_true z)
    refine ⟨_, rfl, 3, 1, a, b, (cmp 3 (by decide) s1).2, fun H2 s2 => ⟨_, rfl, ite2 (fun e => ?_) (fun e => ?_)⟩⟩
    · have e : 3 * b < a * 1 := of_decide_eq_true e
      exact q false _ (s1.trans s2) ⟨(fun z => nomatch z), fun z => absurd z (isH_out (.inr (by omega)))⟩
    have eb : ¬ 3 * b < a * 1 := fun z => e (decide_eq_true z)
    have s12 := s1.trans s2
    refine ⟨_, rfl, a, b, 2, 1, (cmp 2 (by decide) s12).1, fun H3 s3 => ⟨_, rfl, ?_⟩⟩
    have s13 := s12.trans s3
    by_cases h2 : a * 1 < 2 * b
    · rw [decide_eq_true h2]
      refine iteF ⟨_, rfl, 1, 1, a, b, (cmp 1 (by decide) s13).2, fun H4 s4 => ⟨_, rfl, _, rfl, ?_⟩⟩
      have s14 := s13.trans s4
      by_cases h1 : 1 * b < a * 1
      · rw [decide_eq_true h1]
        exact iteF (q false _ s14 ⟨(fun z => nomatch z), fun z => absurd z (isH_mid hb (by omega) (by omega))⟩)
      · rw [decide_eq_false h1]
        refine iteT ⟨_, rfl, v, a, b, rfl, hv.same s14, hrd, by omega, za, zb, fun e0 H5 s5 => ?_, fun h0 n H5 s5 hl => ?_⟩
        · refine ⟨none, rfl, (fun k e => nomatch e), fun u H6 s6 nu => ⟨_, rfl, _, _, nu.dp, (hv.same (s14.trans (s5.trans s6))).dp, numD_shaped _, numD_shaped _, ?_⟩⟩
          rw [numD_eqv]
          refine q _ _ (s14.trans (s5.trans s6)) ?_
          have e1 := (zero_iff hrd).mpr e0
          rw [decide_eq_true_iff]
          exact ⟨fun z => ⟨none, z⟩, fun _ => e1.symm⟩
        · refine ⟨some n, rfl, (fun k e => ?_), fun u H6 s6 nu => ⟨_, rfl, _, _, nu.dp, (hv.same (s14.trans (s5.trans s6))).dp, numD_shaped _, numD_shaped _, ?_⟩⟩
          · cases e
            exact lk_cb h0 hb hz hl
          · rw [numD_eqv]
            refine q _ _ (s14.trans (s5.trans s6)) ?_
            rw [decide_eq_true_iff]
            exact (isH_low h0 hl).symm
    · rw [decide_eq_false h2]
      refine iteT ⟨_, rfl, _, _, (hv.same s13).dp, (NumV.int 3).dp, numD_shaped _, numD_shaped _, ?_⟩
      rw [numD_eqv]
      refine q _ _ s13 ?_
      rw [decide_eq_true_iff, isH_top hb (by omega)]
      exact Prod.mk.injEq .. ▸ Iff.rfl
end
end TF


set_option Elab.async false
set_option linter.all false
set_option maxRecDepth 100000
set_option maxHeartbeats 4000000
namespace TF
open PySem PySem.Spec PyProof.Rows L2
/-! ### an own exception class over ValueError whose __init__ begins with super().__init__(text) -/
structure SupC (P : Program) (K : PySem.W.Frag) (C fI cc cda : Addr) (st : Stmt) (q : Str) : Prop where
  oex : OexC K C
  fn : ∃ (oc : Value) (od : Option Addr) (kV doc pm : Value) (an : Option Addr) (ct : Value) (osl : Array (Option Value)),
    K.lookup fI = some ⟨oc, od, .func (PySem.W.ksFn "__init__" q (defArgs st) (defBody st) (defScope st) .none kV doc pm an (.ref cda) ct cc), osl⟩ ∧ PySem.W.codeIn K (.ref cda) q = true
  code : ∃ (ccl : Value) (cdd : Option Addr) (vs : Array Value) (ccs : Array (Option Value)) (file : Str) (tf : Tok), K.lookup cda = some ⟨ccl, cdd, .fields vs, ccs⟩ ∧ vs[2]? = some (.str file tf) ∧ ((P.main.file : Str) == file) = true
  cell : ∃ (cl : Value) (cld : Option Addr) (csl : Array (Option Value)), K.lookup cc = some ⟨cl, cld, .cell (some (.ref C)), csl⟩
  sub : PySem.W.mroIn K C (.ref C) = some true
  opq : PySem.W.nsIn K cStatics "thirdparty.any" = some none
  sup : PySem.W.ks_superIn K C C "__init__" = some (some (.builtin "ValueError.__init__"))
  sVE : PySem.W.subIn K (.ref C) (.type "ValueError") = some true
  ini : PySem.W.findIn K (.ref C) "__init__" = some (some (.ref fI))
  tI : PySem.W.typeIn K (.ref fI) = some (.type "function")
  top : (P.main.scope.names.lookup ("super" : Str)).isSome = false
abbrev supEnv (q : Str) (sc : Scope) (L f : Addr) (cd : Value) (cc : Addr) : Env := PySem.W.envX q sc L f cd [("__class__", cc)]
/-- the context of such an __init__, entered at s -/
def supCx (P : Program) (w : World) (K : PySem.W.Frag) (mg : Str → Option Value) (base : Heap) (N : List Str) (q : Str) (sc : Scope) (f : Addr) (cd : Value) (cc : Addr) (A : Around) (outer : List Env) (s : Shared) (H : Hp) : Cx where
  prog := P
  w := w
  K := K
  mg := mg
  base := base
  A := A.deeper (supEnv q sc s.heap.objs.size f cd cc)
  N := N
  s_0 := s
  H_0 := H
  env := supEnv q sc s.heap.objs.size f cd cc
  outer := outer
  stack := supEnv q sc s.heap.objs.size f cd cc :: outer
  ex := []
  fn := fun _ => false
  calm := true
  pn := []
  xe := fun _ _ => False
/-- the names of such an __init__: parameters, __class__, built-in ones -/
structure SupS (ps : List Str) (sc : Scope) : Prop where
  kind : sc.kind = .function
  co : sc.isCoroutine = false
  gen : sc.isGenerator = false
  nd : ps.Nodup
  par : ∀ x ∈ ps, sc.names.lookup x = some .local
  cls : sc.names.lookup ("__class__" : Str) = some .free
  sup : sc.names.lookup ("super" : Str) = some .globalImplicit
  self : ps[0]? = some ("self" : Str)
  only : ∀ y ∈ sc.names, y.2 ≠ .cell ∧ (y.2 = .free → y.1 = "__class__")
theorem zip_look {α : Type} {x : Str} {v : α} : ∀ {ps : List Str} {us : List α} {i : Nat}, ps.Nodup → ps[i]? = some x → us[i]? = some v → (ps.zip us).reverse.lookup x = some v := by
  intro ps
  induction ps with
  | nil => intro us i _ h; simp at h
  | cons p ps ih =>
    intro us i nd h1 h2
    cases us with
    | nil => simp at h2
    | cons u us =>
      have nd' := List.nodup_cons.mp nd
      rw [List.zip_cons_cons, List.reverse_cons, List.lookup_append]
      match i, h1, h2 with
      | 0, h1, h2 =>
        have e1 : p = x := by simpa using h1
        have e2 : u = v := by simpa using h2
        subst e1; subst e2
        have n : (ps.zip us).reverse.lookup p = none := by
          rw [List.lookup_eq_none_iff]
          intro q hq
          have hq' := List.mem_reverse.mp hq
          have : q.1 ∈ ps := (List.of_mem_zip (show (q.1, q.2) ∈ ps.zip us from hq')).1
          simp only [bne_iff_ne, ne_eq, beq_eq_false_iff_ne]
          first
            | exact fun e => nd'.1 (e ▸ this)
            | (simp; exact fun e => nd'.1 (e ▸ this))
        rw [n]
        simp
      | i + 1, h1, h2 =>
        rw [ih nd'.2 (by simpa using h1) (by simpa using h2)]
        rfl
section
variable {P : Program} {w : World} {K : PySem.W.Frag} {mg : Str → Option Value} {base : Heap}
theorem sup_start {ps : List Str} {q : Str} {sc : Scope} {f cc : Addr} {cd : Value} {A : Around} {outer : List Env} {s : Shared} {H : Hp} {us : List Value} {vs : List V} {h₀ : Heap} {tk : Nat} {D : Value}
    (S : SupS ps sc) (hd : A.handled = none) (e0 : Env0 P w K mg base A outer s H) (hl : vs.length = ps.length) (r : Vals vs us) (hcc : ∃ cl cld csl, K.lookup cc = some ⟨cl, cld, .cell (some D), csl⟩)
    (hns : h₀.Ns s.heap.objs.size (fun x => (ps.zip us).reverse.lookup x)) (hk : ∀ b o, s.heap.get? b = some o → h₀.get? b = some o) :
    Inv (supCx P w K mg base ps q sc f cd cc A outer s H) [] (vs.map some) H { s with heap := h₀, toks := tk } := by
  obtain ⟨cl, cld, csl, hc⟩ := hcc
  have hcB := e0.mod.kin _ _ hc
  obtain ⟨hcs, hcH⟩ := e0.bs _ _ hcB
  have noA : ∀ b : Addr, b ∉ (supCx P w K mg base ps q sc f cd cc A outer s H).ex := fun b z => absurd (show b ∈ ([] : List Addr) from z) (by simp)
  have one : ∀ {y : Str} {c : Addr}, ([(("__class__" : Str), cc)] : List (Str × Addr)).lookup y = some c → y = "__class__" ∧ c = cc := fun {y c} e => by
    by_cases h : y = "__class__"
    · subst h
      simp [List.lookup] at e
      exact ⟨rfl, e.symm⟩
    · have hb : (y == ("__class__" : Str)) = false := by simpa using h
      simp [List.lookup, hb] at e
  have theC : ([(("__class__" : Str), cc)] : List (Str × Addr)).lookup ("__class__" : Str) = some cc := by simp [List.lookup]
  refine ⟨⟨e0.mod, S.kind, rfl, rfl, Nat.le_refl _, fun y z c e1 e2 => ?_, fun y hy => ?_, fun y c z _ => ?_, fun _ => hd, Around.frames_deeper e0.frames, .inr ⟨rfl, rfl⟩, fun b z => absurd z (noA b), e0.bs, e0.bsz, fun b _ _ => noA b,
      fun b z => absurd z (noA b), e0.funs, e0.frf⟩,
    rfl, e0.bare, Un.kept hk, ⟨_, hns, fun i y v e1 e2 e3 => ?_⟩, fun y c e => ?_, e0.hok.fresh (Nat.le_refl _), fun y c e => ?_, fun p hp => absurd (show p ∈ ([] : List (Addr × Obj)) from hp) (by simp), e0.hok.kept hk, ?_⟩
  · exact (one e1).1.trans (one e2).1.symm
  · have hy : sc.names.lookup y = some .cell ∨ sc.names.lookup y = some .free := hy
    rcases hy with hy | hy
    · exact absurd rfl (S.only _ (PySem.mem_of_lookup hy)).1
    · have e := (S.only _ (PySem.mem_of_lookup hy)).2 rfl
      exact ⟨cc, by rw [show y = "__class__" from e]; exact theC⟩
  · have z : false = true := z
    cases z
  · have e1 : ps[i]? = some y := e1
    rw [List.getElem?_map] at e2
    cases ev : vs[i]? with
    | none => rw [ev] at e2; cases e2
    | some a =>
      rw [ev] at e2
      have : a = v := by simpa using e2
      subst this
      obtain ⟨u, hu, rv⟩ := r.get ev
      exact ⟨u, rv, .inl ⟨S.par y (List.mem_of_getElem? e1), zip_look S.nd e1 hu⟩⟩
  · rw [(one e).2]
    exact ⟨some D, _, hk _ _ hcs, rfl⟩
  · rw [(one e).2]
    exact hcH
  · show (vs.map some).length = ps.length
    rw [List.length_map]; exact hl
end
/-- super().__init__ as a value, called: the args are laid anew -/
theorem call_mw {prog : Program} {w : World} {A : Around} {E : Value → Shared → Prop} {h : Heap} {g : Array GenState} {d : Drawn} {t : Nat} {os : OsState} {nm q : Str} {C N x u t0 : Addr} {bs bm bmB : List Value} {hdct : Bool} {sn : List Str} {sub : List Value} {ab : Bool}
    {col : Option Bool} {dd : Option Addr} {k0 k1 k2 k3 k5 : Option Value} {B newId i : String} {rest : List Value} {Q : Value → Shared → Prop} (FB : ExcBaseFacts B newId i bmB) (hC : h.get? C = some (excClassObj nm q C N bs bm hdct sn sub ab col dd k0 k1 k2 k3 k5 newId))
    (hx : h.get? x = some (PySem.HandSPX.excO C t0)) (hu : h.get? u = some (PySem.W.kxs_mw i x)) (hz : rest.length ≤ sizeLine)
    (hq : ∀ h' t1, (∀ b o, b ≠ x → h.get? b = some o → h'.get? b = some o) → h'.get? x = some (PySem.HandSPX.excO C t1) → Q .none ⟨h', g, d, t, os⟩) :
    wpAny (model prog w) A (call (.ref u) rest) Q E ⟨h, g, d, t, os⟩ := by
  refine wpAny_call (codeAny_of_tree ?_)
  show wpAny _ A.in1 (callAny (.ref u) ⟨rest, []⟩) _ _ _
  simp only [callAny]
  refine wpAny_bind (wpAny_load hu ?_)
  simp only [PySem.W.kxs_mw, show (Value.type "method-wrapper" == Value.type "method" || Value.type "method-wrapper" == Value.type "builtin_function_or_method" || Value.type "method-wrapper" == Value.type "method-wrapper") = true by decide, if_true]
  refine PySem.W.KFB.if_so (by decide) ?_
  refine wpAny_bind (PySem.W.check_bound_init FB.toExcCallFacts hC hx rfl ?_)
  refine wpAny_bind (wpAny_pure (wpAny_pure ?_))
  refine ⟨plainId_quiet FB.init.plain _, codeAny_builtin FB.initEntry ?_⟩
  exact PySem.W.exc_init_tree (cls := .ref C) (t0 := t0) (dv := none) (c2 := .none) (c3 := .none) (b4 := .bool false) hx hz fun h' k e' _ => hq h' _ k e'
end TF


set_option Elab.async false
set_option linter.all false
set_option maxRecDepth 100000
set_option maxHeartbeats 4000000
namespace TF
open PySem PySem.Spec PyProof.Rows L2
section
variable {P : Program} {w : World} {K : PySem.W.Frag} {mg : Str → Option Value} {base : Heap}
/-- the statement super().__init__(e) of such an __init__ -/
theorem super_stmt {pl : Sem Bool} {C f cc cda : Addr} {st : Stmt} {q : Str} {ps : List Str} {A : Around} {outer : List Env} {s₀ s : Shared} {H₀ H : Hp} {pins : List (Addr × Obj)} {σ : L2.St} {D : Ends} {a : Addr} {e : Expr} {te : TE} {body : List Stmt} {p0 p1 p2 p3 p4 : Pos}
    (T : SupC P K C f cc cda st q) (S : SupS ps (defScope st)) (hself : ∃ ar, ((defArgs st).posonlyargs ++ (defArgs st).args).head? = some ar ∧ ar.arg = "self") (hsup : mg "super" = none)
    (I : Inv (supCx P w K mg base ps q (defScope st) f (.ref cda) cc A outer s₀ H₀) pins σ H s) (hσ : σ[0]? = some (some (.ref a))) (ha : H a = some (exo a C none))
    (he : PE (supCx P w K mg base ps q (defScope st) f (.ref cda) cc A outer s₀ H₀) e te) (h : te σ H fun _ H1 => H1 a = some (exo a C none) ∧ D.nx σ H1)
    (hst : starEach [e] (supCx P w K mg base ps q (defScope st) f (.ref cda) cc A outer s₀ H₀).env = (false, eval e (supCx P w K mg base ps q (defScope st) f (.ref cda) cc A outer s₀ H₀).env) :: starEach [] (supCx P w K mg base ps q (defScope st) f (.ref cda) cc A outer s₀ H₀).env := by rfl)
    (hev : eval (.Call (.Attribute (.Call (.Name "super" p0) [] [] p1) "__init__" p2) [e] [] p3) (supCx P w K mg base ps q (defScope st) f (.ref cda) cc A outer s₀ H₀).env = (do
      let ov ← attributeBase (.Call (.Name "super" p0) [] [] p1) "__init__" (supCx P w K mg base ps q (defScope st) f (.ref cda) cc A outer s₀ H₀).env (eval (.Call (.Name "super" p0) [] [] p1) (supCx P w K mg base ps q (defScope st) f (.ref cda) cc A outer s₀ H₀).env)
      standAt p2.atName
      let (fx, first) ← holding [ov] (getMethod ov "__init__" pl)
      callWith p3 fx first (backTo p3 (starEach [e] (supCx P w K mg base ps q (defScope st) f (.ref cda) cc A outer s₀ H₀).env)) []) := by rfl)
    (hsw : swapsWith (.Call (.Attribute (.Call (.Name "super" p0) [] [] p1) "__init__" p2) [e] [] p3) none p4.line (supCx P w K mg base ps q (defScope st) f (.ref cda) cc A outer s₀ H₀).env = pure false := by rfl) :
    PySem.wpAt (model P w) (supCx P w K mg base ps q (defScope st) f (.ref cda) cc A outer s₀ H₀).A (.func body (supCx P w K mg base ps q (defScope st) f (.ref cda) cc A outer s₀ H₀).env)
      (exec (.Expr (.Call (.Attribute (.Call (.Name "super" p0) [] [] p1) "__init__" p2) [e] [] p3) p4) (supCx P w K mg base ps q (defScope st) f (.ref cda) cc A outer s₀ H₀).env)
      (SP (supCx P w K mg base ps q (defScope st) f (.ref cda) cc A outer s₀ H₀) pins D) (fun _ _ => False) s := by
  obtain ⟨oc, od, kV, doc, pm, an, ct, osl, lk, hcd⟩ := T.fn
  obtain ⟨ccl, cdd, cvs, ccs, file, tf, lcode, hfile1, hfile2⟩ := T.code
  obtain ⟨cl, cld, csl, lcell⟩ := T.cell
  obtain ⟨nm, qn, N, bs, bm, sn, sub, ab, col, dd, k0, k1, k2, k3, k5, hC, hbm⟩ := T.oex.cls
  obtain ⟨ar, har, hars⟩ := hself
  have KX : K.In s.heap := I.kIn
  have hcl : PySem.W.clsIn K C = some { name := nm, bases := bs, mro := .ref C :: bm, ns := N, qualname := qn, hasDict := true, slotNames := sn, subclasses := sub, abstract := ab, collection := col, hasDel := false } := by unfold PySem.W.clsIn; rw [hC] <;> rfl
  obtain ⟨t1, hx⟩ := exo_at I.hok ha
  refine ks_wpAt_Expr_any (ks_wpAt_MethodCall ?_ hev) (by show (_ && _) = false; rw [show (supCx P w K mg base ps q (defScope st) f (.ref cda) cc A outer s₀ H₀).env.scope.kind = ScopeKind.function from S.kind]; rfl) hsw
  refine ks_wpAt_super_base (env := (supCx P w K mg base ps q (defScope st) f (.ref cda) cc A outer s₀ H₀).env) S.sup S.cls (by decide) rfl (KX _ _ lk) rfl har rfl (KX _ _ lcode) rfl hfile1 hfile2 T.top ?_
  obtain ⟨mb, hb1, hb2⟩ := I.mod.blt
  refine PySem.W.ks_loadName_global S.kind S.sup (Calls.loadGlobal_builtin (env := (supCx P w K mg base ps q (defScope st) f (.ref cda) cc A outer s₀ H₀).env) (I.mod.glob.keeps I.bk) hsup (hb1.keeps I.bk) ((hb2 "super" (by decide)).trans (by first | rfl | decide +kernel | kernel_rfl)) ⟨rfl, ?_⟩)
  refine wpAny_loadName_free S.kind S.cls (show ([(("__class__" : Str), cc)] : List (Str × Addr)).lookup ("__class__" : Str) = some cc by simp [List.lookup]) ⟨_, KX _ _ lcell, rfl⟩ ?_
  obtain ⟨m, hn, hl⟩ := I.loc
  have selfL : (defScope st).names.lookup ("self" : Str) = some .local := S.par _ (List.mem_of_getElem? S.self)
  obtain ⟨u, ru, lu⟩ := hl 0 "self" (.ref a) S.self hσ (.inl selfL)
  obtain rfl : u = Value.ref a := ru
  have hm : m "self" = some (.ref a) := by
    rcases lu with ⟨_, z⟩ | ⟨z, _⟩
    · exact z
    · have z : (defScope st).names.lookup ("self" : Str) = some .cell ∨ (defScope st).names.lookup ("self" : Str) = some .free := z
      rw [selfL] at z
      rcases z with z | z <;> cases z
  rw [hars]
  refine wpAny_loadName_local S.kind selfL hn hm ?_
  obtain ⟨hp, g, d, t, os⟩ := s
  refine ks_wpAny_isType_cls (KX _ _ hC) rfl ⟨rfl, ?_⟩
  refine ks_wpAny_call_super (KX _ _ hC) rfl hx rfl (fun c z => by cases z) (PySem.W.looks_mroIn KX T.sub) (fun h' hso k => ?_)
  have I1 : Inv (supCx P w K mg base ps q (defScope st) f (.ref cda) cc A outer s₀ H₀) pins σ H ⟨h', g, d, t, os⟩ := I.kept (t' := t) k
  have KX1 : K.In h' := I1.kIn
  have hx1 := k _ _ hx
  have J1 : PySem.W.InstAt h' a (PySem.HandSPX.excO C t1) C none := ⟨hx1, rfl, rfl, trivial⟩
  have hI : PySem.W.Looks (model P w) h' (isInstance (.ref a) (.type "ValueError")) true := J1.type.andThen (PySem.W.looks_subIn KX1 T.sVE)
  have hsup2 := T.sup
  unfold PySem.W.ks_superIn at hsup2
  rw [hcl] at hsup2
  refine PySem.W.kxs_getMethod PySem.W.kxs_ValueError hso (PySem.W.looks_opaque KX1 T.opq) (l₀ := .ref C :: bm) (fun A Q E s k q => wpAny_bind ((PySem.W.looks_clsIn KX1 hcl) A _ E s k (wpAny_pure q))) rfl KX1 hsup2 hI (PySem.W.ks_ne KX1 J1 hcl) (by decide) ?_
  have k2 : ∀ b o, h'.get? b = some o → (h'.push (PySem.W.kxs_mw "ValueError.__init__" a)).get? b = some o := fun b o z => Heap.get?_push_of_some _ z
  have hu : (h'.push (PySem.W.kxs_mw "ValueError.__init__" a)).get? h'.objs.size = some (PySem.W.kxs_mw "ValueError.__init__" a) := Heap.get?_push_at rfl rfl
  have I2 : Inv (supCx P w K mg base ps q (defScope st) f (.ref cda) cc A outer s₀ H₀) pins σ H ⟨h'.push (PySem.W.kxs_mw "ValueError.__init__" a), g, d, t + 1, os⟩ := I1.kept (t' := t + 1) k2
  have I3 : Inv (supCx P w K mg base ps q (defScope st) f (.ref cda) cc A outer s₀ H₀) ((h'.objs.size, PySem.W.kxs_mw "ValueError.__init__" a) :: pins) σ H ⟨h'.push (PySem.W.kxs_mw "ValueError.__init__" a), g, d, t + 1, os⟩ := I2.pins_of fun p hp => by
    rcases List.mem_cons.mp hp with rfl | hp
    · refine ⟨hu, I1.hok.fresh (Nat.le_refl _), fun z => ?_, I1.nofs (Nat.le_refl _), fun v z => by cases z⟩
      have y := I1.lt
      rw [← show h'.objs.size = _ from z] at y
      exact absurd y (Nat.lt_irrefl _)
    · exact I2.pin p (List.mem_append_right _ hp)
  refine PySem.W.kxs_callWith (i := "ValueError.__init__") (x := a) (by rw [hst]; rfl) ?_
  rw [hst]
  refine PySem.Calls.evalArgs_plain ?_
  have hA : PA (supCx P w K mg base ps q (defScope st) f (.ref cda) cc A outer s₀ H₀) [e] (tCons te tNil) := pa_cons he pa_nil hst
  have hrun := hA.run p3 ((h'.objs.size, PySem.W.kxs_mw "ValueError.__init__" a) :: pins) _ σ H (fun vs H1 => vs.length = 1 ∧ H1 a = some (exo a C none) ∧ D.nx σ H1) I3
  rw [hst] at hrun
  refine wpAny_mono (hrun ?_) (fun us s3 hus => ?_) fun _ _ z => z
  · have : te σ H (fun x H1 => (tNil σ H1 fun xs H2 => (x :: xs).length = 1 ∧ H2 a = some (exo a C none) ∧ D.nx σ H2)) := by
      refine cast ?_ h
      congr 1
      funext x H1
      show (H1 a = some (exo a C none) ∧ D.nx σ H1) = ([x].length = 1 ∧ H1 a = some (exo a C none) ∧ D.nx σ H1)
      simp
    exact this
  · obtain ⟨vs, H1, I4, rv, hl1, ea, qd⟩ := hus
    have hlen : us.length ≤ sizeLine := by rw [← Paired.length rv, hl1, sizeLine_eq]; decide
    obtain ⟨hu4, _⟩ := I4.pin (h'.objs.size, PySem.W.kxs_mw "ValueError.__init__" a) (List.mem_append_right _ List.mem_cons_self)
    refine ⟨hu4, ?_⟩
    obtain ⟨t4, hx4⟩ := exo_at I4.hok ea
    have KX4 : K.In s3.heap := I4.kIn
    obtain ⟨h3, g3, d3, tk3, os3⟩ := s3
    refine call_mw F.excBase_ValueError (KX4 _ _ hC) hx4 hu4 hlen fun h5 t5 k5' hx5 => ?_
    have I5 := I4.write (t' := tk3) (x := a) (e := a) (o := exo a C none) (by rw [ea]; exact True.intro) (.inl rfl) k5' ⟨_, hx5⟩ (exo_ok hx5)
    have eu : upd H1 a (exo a C none) = H1 := by
      funext b
      by_cases hb : b = a
      · rw [hb, upd_same, ea]
      · rw [upd_ne hb]
    rw [eu] at I5
    exact ⟨σ, H1, I5.pins_of fun p hp => I5.pin p (List.mem_append_right _ (List.mem_cons_of_mem _ hp)), qd⟩
/-- THE RULE for such an __init__: super().__init__(e), then the rest -/
theorem fn_sup {CX : CXT} {C f cc cda : Addr} {st : Stmt} {q : Str} {ps : List Str} {sp : Sp} {k : Nat} {pl : Env → Sem Bool} {e : Expr} {rest : List Stmt} {p0 p1 p2 p3 p4 : Pos} (T : SupC P K C f cc cda st q) (S : SupS ps (defScope st))
    (hself : ∃ ar, ((defArgs st).posonlyargs ++ (defArgs st).args).head? = some ar ∧ ar.arg = "self") (hsup : mg "super" = none)
    (hB : defBody st = .Expr (.Call (.Attribute (.Call (.Name "super" p0) [] [] p1) "__init__" p2) [e] [] p3) p4 :: rest)
    (hbind : ∀ (kV doc pm : Value) (an : Option Addr) (ct : Value) (us : List Value), us.length = ps.length → bindArgs (PySem.W.ksFn "__init__" q (defArgs st) (defBody st) (defScope st) .none kV doc pm an (.ref cda) ct cc) ⟨us, []⟩ = pure (ps.zip us))
    (len : ∀ vs H Q E, sp vs H Q E → vs.length = ps.length)
    (hev : ∀ env : Env, eval (.Call (.Attribute (.Call (.Name "super" p0) [] [] p1) "__init__" p2) [e] [] p3) env = (do
      let ov ← attributeBase (.Call (.Name "super" p0) [] [] p1) "__init__" env (eval (.Call (.Name "super" p0) [] [] p1) env)
      standAt p2.atName
      let (fx, first) ← holding [ov] (getMethod ov "__init__" (pl env))
      callWith p3 fx first (backTo p3 (starEach [e] env)) []))
    (hsw : ∀ env : Env, swapsWith (.Call (.Attribute (.Call (.Name "super" p0) [] [] p1) "__init__" p2) [e] [] p3) none p4.line env = pure false)
    (hst : ∀ env : Env, starEach [e] env = (false, eval e env) :: starEach [] env)
    (hbody : ∀ (A : Around) (outer : List Env) (s : Shared) (H : Hp) (vs : List V) (Q : VK) (E : XK), sp vs H Q E → ∃ (a : Addr) (te : TE) (t : TS), vs[0]? = some (.ref a) ∧ H a = some (exo a C none) ∧
      PE (supCx P w K mg base ps q (defScope st) f (.ref cda) cc A outer s H) e te ∧ PSs (supCx P w K mg base ps q (defScope st) f (.ref cda) cc A outer s H) rest t ∧
      te (vs.map some) H fun _ H1 => H1 a = some (exo a C none) ∧ t { nx := fun _ H' => Q .non H', rt := Q } (vs.map some) H1) :
    ∃ fd : FuncData, FnOk P w K mg base CX (k + 1) f fd ps sp ∧ Binds K fd ps [] := by
  obtain ⟨oc, od, kV, doc, pm, an, ct, osl, lk, hcd⟩ := T.fn
  refine ⟨_, ⟨len, fun A outer s H args us vs Q E hr e0 hb r hsp => ?_⟩, .all (hbind kV doc pm an ct)⟩
  have KX : K.In s.heap := e0.mod.kin.keeps fun b o z => (e0.bs b o z).1
  have lim : s.heap.NoLimit := e0.mod.nolimit.keeps fun b o z => (e0.bs b o z).1
  have hl := len _ _ _ _ hsp
  obtain ⟨a, te, t, hv0, ha, he, hrest, ht⟩ := hbody A outer s H vs Q E hsp
  obtain ⟨cl, cld, csl, lcell⟩ := T.cell
  refine ks_codeAny_call_defAt (fd := PySem.W.ksFn "__init__" q (defArgs st) (defBody st) (defScope st) .none kV doc pm an (.ref cda) ct cc) (body := defBody st) (binds := ps.zip us) hr.depth (KX _ _ lk) rfl lim (PySem.W.codeRec_of KX hcd) rfl hb
    (fun x hx => (S.only x hx).1) (fun x hx => S.par _ (List.of_mem_zip (show (x.1, x.2) ∈ ps.zip us from hx)).1) (fun h₀ hns hk => ?_) S.co S.gen S.kind
  have I : Inv (supCx P w K mg base ps q (defScope st) f (.ref cda) cc A outer s H) [] (vs.map some) H { s with heap := h₀, toks := s.toks + (ps.zip us).length } := sup_start S hr.hd e0 hl r ⟨cl, cld, csl, lcell⟩ hns hk
  show PySem.wpAt (model P w) (supCx P w K mg base ps q (defScope st) f (.ref cda) cc A outer s H).A (.func (defBody st) (supCx P w K mg base ps q (defScope st) f (.ref cda) cc A outer s H).env)
    (execs (defBody st) (supCx P w K mg base ps q (defScope st) f (.ref cda) cc A outer s H).env) _ _ _
  rw [hB]
  refine ks_wpAt_mono (Q := SP (supCx P w K mg base ps q (defScope st) f (.ref cda) cc A outer s H) [] { nx := fun _ H' => Q .non H', rt := Q }) (E := fun _ _ => False) ?_ (fun fl s' hs => ?_) fun _ _ z => z.elim
  · refine ks_wpAt_execs_cons (ks_wpAt_mono (super_stmt (D := { nx := fun σ' H' => t { nx := fun _ H' => Q .non H', rt := Q } σ' H' ∧ σ' = vs.map some, rt := fun _ _ => False }) T S hself hsup I (by rw [List.getElem?_map, hv0]; rfl) ha he ?_ (hst _) (hev _) (hsw _)) (fun fl s' hs => ?_) fun _ _ z => z)
    · refine cast ?_ ht
      congr 1
      funext x H1
      simp
    · cases fl with
      | next =>
        obtain ⟨σ', H', I', q1, _⟩ := hs
        exact wpAt_of_wpAny (hrest.run [] s' σ' H' _ I' q1)
      | brk => obtain ⟨_, _, _, z⟩ := hs; exact z.elim
      | cont => obtain ⟨_, _, _, z⟩ := hs; exact z.elim
      | ret u => obtain ⟨_, _, _, _, _, z⟩ := hs; exact z.elim
  · cases fl with
    | ret u =>
      obtain ⟨v, σ', H', J, rv, q1⟩ := hs
      exact ⟨v, H', J.os, J.bare, J.base, J.hok, rv, q1⟩
    | next =>
      obtain ⟨σ', H', J, q1⟩ := hs
      exact ⟨.non, H', J.os, J.bare, J.base, J.hok, rfl, q1⟩
    | brk => obtain ⟨_, _, _, z⟩ := hs; exact z.elim
    | cont => obtain ⟨_, _, _, z⟩ := hs; exact z.elim
end
end TF


set_option Elab.async false
set_option linter.all false
set_option maxRecDepth 100000
set_option maxHeartbeats 4000000
namespace TF
open PySem PySem.Spec PyProof.Rows L2
abbrev s_BadPoint : Stmt := inClass (topS 3) 0
abbrev s_BadProgram : Stmt := inClass (topS 4) 0
abbrev s_BadStand : Stmt := inClass (topS 5) 0
abbrev s_TooMany : Stmt := inClass (topS 6) 0
theorem ss_BadPoint : SupS ["self", "part"] (defScope s_BadPoint) := ⟨rfl, rfl, rfl, by decide +kernel, by decide +kernel, rfl, rfl, rfl, by decide +kernel⟩
theorem ss_BadProgram : SupS ["self", "part"] (defScope s_BadProgram) := ⟨rfl, rfl, rfl, by decide +kernel, by decide +kernel, rfl, rfl, rfl, by decide +kernel⟩
theorem ss_BadStand : SupS ["self", "part"] (defScope s_BadStand) := ⟨rfl, rfl, rfl, by decide +kernel, by decide +kernel, rfl, rfl, rfl, by decide +kernel⟩
theorem ss_TooMany : SupS ["self", "what", "most"] (defScope s_TooMany) := ⟨rfl, rfl, rfl, by decide +kernel, by decide +kernel, rfl, rfl, rfl, by decide +kernel⟩
/-- the class x, as it stands behind the top; its fields are no attributes of the class -/
structure ExK (P : Program) (K : PySem.W.Frag) (mg : Str → Option Value) (x q : Str) (st : Stmt) (fs : List Str) (C : Addr) : Prop where
  ex : ∃ fI cc cda : Addr, SupC P K C fI cc cda st q
  g : mg x = some (.ref C)
  no : ∀ f ∈ fs, PySem.W.findIn K (.ref C) f = some none
/-- self is being made, its part is y -/
def spBad (C : Addr) (y : Str) : Sp := fun vs H Q _ => ∃ a : Addr, vs = [.ref a, .str y] ∧ H a = some (exo a C none) ∧ ∀ d, H d = none → d ≠ a → Q .non (upd (upd H d (exd d [(("part" : Str), .str y)])) a (exo a C (some d)))
def spMany (C : Addr) : Sp := fun vs H Q _ => ∃ a : Addr, vs = [.ref a, .str "contents", .int 200] ∧ H a = some (exo a C none) ∧
  ∀ d, H d = none → d ≠ a → Q .non (upd (upd (upd H d (exd d [(("what" : Str), .str "contents")])) a (exo a C (some d))) d (exd d [(("most" : Str), .int 200), (("what" : Str), .str "contents")]))
section
variable {P : Program} {w : World} {K : PySem.W.Frag} {mg : Str → Option Value} {base : Heap} {C : Addr}
theorem ok_BadProgram (hsup : mg "super" = none) (E : ExK P K mg "BadProgram" "BadProgram.__init__" s_BadProgram ["part"] C) : ∃ fI fd, PySem.W.findIn K (.ref C) "__init__" = some (some (.ref fI)) ∧ PySem.W.typeIn K (.ref fI) = some (.type "function") ∧ OexC K C ∧ FnOk P w K mg base CX0 1 fI fd ["self", "part"] (spBad C "program") ∧ Binds K fd ["self", "part"] [] := by
  obtain ⟨fI, cc, cda, T⟩ := E.ex
  obtain ⟨fd, F, b⟩ := fn_sup (P := P) (w := w) (mg := mg) (base := base) (CX := CX0) (k := 0) (sp := spBad C "program") T ss_BadProgram ⟨_, rfl, rfl⟩ hsup rfl (fun _ _ _ _ _ us hl => match us, hl with | [_, _], _ => rfl) (fun vs H Q E h => by obtain ⟨a, rfl, _⟩ := h; rfl)
    (fun _ => rfl) (fun _ => rfl) (fun _ => rfl) (fun A outer s H vs Q E' h => by
      obtain ⟨a, rfl, ha, q⟩ := h
      refine ⟨a, _, _, rfl, ha, pe_joined (.cons pe_str (.cons (pe_fmt (pv 1)) .nil)), pss_one (ps_ost (pv 0) (pv 1)), ?_⟩
      refine ⟨_, rfl, by decide +kernel, _, rfl, .inl ⟨_, rfl, by decide +kernel, _, rfl, by decide +kernel, ha, ?_⟩⟩
      exact ⟨_, rfl, _, rfl, a, C, rfl, T.oex, E.no _ (by simp), .inl ⟨ha, fun d hd hne => q d hd hne⟩⟩)
  exact ⟨fI, fd, T.ini, T.tI, T.oex, F, b⟩
theorem ok_BadPoint (hsup : mg "super" = none) (E : ExK P K mg "BadPoint" "BadPoint.__init__" s_BadPoint ["part"] C) : ∃ fI fd, PySem.W.findIn K (.ref C) "__init__" = some (some (.ref fI)) ∧ PySem.W.typeIn K (.ref fI) = some (.type "function") ∧ OexC K C ∧ FnOk P w K mg base CX0 1 fI fd ["self", "part"] (spBad C "point") ∧ Binds K fd ["self", "part"] [] := by
  obtain ⟨fI, cc, cda, T⟩ := E.ex
  obtain ⟨fd, F, b⟩ := fn_sup (P := P) (w := w) (mg := mg) (base := base) (CX := CX0) (k := 0) (sp := spBad C "point") T ss_BadPoint ⟨_, rfl, rfl⟩ hsup rfl (fun _ _ _ _ _ us hl => match us, hl with | [_, _], _ => rfl) (fun vs H Q E h => by obtain ⟨a, rfl, _⟩ := h; rfl)
    (fun _ => rfl) (fun _ => rfl) (fun _ => rfl) (fun A outer s H vs Q E' h => by
      obtain ⟨a, rfl, ha, q⟩ := h
      refine ⟨a, _, _, rfl, ha, pe_joined (.cons pe_str (.cons (pe_fmt (pv 1)) .nil)), pss_one (ps_ost (pv 0) (pv 1)), ?_⟩
      refine ⟨_, rfl, by decide +kernel, _, rfl, .inl ⟨_, rfl, by decide +kernel, _, rfl, by decide +kernel, ha, ?_⟩⟩
      exact ⟨_, rfl, _, rfl, a, C, rfl, T.oex, E.no _ (by simp), .inl ⟨ha, fun d hd hne => q d hd hne⟩⟩)
  exact ⟨fI, fd, T.ini, T.tI, T.oex, F, b⟩
theorem ok_BadStand (hsup : mg "super" = none) (E : ExK P K mg "BadStand" "BadStand.__init__" s_BadStand ["part"] C) : ∃ fI fd, PySem.W.findIn K (.ref C) "__init__" = some (some (.ref fI)) ∧ PySem.W.typeIn K (.ref fI) = some (.type "function") ∧ OexC K C ∧ FnOk P w K mg base CX0 1 fI fd ["self", "part"] (spBad C "stand") ∧ Binds K fd ["self", "part"] [] := by
  obtain ⟨fI, cc, cda, T⟩ := E.ex
  obtain ⟨fd, F, b⟩ := fn_sup (P := P) (w := w) (mg := mg) (base := base) (CX := CX0) (k := 0) (sp := spBad C "stand") T ss_BadStand ⟨_, rfl, rfl⟩ hsup rfl (fun _ _ _ _ _ us hl => match us, hl with | [_, _], _ => rfl) (fun vs H Q E h => by obtain ⟨a, rfl, _⟩ := h; rfl)
    (fun _ => rfl) (fun _ => rfl) (fun _ => rfl) (fun A outer s H vs Q E' h => by
      obtain ⟨a, rfl, ha, q⟩ := h
      refine ⟨a, _, _, rfl, ha, pe_joined (.cons pe_str (.cons (pe_fmt (pv 1)) .nil)), pss_one (ps_ost (pv 0) (pv 1)), ?_⟩
      refine ⟨_, rfl, by decide +kernel, _, rfl, .inl ⟨_, rfl, by decide +kernel, _, rfl, by decide +kernel, ha, ?_⟩⟩
      exact ⟨_, rfl, _, rfl, a, C, rfl, T.oex, E.no _ (by simp), .inl ⟨ha, fun d hd hne => q d hd hne⟩⟩)
  exact ⟨fI, fd, T.ini, T.tI, T.oex, F, b⟩
theorem ok_TooMany (hsup : mg "super" = none) (E : ExK P K mg "TooMany" "TooMany.__init__" s_TooMany ["what", "most"] C) : ∃ fI fd, PySem.W.findIn K (.ref C) "__init__" = some (some (.ref fI)) ∧ PySem.W.typeIn K (.ref fI) = some (.type "function") ∧ OexC K C ∧ FnOk P w K mg base CX0 1 fI fd ["self", "what", "most"] (spMany C) ∧ Binds K fd ["self", "what", "most"] [] := by
  obtain ⟨fI, cc, cda, T⟩ := E.ex
  obtain ⟨fd, F, b⟩ := fn_sup (P := P) (w := w) (mg := mg) (base := base) (CX := CX0) (k := 0) (sp := spMany C) T ss_TooMany ⟨_, rfl, rfl⟩ hsup rfl (fun _ _ _ _ _ us hl => match us, hl with | [_, _, _], _ => rfl) (fun vs H Q E h => by obtain ⟨a, rfl, _⟩ := h; rfl)
    (fun _ => rfl) (fun _ => rfl) (fun _ => rfl) (fun A outer s H vs Q E' h => by
      obtain ⟨a, rfl, ha, q⟩ := h
      refine ⟨a, _, _, rfl, ha, pe_joined (.cons (pe_fmt (pv 1)) (.cons pe_str (.cons (pe_fmt (pv 2)) .nil))), pss_cons (ps_ost (pv 0) (pv 1)) (pss_one (ps_ost (pv 0) (pv 2))), ?_⟩
      refine ⟨_, rfl, .inl ⟨_, rfl, by decide +kernel, _, rfl, by decide +kernel, _, rfl, by decide +kernel, _, rfl, .inr ⟨200, rfl, by decide +kernel, _, rfl, by decide +kernel, ha, ?_⟩⟩⟩
      refine ⟨_, rfl, _, rfl, a, C, rfl, T.oex, E.no _ (by simp), .inl ⟨ha, fun d hd hne => ⟨_, rfl, _, rfl, a, C, rfl, T.oex, E.no _ (by simp), .inr ⟨d, _, upd_same, ?_, by decide, q d hd hne⟩⟩⟩⟩
      rw [upd_ne hne, upd_same])
  exact ⟨fI, fd, T.ini, T.tI, T.oex, F, b⟩
/-! ### C(e, ..) as what is raised -/
theorem upd_del {H1 : Hp} {a d : Addr} {o1 o2 o3 o4 : HO} (hna : H1 a = none) (hne : d ≠ a) : upd (del (upd (upd (upd H1 a o1) d o2) a o3) a) d o4 = upd H1 d o4 := by
  funext b
  by_cases hb : b = d
  · rw [hb, upd_same, upd_same]
  · rw [upd_ne hb, upd_ne hb]
    by_cases h2 : b = a
    · rw [h2, del_same, hna]
    · rw [del_ne h2, upd_ne h2, upd_ne hb, upd_ne h2]
theorem upd_del2 {H1 : Hp} {a d : Addr} {o1 o2 o3 o4 o5 : HO} (hna : H1 a = none) (hne : d ≠ a) : upd (del (upd (upd (upd (upd H1 a o1) d o2) a o3) d o5) a) d o4 = upd H1 d o4 := by
  funext b
  by_cases hb : b = d
  · rw [hb, upd_same, upd_same]
  · rw [upd_ne hb, upd_ne hb]
    by_cases h2 : b = a
    · rw [h2, del_same, hna]
    · rw [del_ne h2, upd_ne hb, upd_ne h2, upd_ne hb, upd_ne h2]
end
section
variable {X : Cx}
/-- what the raise of such an error wants: it is new, its dict holds fs -/
def tMkE (C : Addr) (vs : List V) (fs : List (Str × V)) (ta : TA) : L2.St → Hp → XK → Prop := fun σ H Q => ta σ H fun us H1 => us = vs ∧ ∀ d, H1 d = none → Q (.ref C) (some d) (upd H1 d (.xd fs))
theorem pa_mono {es : List Expr} {ta : TA} (h : PA X es ta) : PA X es (fun σ H Q => ∃ R : List V → Hp → Prop, ta σ H R ∧ ∀ us H1, R us H1 → Q us H1) :=
  ⟨fun pos pins s σ H Q I ⟨R, hR, hq⟩ => thn (h.run pos pins s σ H R I hR) fun us s1 ⟨vs, H1, I1, r, q⟩ => ⟨vs, H1, I1, r, hq _ _ q⟩⟩
theorem pmk_bad1 {C fI : Addr} {fd : FuncData} {x y : Str} {e : Expr} {es : List Expr} {ta : TA} {p pos : Pos} (iC : PySem.W.findIn X.K (.ref C) "__init__" = some (some (.ref fI))) (tI : PySem.W.typeIn X.K (.ref fI) = some (.type "function")) (T : OexC X.K C)
    (F : FnOk X.prog X.w X.K X.mg X.base CX0 1 fI fd ["self", "part"] (spBad C y)) (b : Binds X.K fd ["self", "part"] []) (hr : Room 2 X.A) (hm : X.mg x = some (.ref C)) (ha : PA X (e :: es) ta) (hg : Gl X x := by rfl)
    (hdb : (x == ("__debug__" : Str)) = false := by decide) (he : starEach (e :: es) X.env = (false, eval e X.env) :: starEach es X.env := by rfl) (hpl : (backTo pos (starEach es X.env)).any (·.1) = false := by rfl) :
    PMk X (.Call (.Name x p) (e :: es) [] pos) (tMkE C [.str y] [(("part" : Str), .str y)] ta) := by
  intro pins s σ H Q I h
  refine pmk_oex T iC tI F hr b .nil pass0 hg hm (pa_mono ha) hdb he hpl pins s σ H Q I ⟨_, h, fun us H1 ⟨e1, q⟩ => ?_⟩
  subst e1
  refine ⟨(by show 1 ≤ 1000; decide), fun a na => ⟨a, rfl, upd_same, fun d nd hda => ⟨rfl, d, [("part", .str y)], upd_same, ?_, ?_, ?_⟩⟩⟩
  · rw [upd_ne hda, upd_same]
  · rw [upd_ne hda] at nd; exact nd
  · rw [upd_del na hda]
    rw [upd_ne hda] at nd
    exact q d nd
theorem pmk_many1 {C fI : Addr} {fd : FuncData} {x : Str} {e : Expr} {es : List Expr} {ta : TA} {p pos : Pos} (iC : PySem.W.findIn X.K (.ref C) "__init__" = some (some (.ref fI))) (tI : PySem.W.typeIn X.K (.ref fI) = some (.type "function")) (T : OexC X.K C)
    (F : FnOk X.prog X.w X.K X.mg X.base CX0 1 fI fd ["self", "what", "most"] (spMany C)) (b : Binds X.K fd ["self", "what", "most"] []) (hr : Room 2 X.A) (hm : X.mg x = some (.ref C)) (ha : PA X (e :: es) ta) (hg : Gl X x := by rfl)
    (hdb : (x == ("__debug__" : Str)) = false := by decide) (he : starEach (e :: es) X.env = (false, eval e X.env) :: starEach es X.env := by rfl) (hpl : (backTo pos (starEach es X.env)).any (·.1) = false := by rfl) :
    PMk X (.Call (.Name x p) (e :: es) [] pos) (tMkE C [.str "contents", .int 200] [(("most" : Str), .int 200), (("what" : Str), .str "contents")] ta) := by
  intro pins s σ H Q I h
  refine pmk_oex T iC tI F hr b .nil pass0 hg hm (pa_mono ha) hdb he hpl pins s σ H Q I ⟨_, h, fun us H1 ⟨e1, q⟩ => ?_⟩
  subst e1
  refine ⟨by decide, fun a na => ⟨a, rfl, upd_same, fun d nd hda => ⟨rfl, d, _, ?_, upd_same, ?_, ?_⟩⟩⟩
  · rw [upd_ne (Ne.symm hda), upd_same]
  · rw [upd_ne hda] at nd; exact nd
  · rw [upd_del2 na hda]
    rw [upd_ne hda] at nd
    exact q d nd
/-- the four classes, for the rules -/
structure Errs (P : Program) (K : PySem.W.Frag) (mg : Str → Option Value) (CP CG CS CM : Addr) : Prop where
  sup : mg "super" = none
  pt : ExK P K mg "BadPoint" "BadPoint.__init__" s_BadPoint ["part"] CP
  pg : ExK P K mg "BadProgram" "BadProgram.__init__" s_BadProgram ["part"] CG
  sd : ExK P K mg "BadStand" "BadStand.__init__" s_BadStand ["part"] CS
  mn : ExK P K mg "TooMany" "TooMany.__init__" s_TooMany ["what", "most"] CM
section
variable {CP CG CS CM : Addr} {e : Expr} {es : List Expr} {ta : TA} {p pos : Pos}
theorem pmk_BadPoint (E : Errs X.prog X.K X.mg CP CG CS CM) (hr : Room 2 X.A) (ha : PA X (e :: es) ta) (hg : Gl X "BadPoint" := by rfl) (he : starEach (e :: es) X.env = (false, eval e X.env) :: starEach es X.env := by rfl) (hpl : (backTo pos (starEach es X.env)).any (·.1) = false := by rfl) :
    PMk X (.Call (.Name "BadPoint" p) (e :: es) [] pos) (tMkE CP [.str "point"] [(("part" : Str), .str "point")] ta) := by
  obtain ⟨fI, fd, iC, tI, T, F, b⟩ := ok_BadPoint (w := X.w) (base := X.base) E.sup E.pt
  exact pmk_bad1 iC tI T F b hr E.pt.g ha hg (by decide) he hpl
theorem pmk_BadProgram (E : Errs X.prog X.K X.mg CP CG CS CM) (hr : Room 2 X.A) (ha : PA X (e :: es) ta) (hg : Gl X "BadProgram" := by rfl) (he : starEach (e :: es) X.env = (false, eval e X.env) :: starEach es X.env := by rfl) (hpl : (backTo pos (starEach es X.env)).any (·.1) = false := by rfl) :
    PMk X (.Call (.Name "BadProgram" p) (e :: es) [] pos) (tMkE CG [.str "program"] [(("part" : Str), .str "program")] ta) := by
  obtain ⟨fI, fd, iC, tI, T, F, b⟩ := ok_BadProgram (w := X.w) (base := X.base) E.sup E.pg
  exact pmk_bad1 iC tI T F b hr E.pg.g ha hg (by decide) he hpl
theorem pmk_BadStand (E : Errs X.prog X.K X.mg CP CG CS CM) (hr : Room 2 X.A) (ha : PA X (e :: es) ta) (hg : Gl X "BadStand" := by rfl) (he : starEach (e :: es) X.env = (false, eval e X.env) :: starEach es X.env := by rfl) (hpl : (backTo pos (starEach es X.env)).any (·.1) = false := by rfl) :
    PMk X (.Call (.Name "BadStand" p) (e :: es) [] pos) (tMkE CS [.str "stand"] [(("part" : Str), .str "stand")] ta) := by
  obtain ⟨fI, fd, iC, tI, T, F, b⟩ := ok_BadStand (w := X.w) (base := X.base) E.sup E.sd
  exact pmk_bad1 iC tI T F b hr E.sd.g ha hg (by decide) he hpl
theorem pmk_TooMany (E : Errs X.prog X.K X.mg CP CG CS CM) (hr : Room 2 X.A) (ha : PA X (e :: es) ta) (hg : Gl X "TooMany" := by rfl) (he : starEach (e :: es) X.env = (false, eval e X.env) :: starEach es X.env := by rfl) (hpl : (backTo pos (starEach es X.env)).any (·.1) = false := by rfl) :
    PMk X (.Call (.Name "TooMany" p) (e :: es) [] pos) (tMkE CM [.str "contents", .int 200] [(("most" : Str), .int 200), (("what" : Str), .str "contents")] ta) := by
  obtain ⟨fI, fd, iC, tI, T, F, b⟩ := ok_TooMany (w := X.w) (base := X.base) E.sup E.mn
  exact pmk_many1 iC tI T F b hr E.mn.g ha hg (by decide) he hpl
end
end
end TF


set_option Elab.async false
set_option linter.all false
set_option maxRecDepth 100000
set_option maxHeartbeats 4000000
namespace TF
open PySem PySem.Spec PyProof.Rows L2
/-! ### defs with a default -/
def HasD (P : Program) (w : World) (K : PySem.W.Frag) (mg : Str → Option Value) (base : Heap) (CX : CXT) (k : Nat) (x : Str) (ps : List Str) (dvs : List V) (sp : Sp) : Prop :=
  ∃ (f : Addr) (fd : FuncData) (ds : List Value), mg x = some (.ref f) ∧ PySem.W.keepIn K (.ref f) = true ∧ Binds K fd ps ds ∧ Vals dvs ds ∧ FnOk P w K mg base CX k f fd ps sp
structure Dd (K : PySem.W.Frag) (mg : Str → Option Value) (x : Str) (st : Stmt) (ps : List Str) (dvs : List V) : Prop where
  ex : ∃ (f : Addr) (fd : FuncData) (ds : List Value), FunD K x x (defArgs st) (defBody st) (defScope st) dvs [] f fd ∧ mg x = some (.ref f) ∧ Binds K fd ps ds ∧ Vals dvs ds
theorem Dd.okX {P : Program} {w : World} {K : PySem.W.Frag} {mg : Str → Option Value} {base : Heap} {x : Str} {st : Stmt} {N ps : List Str} {dvs : List V} {k : Nat} {sp : Sp} (D : Dd K mg x st ps dvs) (S : FnScope N ps (defScope st)) (len : ∀ vs H Q E, sp vs H Q E → vs.length = ps.length)
    (hbody : ∀ (f : Addr) (cdv : Value) (A : Around) (outer : List Env) (s : Shared) (H : Hp) (vs : List V) (Q : VK) (E : XK), Room k (A.deeper (envOfC x (defScope st) s.heap.objs.size f cdv)) → sp vs H Q E →
      ∃ t, PSs (cxOf (L2.CX P w) P w K mg base N x (defScope st) f cdv A outer s H E) (defBody st) t ∧ t { nx := fun _ H' => Q .non H', rt := Q } (start N vs) H) : HasD P w K mg base (L2.CX P w) (k + 1) x ps dvs sp := by
  obtain ⟨f, fd, ds, F, g, b, v⟩ := D.ex
  exact ⟨f, fd, ds, g, F.kp, b, v, F.ok S len (hbody f)⟩
section
variable {X : Cx} {CX : CXT} {k : Nat} {ps : List Str} {dvs : List V} {sp : Sp} {E : XK} {x : Str} {p pos : Pos} {e : Expr} {es : List Expr} {t : TA}
theorem pe_hd (h : HasD X.prog X.w X.K X.mg X.base CX k x ps dvs sp) (hr : Room k X.A) (hx : Passes CX X E) (ha : PA X (e :: es) t) (hg : Gl X x := by rfl)
    (hdb : (x == ("__debug__" : Str)) = false := by decide) (he : starEach (e :: es) X.env = (false, eval e X.env) :: starEach es X.env := by rfl) (hpl : (backTo pos (starEach es X.env)).any (·.1) = false := by rfl) :
    PE X (.Call (.Name x p) (e :: es) [] pos) (tCall sp dvs E t) := by
  obtain ⟨f, fd, ds, g, kp, b, v, F⟩ := h
  exact pe_call F hr hg g kp b v hx ha hdb he hpl
theorem pi_or {tg l : Expr} {w1 w2 : TI} (h1 : PI X tg l w1) (h2 : PI X tg l w2) : PI X tg l (fun σ H R => w1 σ H R ∨ w2 σ H R) :=
  ⟨fun pins s σ H R I h => h.elim (h1.run pins s σ H R I) (h2.run pins s σ H R I)⟩
end
/-! ### the class Program -/
structure PgK (K : PySem.W.Frag) (mg : Str → Option Value) (CP : Addr) : Prop where
  cl : Cls K CP
  nL : NoAttr K CP "lines"
  g : mg "Program" = some (.ref CP)
  ha : PySem.W.findIn K (.ref CP) "__class__" = some (some (.builtin "object.__class__"))
  hn : PySem.W.specialIn K (.builtin "object.__class__") "__get__" = some (some (.builtin "getset_descriptor.__get__"))
  ht : PySem.W.takesIn K (.builtin "object.__class__") = some true
  hm : PySem.W.mroIn K CP (.type "object") = some true
  kS : PySem.W.kitOne K (.ref CP) (.ref CP) = some true
  k1 : PySem.W.kitOne K (.type "NoneType") (.ref CP) = some false
  k2 : PySem.W.kitOne K (.type "int") (.ref CP) = some false
  k3 : PySem.W.kitOne K (.type "list") (.ref CP) = some false
  k4 : PySem.W.kitOne K (.type "str") (.ref CP) = some false
  k5 : PySem.W.kitOne K (.type "bool") (.ref CP) = some false
/-- a program of n lines stands at a -/
def ProgAt (CP : Addr) (H : Hp) (a : Addr) (n : Nat) : Prop := ∃ (dx lt : Addr) (xs : List V), H a = some (.ins CP dx [(("lines" : Str), .ref lt)]) ∧ H lt = some (.tup xs) ∧ xs.length = n
theorem ProgAt.same {CP : Addr} {H H' : Hp} {a : Addr} {n : Nat} (h : ProgAt CP H a n) (s : Same H H') : ProgAt CP H' a n := by
  obtain ⟨dx, lt, xs, h1, h2, h3⟩ := h
  exact ⟨dx, lt, xs, s _ _ h1, s _ _ h2, h3⟩
theorem look_lines (v : V) : List.lookup ("lines" : Str) [(("lines" : Str), v)] = some v := by simp [List.lookup]
/-- v is no program -/
inductive NoProg (K : PySem.W.Frag) (H : Hp) : V → Prop where
  | non : NoProg K H .non
  | int (i : Int) : NoProg K H (.int i)
  | bl (b : Bool) : NoProg K H (.bl b)
  | str (x : Str) : NoProg K H (.str x)
  | lst {a : Addr} {xs : List V} (h : SqL K H a xs) : NoProg K H (.ref a)
/-- v is a list or tuple of the values xs -/
def Seq (K : PySem.W.Frag) (H : Hp) (v : V) (xs : List V) : Prop := ∃ q, v = .ref q ∧ (SqL K H q xs ∨ SqT K H q xs)
theorem Seq.ty {K : PySem.W.Frag} {H : Hp} {v : V} {xs : List V} (h : Seq K H v xs) : ∃ n, VTy K H v n ∧ (n == "list" || n == "tuple") = true := by
  obtain ⟨q, rfl, h | h⟩ := h
  · exact ⟨_, .lst h, rfl⟩
  · exact ⟨_, .tup h, rfl⟩
theorem Seq.same {K : PySem.W.Frag} {H H' : Hp} {v : V} {xs : List V} (h : Seq K H v xs) (s : Same H H') : Seq K H' v xs := by
  obtain ⟨q, rfl, h | h⟩ := h
  · exact ⟨q, rfl, .inl (s.seq h)⟩
  · exact ⟨q, rfl, .inr (sqT_same s h)⟩
theorem Seq.ix {K : PySem.W.Frag} {H : Hp} {v : V} {xs : List V} {j : Nat} {x : V} {Q : VK} (h : Seq K H v xs) (hx : xs[j]? = some x) (q : Q x H) : rIx K v (.int j) H Q := by
  obtain ⟨p, rfl, h | h⟩ := h
  · exact .inl ⟨p, xs, j, x, rfl, rfl, h, atI_nat hx, q⟩
  · exact .inr (.inl ⟨p, xs, j, x, rfl, rfl, h, atI_nat hx, q⟩)
theorem Seq.len {K : PySem.W.Frag} {H : Hp} {v : V} {xs : List V} (h : Seq K H v xs) : ∃ p ys, [v] = [V.ref p] ∧ (SqL K H p ys ∨ SqT K H p ys) ∧ ys = xs := by
  obtain ⟨q, rfl, h⟩ := h
  exact ⟨q, xs, rfl, h, rfl⟩
/-! ### a comprehension that maps: each item's value is known -/
/-- what a turn shows: the element is y, all that stands stays -/
def LcTurn (j : Nat) (te : TE) (vs : List Nat) (σ : L2.St) (H : Hp) (xs ys : List V) : Prop := ∀ (D : Addr) (i : Nat) (x y : V) (H' : Hp) (Qk : VK), xs[i]? = some x → ys[i]? = some y → Same H H' → (∀ H4, Same H' H4 → Qk y H4) →
  wipe ((wipe σ vs).set j (some x)) vs = wipe σ vs ∧ te ((wipe σ vs).set j (some x)) H' Qk
def LcP (H : Hp) (D : Addr) (ys : List V) (i : Nat) (H' : Hp) : Prop := Same H H' ∧ H' D = some (.lst (ys.take i)) ∧ H D = none
theorem lcP0 {H : Hp} {D : Addr} {ys : List V} (h : H D = none) : LcP H D ys 0 (upd H D (.lst [])) := ⟨same_upd h, upd_same, h⟩
theorem lc_turn {j : Nat} {te : TE} {vs : List Nat} {σ : L2.St} {H H' : Hp} {xs ys : List V} {D : Addr} {i : Nat} {x : V}
    (hl : ys.length = xs.length) (hz : xs.length < 1000) (T : LcTurn j te vs σ H xs ys) (hx : xs[i]? = some x) (p : LcP H D ys i H') :
    gName j x (wipe σ vs) H' fun σ2 H2 => wipe σ2 vs = wipe σ vs ∧ tYes σ2 H2 fun b H3 => if b = true then te σ2 H3 fun y H4 => ∃ acc, H4 D = some (.lst acc) ∧ acc.length < sizeLine ∧ LcP H D ys (i + 1) (upd H4 D (.lst (acc ++ [y]))) else LcP H D ys (i + 1) H3 := by
  obtain ⟨s1, e1, n1⟩ := p
  have hi : i < xs.length := (List.getElem?_eq_some_iff.mp hx).1
  have hy : ys[i]? = some ys[i] := List.getElem?_eq_getElem (by omega)
  obtain ⟨ew, q⟩ := T D i x ys[i] H' (fun y H4 => ∃ acc, H4 D = some (.lst acc) ∧ acc.length < sizeLine ∧ LcP H D ys (i + 1) (upd H4 D (.lst (acc ++ [y])))) hx hy s1 fun H4 s4 => by
    refine ⟨ys.take i, s4 _ _ e1, small1000 (by rw [List.length_take]; omega), fun b o z => ?_, ?_, n1⟩
    · rw [upd_ne (ne_of_none z n1)]
      exact s4 _ _ (s1 _ _ z)
    · rw [upd_same, List.take_add_one, hy]
      rfl
  exact ⟨ew, iteT (B := LcP H D ys (i + 1) H') q⟩
section
variable {K : PySem.W.Frag} {j : Nat} {te : TE} {vs : List Nat} {σ : L2.St} {H : Hp} {QD : Addr → Hp → Prop} {xs ys : List V} {a : Addr}
theorem lcmap_list (h : SqL K H a xs) (hl : ys.length = xs.length) (hz : xs.length < 1000) (T : LcTurn j te vs σ H xs ys) (hd : ∀ D H', Same H H' → H' D = some (.lst ys) → H D = none → QD D H') :
    ∀ D, H D = none → ∃ W : Nat → Nat → Hp → Prop, (∃ m, W 0 m (upd H D (.lst []))) ∧ ∀ i m H, W i m H →
      ((Itl K a).stop i H ∧ QD D H) ∨ ((Itl K a).go i H ∧ ∃ Nx : Hp → Prop, (∀ H', Nx H' → ∃ m', m' < m ∧ W (i + 1) m' H') ∧ ∀ x H', (Itl K a).yld i H x H' → gName j x (wipe σ vs) H' fun σ2 H2 => wipe σ2 vs = wipe σ vs ∧ tYes σ2 H2 fun b H3 =>
        if b = true then te σ2 H3 fun y H4 => ∃ acc, H4 D = some (.lst acc) ∧ acc.length < sizeLine ∧ Nx (upd H4 D (.lst (acc ++ [y]))) else Nx H3) := fun D nD =>
  lc_list (LcP H D ys) (lcP0 nD) (fun i H' _ p => p.1.seq h) (fun i x H' hx p => lc_turn hl hz T hx p) (fun H' p => hd D H' p.1 (by rw [p.2.1, ← hl, List.take_length]) nD)
theorem lcmap_tup (h : SqT K H a xs) (hl : ys.length = xs.length) (hz : xs.length < 1000) (T : LcTurn j te vs σ H xs ys) (hd : ∀ D H', Same H H' → H' D = some (.lst ys) → H D = none → QD D H') :
    ∀ D, H D = none → ∃ W : Nat → Nat → Hp → Prop, (∃ m, W 0 m (upd H D (.lst []))) ∧ ∀ i m H, W i m H →
      ((Itt K a).stop i H ∧ QD D H) ∨ ((Itt K a).go i H ∧ ∃ Nx : Hp → Prop, (∀ H', Nx H' → ∃ m', m' < m ∧ W (i + 1) m' H') ∧ ∀ x H', (Itt K a).yld i H x H' → gName j x (wipe σ vs) H' fun σ2 H2 => wipe σ2 vs = wipe σ vs ∧ tYes σ2 H2 fun b H3 =>
        if b = true then te σ2 H3 fun y H4 => ∃ acc, H4 D = some (.lst acc) ∧ acc.length < sizeLine ∧ Nx (upd H4 D (.lst (acc ++ [y]))) else Nx H3) := fun D nD =>
  lc_tup (LcP H D ys) (lcP0 nD) (fun i H' _ p => sqT_same p.1 h) (fun i x H' hx p => lc_turn hl hz T hx p) (fun H' p => hd D H' p.1 (by rw [p.2.1, ← hl, List.take_length]) nD)
theorem lcmap_seq {i0 : Nat} {v : V} (hσ : σ[i0]? = some (some v)) (h : Seq K H v xs) (hl : ys.length = xs.length) (hz : xs.length < 1000) (T : LcTurn j te vs σ H xs ys) (hd : ∀ D H', Same H H' → H' D = some (.lst ys) → H D = none → QD D H') :
    (iList K (tVar i0) σ H fun J H1 => ∀ D, H1 D = none → ∃ W : Nat → Nat → Hp → Prop, (∃ m, W 0 m (upd H1 D (.lst []))) ∧ ∀ i m H, W i m H →
      (J.stop i H ∧ QD D H) ∨ (J.go i H ∧ ∃ Nx : Hp → Prop, (∀ H', Nx H' → ∃ m', m' < m ∧ W (i + 1) m' H') ∧ ∀ x H', J.yld i H x H' → gName j x (wipe σ vs) H' fun σ2 H2 => wipe σ2 vs = wipe σ vs ∧ tYes σ2 H2 fun b H3 =>
        if b = true then te σ2 H3 fun y H4 => ∃ acc, H4 D = some (.lst acc) ∧ acc.length < sizeLine ∧ Nx (upd H4 D (.lst (acc ++ [y]))) else Nx H3)) ∨
    (iTup K (tVar i0) σ H fun J H1 => ∀ D, H1 D = none → ∃ W : Nat → Nat → Hp → Prop, (∃ m, W 0 m (upd H1 D (.lst []))) ∧ ∀ i m H, W i m H →
      (J.stop i H ∧ QD D H) ∨ (J.go i H ∧ ∃ Nx : Hp → Prop, (∀ H', Nx H' → ∃ m', m' < m ∧ W (i + 1) m' H') ∧ ∀ x H', J.yld i H x H' → gName j x (wipe σ vs) H' fun σ2 H2 => wipe σ2 vs = wipe σ vs ∧ tYes σ2 H2 fun b H3 =>
        if b = true then te σ2 H3 fun y H4 => ∃ acc, H4 D = some (.lst acc) ∧ acc.length < sizeLine ∧ Nx (upd H4 D (.lst (acc ++ [y]))) else Nx H3)) := by
  obtain ⟨q, rfl, h | h⟩ := h
  · exact .inl ⟨_, hσ, q, rfl, ⟨_, h⟩, lcmap_list h hl hz T hd⟩
  · exact .inr ⟨_, hσ, q, rfl, ⟨_, h⟩, lcmap_tup h hl hz T hd⟩
end
section
variable {P : Program} {w : World} {K : PySem.W.Frag} {mg : Str → Option Value} {base : Heap} {CP CT CG CS CM : Addr}
def spNeedProg (K : PySem.W.Frag) (CP CG : Addr) : Sp := fun vs H Q E => ∃ v : V, vs = [v, .str "program"] ∧ ((∃ a n, v = .ref a ∧ ProgAt CP H a n ∧ Q .non H) ∨ (NoProg K H v ∧ ∀ d, H d = none → E (.ref CG) (some d) (upd H d (.xd [(("part" : Str), .str "program")]))))
theorem ok_need_program (B : Bz mg) (PG : PgK K mg CP) (ER : Errs P K mg CT CG CS CM) (D : Dd K mg "need_program" s_need_program p_need_program [.str "program"]) : HasD P w K mg base (L2.CX P w) 3 "need_program" p_need_program [.str "program"] (spNeedProg K CP CG) := by
  refine D.okX sc_need_program (fun vs H Q E h => ?_) (fun f cdv A outer s H vs Q E hr h => ?_)
  · obtain ⟨v, rfl, _⟩ := h
    rfl
  · obtain ⟨v, rfl, h⟩ := h
    refine ⟨_, (pss_one (ps_if (pt_not (pt_val (pe_callB call_isi (by rfl) B.isi (by decide +kernel) (pa_cons (pv 0) (pa_cons (pe_glob (v := .ref CP) (by rfl) PG.g rfl) pa_nil)))))
      (pss_one (ps_raise rfl (takes_of rfl rfl rfl rfl) (pmk_BadProgram ER (hr.mono (by decide)) (pa_cons (pv 1) pa_nil))))
      pss_nil)), ?_⟩
    rcases h with ⟨a, n, rfl, ⟨dx, lt, xs, h1, h2, h3⟩, q⟩ | ⟨hno, q⟩
    · exact ⟨_, rfl, _, _, _, _, true, rfl, .own _, .base (.ins h1 PG.cl PG.ha PG.hn PG.ht PG.hm), PG.kS, _, rfl, iteF q⟩
    · cases hno with
      | non => exact ⟨_, rfl, _, _, _, _, false, rfl, .own _, VTy.non.tyx, PG.k1, _, rfl, iteT ⟨_, rfl, rfl, q⟩⟩
      | int i => exact ⟨_, rfl, _, _, _, _, false, rfl, .own _, (VTy.int i).tyx, PG.k2, _, rfl, iteT ⟨_, rfl, rfl, q⟩⟩
      | bl b => exact ⟨_, rfl, _, _, _, _, false, rfl, .own _, (VTy.bl b).tyx, PG.k5, _, rfl, iteT ⟨_, rfl, rfl, q⟩⟩
      | str x => exact ⟨_, rfl, _, _, _, _, false, rfl, .own _, (VTy.str x).tyx, PG.k4, _, rfl, iteT ⟨_, rfl, rfl, q⟩⟩
      | lst hl => exact ⟨_, rfl, _, _, _, _, false, rfl, .own _, (VTy.lst hl).tyx, PG.k3, _, rfl, iteT ⟨_, rfl, rfl, q⟩⟩
/-- what need_stand asks of three items, n the number of lines -/
def standOk (n : Nat) (x0 x1 x2 : V) : Bool := within x0 (some 0) (some ((n : Int) - 1)) && (isCont x1 && isCont x2)
def spNeedStand (K : PySem.W.Frag) (CP CS : Addr) : Sp := fun vs H Q E => ∃ (pa : Addr) (v : V) (n : Nat), vs = [.ref pa, v] ∧ ProgAt CP H pa n ∧
  ((∃ (x0 x1 x2 : V) (t0 t1 t2 : String), Seq K H v [x0, x1, x2] ∧ VTy K H x0 t0 ∧ VTy K H x1 t1 ∧ VTy K H x2 t2 ∧ (standOk n x0 x1 x2 = true → ∀ t H', Same H H' → SqT K H' t [x0, x1, x2] → Q (.ref t) H') ∧
      (standOk n x0 x1 x2 = false → ∀ d H', Same H H' → H' d = none → E (.ref CS) (some d) (upd H' d (.xd [(("part" : Str), .str "stand")])))) ∨
    (((∃ t, VTy K H v t ∧ (t == "list" || t == "tuple") = false) ∨ ∃ xs, Seq K H v xs ∧ xs.length ≠ 3) ∧ ∀ d H', Same H H' → H' d = none → E (.ref CS) (some d) (upd H' d (.xd [(("part" : Str), .str "stand")]))))
theorem isCont_cv (c : Option Nat) : isCont (cv c) = true := by
  cases c with
  | none => rfl
  | some k =>
    show (decide (V.int k = V.non) || (decide ((0 : Int) ≤ k) && true)) = true
    rw [decide_eq_true (show (0 : Int) ≤ k by omega)]
    simp
theorem cv_ty {K : PySem.W.Frag} {H : Hp} (c : Option Nat) : ∃ t, VTy K H (cv c) t := by
  cases c with
  | none => exact ⟨_, .non⟩
  | some k => exact ⟨_, .int _⟩
theorem ok_need_stand (B : Bz mg) (PG : PgK K mg CP) (ER : Errs P K mg CT CG CS CM) (D : Df K mg "need_stand" s_need_stand p_need_stand) (H_is_list : Has P w K mg base CX0 1 "is_list" p_is_list (spIsList K))
    (H_is_within : Has P w K mg base CX0 2 "is_within" p_is_within (spIsWithin K)) (H_is_contents : Has P w K mg base CX0 3 "is_contents" p_is_contents (spIsCont K)) : Has P w K mg base (L2.CX P w) 4 "need_stand" p_need_stand (spNeedStand K CP CS) := by
  refine D.okX sc_need_stand (fun vs H Q E h => ?_) (fun f cdv A outer s H vs Q E hr h => ?_)
  · obtain ⟨pa, v, n, rfl, _⟩ := h
    rfl
  · obtain ⟨pa, v, n, rfl, hp, h⟩ := h
    refine ⟨_, (pss_cons (ps_if (PW.pt (pw_or (pt_not (pt_val (pe_h H_is_list (hr.mono (by decide)) pass0 (pa_cons (pv 1) pa_nil)))) (pw_or (pt_cmpR op_ne (pe_callB call_len_seq (by rfl) B.len (by decide +kernel) (pa_cons (pv 1) pa_nil)) pe_int (nomark _)) (pw_or1 (pt_not (pt_val (pe_h H_is_within (hr.mono (by decide)) pass0 (pa_cons (pe_ix ix_seq (pv 1) pe_int (fun _ _ => rfl)) (pa_cons pe_int (pa_cons (pe_op op_sub (pe_callB call_len_seq (by rfl) B.len (by decide +kernel) (pa_cons (pe_fld (pv 0) rfl) pa_nil)) pe_int) pa_nil))))))))))
      (pss_one (ps_raise rfl (takes_of rfl rfl rfl rfl) (pmk_BadStand ER (hr.mono (by decide)) (pa_cons pe_str pa_nil))))
      pss_nil)
      (pss_cons (ps_if (PW.pt (pw_or (pt_not (pt_val (pe_h H_is_contents (hr.mono (by decide)) pass0 (pa_cons (pe_ix ix_seq (pv 1) pe_int (fun _ _ => rfl)) pa_nil)))) (pw_or1 (pt_not (pt_val (pe_h H_is_contents (hr.mono (by decide)) pass0 (pa_cons (pe_ix ix_seq (pv 1) pe_int (fun _ _ => rfl)) pa_nil)))))))
      (pss_one (ps_raise rfl (takes_of rfl rfl rfl rfl) (pmk_BadStand ER (hr.mono (by decide)) (pa_cons pe_str pa_nil))))
      pss_nil)
      (pss_one (ps_ret (pe_callTy call_tuple_of (by rfl) B.tuple (by decide +kernel) (pa_cons (pv 1) pa_nil)))))), ?_⟩
    rcases h with ⟨x0, x1, x2, t0, t1, t2, hs, h0, h1, h2, q, qe⟩ | ⟨⟨ty, hty, hb⟩ | ⟨xs, hs, hl⟩, qe⟩
    · obtain ⟨ty, hty, hb⟩ := hs.ty
      refine ⟨_, rfl, _, _, rfl, hty, fun H1 s1 => ⟨_, rfl, ?_⟩⟩
      rw [hb]
      have hs1 := hs.same s1
      obtain ⟨p, ys, e1, hp1, rfl⟩ := hs1.len
      cases e1
      obtain ⟨dx, lt, ls, g1, g2, g3⟩ := hp.same s1
      refine iteF ⟨_, rfl, p, _, rfl, hp1, rfl, _, rfl, iteF ?_⟩
      refine ⟨_, rfl, hs1.ix (j := 0) rfl ⟨_, rfl, pa, CP, dx, _, _, rfl, g1, PG.cl, PG.nL, look_lines _, lt, ls, rfl, .inr (.of g2), _, _, rfl, rfl, x0, t0, some 0, some ((n : Int) - 1), ?_, h0.same s1, _, rfl, ?_⟩⟩
      · rw [g3]; rfl
      · cases e0 : within x0 (some 0) (some ((n : Int) - 1)) with
        | false => exact iteT ⟨rfl, fun d hd => qe (by unfold standOk; rw [e0]; rfl) d H1 s1 hd⟩
        | true =>
          refine iteF ⟨_, rfl, hs1.ix (j := 1) rfl ⟨x1, t1, rfl, h1.same s1, _, rfl, ?_⟩⟩
          cases e1 : isCont x1 with
          | false => exact iteT (iteT ⟨rfl, fun d hd => qe (by unfold standOk; rw [e0, e1]; rfl) d H1 s1 hd⟩)
          | true =>
            refine iteF ⟨_, rfl, hs1.ix (j := 2) rfl ⟨x2, t2, rfl, h2.same s1, _, rfl, ?_⟩⟩
            cases e2 : isCont x2 with
            | false => exact iteT ⟨rfl, fun d hd => qe (by unfold standOk; rw [e0, e1, e2]; rfl) d H1 s1 hd⟩
            | true =>
              have ok : standOk n x0 x1 x2 = true := by unfold standOk; rw [e0, e1, e2]; rfl
              refine iteF ⟨_, rfl, p, [x0, x1, x2], rfl, ?_⟩
              rcases hp1 with h | h
              · exact .inl ⟨h, fun l nl => q ok l _ (s1.trans (same_upd nl)) (.of upd_same)⟩
              · exact .inr ⟨h, q ok p _ s1 h⟩
    · refine ⟨_, rfl, _, _, rfl, hty, fun H1 s1 => ⟨_, rfl, ?_⟩⟩
      rw [hb]
      exact iteT (iteT ⟨rfl, fun d hd => qe d H1 s1 hd⟩)
    · obtain ⟨ty, hty, hb⟩ := hs.ty
      refine ⟨_, rfl, _, _, rfl, hty, fun H1 s1 => ⟨_, rfl, ?_⟩⟩
      rw [hb]
      obtain ⟨p, ys, e1, hp1, rfl⟩ := (hs.same s1).len
      cases e1
      refine iteF ⟨_, rfl, p, _, rfl, hp1, rfl, _, rfl, ?_⟩
      rw [decide_eq_false (show ¬ V.int ys.length = V.int 3 from fun z => hl (by have := V.int.inj z; omega))]
      exact iteT (iteT ⟨rfl, fun d hd => qe d H1 s1 hd⟩)
/-! ### need_point -/
/-- v is asked whether it is a number: b -/
def NumT (K : PySem.W.Frag) (H : Hp) (v : V) (b : Bool) : Prop := (∃ n : String, VTy K H v n ∧ (n == "list" || n == "tuple") = false ∧ b = (n == "int")) ∨ ∃ (p : Addr) (x y : Int), v = .ref p ∧ SqT K H p [.int x, .int y] ∧ 2 ≤ y ∧ b = decide (Int.gcd x y = 1)
theorem NumT.same {H H' : Hp} {v : V} {b : Bool} (h : NumT K H v b) (s : Same H H') : NumT K H' v b := by
  rcases h with ⟨n, h1, h2, h3⟩ | ⟨p, x, y, h1, h2, h3, h4⟩
  · exact .inl ⟨n, h1.same s, h2, h3⟩
  · exact .inr ⟨p, x, y, h1, sqT_same s h2, h3, h4⟩
theorem NumT.ask {H : Hp} {v : V} {b : Bool} {Q : VK} {E : XK} (h : NumT K H v b) (q : ∀ H', Same H H' → Q (.bl b) H') : spIsNum K [v] H Q E := by
  rcases h with ⟨n, h1, h2, rfl⟩ | ⟨p, x, y, rfl, h2, h3, rfl⟩
  · exact .inl ⟨v, n, rfl, h1, h2, q⟩
  · exact .inr ⟨p, x, y, rfl, h2, h3, q⟩
theorem NumT.of {H : Hp} {v : V} {a b : Int} (h : NumV K H v (a, b)) (r : Rd2 a b) : NumT K H v true := by
  rcases h with ⟨h, rfl⟩ | ⟨h, p, rfl, hs⟩
  · exact .inl ⟨_, .int _, rfl, rfl⟩
  · have h : b ≠ 1 := h
    have := r.1
    exact .inr ⟨p, a, b, rfl, hs, by omega, (decide_eq_true r.2).symm⟩
def spNeedPoint (K : PySem.W.Frag) (CT : Addr) : Sp := fun vs H Q E => ∃ v : V, vs = [v, .int 2, .str "point"] ∧
  ((∃ (v1 v2 : V) (a b c d : Int), Seq K H v [v1, v2] ∧ NumV K H v1 (a, b) ∧ Rd2 a b ∧ NumV K H v2 (c, d) ∧ Rd2 c d ∧ ∀ t H', Same H H' → H' t = some (.tup [v1, v2]) → Q (.ref t) H') ∨
    (((∃ t, VTy K H v t ∧ (t == "list" || t == "tuple") = false) ∨ (∃ xs, Seq K H v xs ∧ xs.length ≠ 2) ∨ ∃ (x0 x1 : V) (b0 b1 : Bool), Seq K H v [x0, x1] ∧ NumT K H x0 b0 ∧ NumT K H x1 b1 ∧ (b0 && b1) = false) ∧
      ∀ d H', Same H H' → H' d = none → E (.ref CT) (some d) (upd H' d (.xd [(("part" : Str), .str "point")]))))
theorem ok_need_point (B : Bz mg) (ER : Errs P K mg CT CG CS CM) (D : Dd K mg "need_point" s_need_point p_need_point [.str "point"]) (H_is_list : Has P w K mg base CX0 1 "is_list" p_is_list (spIsList K))
    (H_is_number : Has P w K mg base CX0 3 "is_number" p_is_number (spIsNum K)) (H_kept_number : Has P w K mg base CX0 2 "kept_number" p_kept_number (spKept K)) : HasD P w K mg base (L2.CX P w) 4 "need_point" p_need_point [.str "point"] (spNeedPoint K CT) := by
  refine D.okX sc_need_point (fun vs H Q E h => ?_) (fun f cdv A outer s H vs Q E hr h => ?_)
  · obtain ⟨v, rfl, _⟩ := h
    rfl
  · obtain ⟨v, rfl, h⟩ := h
    refine ⟨_, (pss_cons (ps_if (PW.pt (pw_or (pt_not (pt_val (pe_h H_is_list (hr.mono (by decide)) pass0 (pa_cons (pv 0) pa_nil)))) (pw_or (pt_cmpR op_ne (pe_callB call_len_seq (by rfl) B.len (by decide +kernel) (pa_cons (pv 0) pa_nil)) (pv 1) (nomark _)) (pw_or1 (pt_not (pt_val (pe_callB (cr_all rfl) (by rfl) B.all (by decide +kernel) (pa_cons (pe_lc (own := [("each", 3)]) (g := gName 3) (tt := tYes) rfl sc_need_point.nd (pi_or (pi_list (pv 0)) (pi_tup (pv 0))) (blkOk_by (N := n_need_point) (sc := defScope s_need_point) (by decide +kernel)) (fun _ _ _ _ _ => pg_name (i := 3) sc_need_point.nd rfl (Or.inl rfl)) (fun _ _ _ _ _ => pts_nil) (fun _ _ _ _ _ => (pe_h H_is_number (hr.mono (by decide)) pass0 (pa_cons (pv 3) pa_nil)))) pa_nil))))))))
      (pss_one (ps_raise rfl (takes_of rfl rfl rfl rfl) (pmk_BadPoint ER (hr.mono (by decide)) (pa_cons (pv 2) pa_nil))))
      pss_nil)
      (pss_one (ps_ret (pe_callTy call_tuple_of (by rfl) B.tuple (by decide +kernel) (pa_cons (pe_lc (own := [("each", 3)]) (g := gName 3) (tt := tYes) rfl sc_need_point.nd (pi_or (pi_list (pv 0)) (pi_tup (pv 0))) (blkOk_by (N := n_need_point) (sc := defScope s_need_point) (by decide +kernel)) (fun _ _ _ _ _ => pg_name (i := 3) sc_need_point.nd rfl (Or.inl rfl)) (fun _ _ _ _ _ => pts_nil) (fun _ _ _ _ _ => (pe_h H_kept_number (hr.mono (by decide)) pass0 (pa_cons (pv 3) pa_nil)))) pa_nil))))), ?_⟩
    -- the two items asked
    have turn : ∀ {H1 : Hp} {x0 x1 : V} {b0 b1 : Bool}, NumT K H1 x0 b0 → NumT K H1 x1 b1 → LcTurn 3 (tCall (spIsNum K) [] E0 (tCons (tVar 3) tNil)) [3] (L2.start n_need_point [v, .int 2, .str "point"]) H1 [x0, x1] [.bl b0, .bl b1] := fun {H1 x0 x1 b0 b1} n0 n1 D i x y H' Qk hx hy s1 q => by
      refine ⟨rfl, x, rfl, ?_⟩
      match i, hx, hy with
      | 0, hx, hy =>
        cases hx; cases hy
        exact (n0.same s1).ask (E := E0) q
      | 1, hx, hy =>
        cases hx; cases hy
        exact (n1.same s1).ask (E := E0) q
      | i + 2, hx, hy => simp at hx
    rcases h with ⟨v1, v2, a, b, c, d, hs, m1, r1, m2, r2, q⟩ | ⟨⟨ty, hty, hb⟩ | ⟨xs, hs, hl⟩ | ⟨x0, x1, b0, b1, hs, n0, n1, hno⟩, qe⟩
    · obtain ⟨ty, hty, hb⟩ := hs.ty
      refine ⟨_, rfl, _, _, rfl, hty, fun H1 s1 => ⟨_, rfl, ?_⟩⟩
      rw [hb]
      have hs1 := hs.same s1
      obtain ⟨p, ys, e1, hp1, rfl⟩ := hs1.len
      cases e1
      refine iteF ⟨_, rfl, p, _, rfl, hp1, _, rfl, rfl, _, rfl, iteF ?_⟩
      refine lcmap_seq (i0 := 0) (ys := [.bl true, .bl true]) rfl hs1 rfl (by show 2 < 1000; decide) (turn ((NumT.of m1 r1).same s1) ((NumT.of m2 r2).same s1)) ?_
      intro D H2 s2 e2 _
      refine ⟨D, [true, true], rfl, .inl (.inl e2), _, rfl, iteF ?_⟩
      refine lcmap_seq (i0 := 0) (ys := [v1, v2]) rfl (hs1.same s2) rfl (by show 2 < 1000; decide) (fun D i x y H' Qk hx hy s3 qk => ?_) ?_
      rotate_left
      · intro D2 H3 s3 e3 _
        exact ⟨D2, _, rfl, .inl ⟨.inl (.inl e3), fun l nl => q l _ (s1.trans (s2.trans (s3.trans (same_upd nl)))) upd_same⟩⟩
      refine ⟨rfl, x, rfl, ?_⟩
      match i, hx, hy with
      | 0, hx, hy =>
        cases hx; cases hy
        exact ⟨_, _, rfl, m1.same (s1.trans (s2.trans s3)), qk⟩
      | 1, hx, hy =>
        cases hx; cases hy
        exact ⟨_, _, rfl, m2.same (s1.trans (s2.trans s3)), qk⟩
      | i + 2, hx, hy => simp at hx
    · refine ⟨_, rfl, _, _, rfl, hty, fun H1 s1 => ⟨_, rfl, ?_⟩⟩
      rw [hb]
      exact iteT (iteT ⟨_, rfl, rfl, fun d hd => qe d H1 s1 hd⟩)
    · obtain ⟨ty, hty, hb⟩ := hs.ty
      refine ⟨_, rfl, _, _, rfl, hty, fun H1 s1 => ⟨_, rfl, ?_⟩⟩
      rw [hb]
      obtain ⟨p, ys, e1, hp1, rfl⟩ := (hs.same s1).len
      cases e1
      refine iteF ⟨_, rfl, p, _, rfl, hp1, _, rfl, rfl, _, rfl, ?_⟩
      rw [decide_eq_false (show ¬ V.int ys.length = V.int 2 from fun z => hl (by have := V.int.inj z; omega))]
      exact iteT (iteT ⟨_, rfl, rfl, fun d hd => qe d H1 s1 hd⟩)
    · obtain ⟨ty, hty, hb⟩ := hs.ty
      refine ⟨_, rfl, _, _, rfl, hty, fun H1 s1 => ⟨_, rfl, ?_⟩⟩
      rw [hb]
      have hs1 := hs.same s1
      obtain ⟨p, ys, e1, hp1, rfl⟩ := hs1.len
      cases e1
      refine iteF ⟨_, rfl, p, _, rfl, hp1, _, rfl, rfl, _, rfl, iteF ?_⟩
      refine lcmap_seq (i0 := 0) (ys := [.bl b0, .bl b1]) rfl hs1 rfl (by show 2 < 1000; decide) (turn (n0.same s1) (n1.same s1)) ?_
      intro D H2 s2 e2 _
      refine ⟨D, [b0, b1], rfl, .inl (.inl e2), _, rfl, ?_⟩
      have e : ([b0, b1].all id) = false := by
        show (b0 && (b1 && true)) = false
        rw [Bool.and_true]; exact hno
      rw [e]
      exact iteT ⟨_, rfl, rfl, fun d hd => qe d H2 (s1.trans s2) hd⟩
end
end TF


set_option Elab.async false
set_option linter.all false
set_option maxRecDepth 100000
set_option maxHeartbeats 4000000
namespace TF
open PySem PySem.Spec PyProof.Rows L2
/-- x not in d, d a dict of the written part that has x -/
theorem op_kdnotin {X : Cx} : OpR X (compareOp .NotIn) (fun x y H Q => ∃ p z v, y = .ref p ∧ x = .str z ∧ KDct X.K X.w p z v ∧ (p == sysModules) = false ∧ Q (.bl false) H) := by
  intro pins s σ H x y v u Q I rx ry h
  obtain ⟨p, z, r, rfl, rfl, ⟨es, n, u0, hl, hk, e, ru⟩, hp, q⟩ := h
  obtain rfl : u = Value.ref p := ry
  obtain ⟨t, rfl⟩ := rx
  have hm := PySem.W.mapOf_K (prog := X.prog) (w := X.w) I.kIn hl hk
  have hf := PySem.W.find_K hl e
  refine wpAny_notIn_of (strKind_is X.prog X.w z t) hp hm ?_
  rw [hf]
  exact ⟨.bl false, H, I.tok _, rfl, q⟩
/-- len, tuple: the written part named -/
def rLenK (K : PySem.W.Frag) : List V → Hp → VK → Prop := fun xs H Q => ∃ p ys, xs = [.ref p] ∧ (SqL K H p ys ∨ SqT K H p ys) ∧ Q (.int ys.length) H
theorem call_lenK {X : Cx} {K : PySem.W.Frag} (h : X.K = K) : CallR X (.builtin "len") (rLenK K) := by subst h; exact call_len_seq
def rTupK (K : PySem.W.Frag) : List V → Hp → VK → Prop := fun xs H Q => ∃ p ys, xs = [.ref p] ∧ ((SqL K H p ys ∧ ∀ l, H l = none → Q (.ref l) (upd H l (.tup ys))) ∨ (SqT K H p ys ∧ Q (.ref p) H))
theorem call_tupK {X : Cx} {K : PySem.W.Frag} (h : X.K = K) : CallR X (.type "tuple") (rTupK K) := by subst h; exact call_tuple_of
/-- ENDS -/
structure EndsK (K : PySem.W.Frag) (w : World) (mg : Str → Option Value) (CN : Addr) : Prop where
  g : mg "ENDS" = some (.ref CN)
  up : KDct K w CN "up" (.int 1)
  down : KDct K w CN "down" (.int 1)
  test : KDct K w CN "test" (.int 2)
  ns : (CN == sysModules) = false
/-- a line of a program of n lines -/
inductive LnOk (n : Nat) : List V → Prop where
  | stop : LnOk n [.str "stop"]
  | go (w : Str) (h : w = "up" ∨ w = "down") (b t : Int) (hb : 0 ≤ b ∧ b ≤ 1) (ht : 0 ≤ t ∧ t < n) : LnOk n [.str w, .int b, .int t]
  | test (b t u : Int) (hb : 0 ≤ b ∧ b ≤ 1) (ht : 0 ≤ t ∧ t < n) (hu : 0 ≤ u ∧ u < n) : LnOk n [.str "test", .int b, .int t, .int u]
def LnAt (K : PySem.W.Frag) (H : Hp) (n : Nat) (v : V) : Prop := ∃ a xs, v = .ref a ∧ SqT K H a xs ∧ LnOk n xs
theorem LnAt.same {K : PySem.W.Frag} {H H' : Hp} {n : Nat} {v : V} (h : LnAt K H n v) (s : Same H H') : LnAt K H' n v := by
  obtain ⟨a, xs, e, h1, h2⟩ := h
  exact ⟨a, xs, e, sqT_same s h1, h2⟩
def spIsLine (K : PySem.W.Frag) : Sp := fun vs H Q _ => ∃ (v : V) (n : Nat), vs = [v, .int n] ∧ n ≤ 15 ∧ LnAt K H n v ∧ ∀ H', Same H H' → Q (.bl true) H'
theorem within_ok {i lo hi : Int} (h1 : lo ≤ i) (h2 : i ≤ hi) : within (.int i) (some lo) (some hi) = true := by
  unfold within
  simp [h1, h2]
section
variable {P : Program} {w : World} {K : PySem.W.Frag} {mg : Str → Option Value} {base : Heap} {CN CP : Addr}
theorem ok_is_line (B : Bz mg) (M : Mc mg) (KE : EndsK K w mg CN) (D : Df K mg "is_line" s_is_line p_is_line) (H_is_list : Has P w K mg base CX0 1 "is_list" p_is_list (spIsList K))
    (H_is_within : Has P w K mg base CX0 2 "is_within" p_is_within (spIsWithin K)) : Has P w K mg base CX0 3 "is_line" p_is_line (spIsLine K) := by
  refine D.ok sc_is_line (fun vs H Q E h => ?_) (fun f cdv A outer s H vs Q E hr h => ?_)
  · obtain ⟨v, n, rfl, _⟩ := h
    rfl
  · obtain ⟨v, n, rfl, hn, ⟨a, xs, rfl, hs, hl⟩, q⟩ := h
    refine ⟨_, (pss_cons (ps_if (PW.pt (pw_or (pt_not (pt_val (pe_h H_is_list (hr.mono (by decide)) pass0 (pa_cons (pv 0) pa_nil)))) (pw_or (pt_cmpR op_eq (pe_callB call_len_seq (by rfl) B.len (by decide +kernel) (pa_cons (pv 0) pa_nil)) pe_int (nomark _)) (pw_or1 (pt_not (pt_val (pe_callB call_isi (by rfl) B.isi (by decide +kernel) (pa_cons (pe_ix ix_tup (pv 0) pe_int (fun _ _ => rfl)) (pa_cons (pe_bltn (v := .ty "str") (by rfl) B.str (by decide +kernel) rfl) pa_nil)))))))))
      (pss_one (ps_ret pe_bl))
      pss_nil)
      (pss_cons (ps_if (pt_cmpR op_eq (pe_ix ix_tup (pv 0) pe_int (fun _ _ => rfl)) (pe_cs M.STOP) (nomark _))
      (pss_one (ps_ret (pe_cmpR op_eq (pe_callB call_len_seq (by rfl) B.len (by decide +kernel) (pa_cons (pv 0) pa_nil)) pe_int (nomark _))))
      pss_nil)
      (pss_cons (ps_if (PW.pt (pw_or (pt_cmpR op_kdnotin (pe_ix ix_tup (pv 0) pe_int (fun _ _ => rfl)) (pe_glob (v := .ref CN) (by rfl) KE.g rfl) (by with_unfolding_all rfl)) (pw_or (pt_cmpR op_ne (pe_callB call_len_seq (by rfl) B.len (by decide +kernel) (pa_cons (pv 0) pa_nil)) (pe_op op_add (pe_ix ix_kdict (pe_glob (v := .ref CN) (by rfl) KE.g rfl) (pe_ix ix_tup (pv 0) pe_int (fun _ _ => rfl)) (fun _ _ => rfl)) pe_int) (nomark _)) (pw_or1 (pt_not (pt_val (pe_h H_is_within (hr.mono (by decide)) pass0 (pa_cons (pe_ix ix_tup (pv 0) pe_int (fun _ _ => rfl)) (pa_cons pe_int (pa_cons (pe_ci M.LB) pa_nil))))))))))
      (pss_one (ps_ret pe_bl))
      pss_nil)
      (pss_one (ps_ret (pe_callB (cr_all rfl) (by rfl) B.all (by decide +kernel) (pa_cons (pe_lc (own := [("each", 2)]) (g := gName 2) (tt := tYes) rfl sc_is_line.nd (pi_tup (pe_slice sl_tup (pv 0) (po_some pe_int) po_none)) (blkOk_by (N := n_is_line) (sc := defScope s_is_line) (by decide +kernel)) (fun _ _ _ _ _ => pg_name (i := 2) sc_is_line.nd rfl (Or.inl rfl)) (fun _ _ _ _ _ => pts_nil) (fun _ _ _ _ _ => (pe_h H_is_within (hr.mono (by decide)) pass0 (pa_cons (pv 2) (pa_cons pe_int (pa_cons (pe_op op_sub (pv 1) pe_int) pa_nil)))))) pa_nil))))))), ?_⟩
    refine ⟨_, rfl, _, _, rfl, .tup hs, fun H1 s1 => ⟨_, rfl, iteF ?_⟩⟩
    have hs1 := sqT_same s1 hs
    -- isinstance(value[0], str)
    have kS : PySem.W.kitOne K (.type "str") (.type "str") = some true := kit_ty (by decide +kernel)
    cases hl with
    | stop =>
      refine ⟨_, rfl, a, _, rfl, .inr hs1, rfl, _, rfl, iteF ?_⟩
      refine ⟨_, rfl, ⟨a, _, 0, _, rfl, rfl, hs1, rfl, ⟨_, _, _, _, true, rfl, .ty _, (VTy.str _).tyx, kS, _, rfl, iteF ?_⟩⟩⟩
      refine ⟨_, rfl, ⟨a, _, 0, _, rfl, rfl, hs1, rfl, rfl, _, rfl, iteT ?_⟩⟩
      exact ⟨_, rfl, a, _, rfl, .inr hs1, rfl, q _ s1⟩
    | go wd hw b t hb ht =>
      refine ⟨_, rfl, a, _, rfl, .inr hs1, rfl, _, rfl, iteF ?_⟩
      refine ⟨_, rfl, ⟨a, _, 0, _, rfl, rfl, hs1, rfl, ⟨_, _, _, _, true, rfl, .ty _, (VTy.str _).tyx, kS, _, rfl, iteF ?_⟩⟩⟩
      have hk : KDct K w CN wd (.int 1) := by rcases hw with rfl | rfl; exact KE.up; exact KE.down
      have hne : decide (V.str wd = V.str "stop") = false := by rcases hw with rfl | rfl <;> decide
      refine ⟨_, rfl, ⟨a, _, 0, _, rfl, rfl, hs1, rfl, rfl, _, rfl, ?_⟩⟩
      rw [hne]
      refine iteF ?_
      refine ⟨_, rfl, ⟨a, _, 0, _, rfl, rfl, hs1, rfl, CN, wd, _, rfl, rfl, hk, KE.ns, _, rfl, iteF ?_⟩⟩
      refine ⟨_, rfl, a, _, rfl, .inr hs1, _, rfl, ⟨a, _, 0, _, rfl, rfl, hs1, rfl, CN, wd, _, rfl, rfl, hk, ⟨_, _, rfl, rfl, rfl, _, rfl, iteF ?_⟩⟩⟩
      refine ⟨_, rfl, a, _, 1, _, rfl, rfl, hs1, rfl, _, _, some 0, some 1, rfl, .int b, _, rfl, ?_⟩
      rw [within_ok hb.1 hb.2]
      refine iteF ?_
      refine ⟨_, rfl, _, rfl, a, _, rfl, hs1, by show ¬ (HT.sIx 3 0 (some 2) = 0 ∧ HT.sIx 3 3 none = 3); decide, fun p np => ⟨p, rfl, ⟨_, .of upd_same⟩, lcmap_tup (ys := [.bl true]) (.of upd_same) rfl (by show 1 < 1000; decide) (fun D i x y H' Qk hx hy s3 qk => ?_) (fun D H2 s2 e2 _ => ⟨D, [true], rfl, .inl (.inl e2), q _ (s1.trans ((same_upd np).trans s2))⟩)⟩⟩
      refine ⟨rfl, x, rfl, _, rfl, _, _, rfl, rfl, ?_⟩
      match i, hx, hy with
      | 0, hx, hy =>
        cases hx; cases hy
        refine ⟨_, _, some 0, some ((n : Int) - 1), rfl, .int _, ?_⟩
        rw [within_ok ht.1 (by omega)]
        exact qk _ (.refl _)
      | i + 1, hx, hy => cases hx
    | test b t u hb ht hu =>
      refine ⟨_, rfl, a, _, rfl, .inr hs1, rfl, _, rfl, iteF ?_⟩
      refine ⟨_, rfl, ⟨a, _, 0, _, rfl, rfl, hs1, rfl, ⟨_, _, _, _, true, rfl, .ty _, (VTy.str _).tyx, kS, _, rfl, iteF ?_⟩⟩⟩
      refine ⟨_, rfl, ⟨a, _, 0, _, rfl, rfl, hs1, rfl, rfl, _, rfl, iteF ?_⟩⟩
      refine ⟨_, rfl, ⟨a, _, 0, _, rfl, rfl, hs1, rfl, CN, _, _, rfl, rfl, KE.test, KE.ns, _, rfl, iteF ?_⟩⟩
      refine ⟨_, rfl, a, _, rfl, .inr hs1, _, rfl, ⟨a, _, 0, _, rfl, rfl, hs1, rfl, CN, _, _, rfl, rfl, KE.test, ⟨_, _, rfl, rfl, rfl, _, rfl, iteF ?_⟩⟩⟩
      refine ⟨_, rfl, a, _, 1, _, rfl, rfl, hs1, rfl, _, _, some 0, some 1, rfl, .int b, _, rfl, ?_⟩
      rw [within_ok hb.1 hb.2]
      refine iteF ?_
      refine ⟨_, rfl, _, rfl, a, _, rfl, hs1, by show ¬ (HT.sIx 4 0 (some 2) = 0 ∧ HT.sIx 4 4 none = 4); decide, fun p np => ⟨p, rfl, ⟨_, .of upd_same⟩, lcmap_tup (ys := [.bl true, .bl true]) (.of upd_same) rfl (by show 2 < 1000; decide) (fun D i x y H' Qk hx hy s3 qk => ?_) (fun D H2 s2 e2 _ => ⟨D, [true, true], rfl, .inl (.inl e2), q _ (s1.trans ((same_upd np).trans s2))⟩)⟩⟩
      refine ⟨rfl, x, rfl, _, rfl, _, _, rfl, rfl, ?_⟩
      match i, hx, hy with
      | 0, hx, hy =>
        cases hx; cases hy
        refine ⟨_, _, some 0, some ((n : Int) - 1), rfl, .int _, ?_⟩
        rw [within_ok ht.1 (by omega)]
        exact qk _ (.refl _)
      | 1, hx, hy =>
        cases hx; cases hy
        refine ⟨_, _, some 0, some ((n : Int) - 1), rfl, .int _, ?_⟩
        rw [within_ok hu.1 (by omega)]
        exact qk _ (.refl _)
      | i + 2, hx, hy => cases hx
/-- a class made by its name, of a promise of its __init__ -/
def HasC (P : Program) (w : World) (K : PySem.W.Frag) (mg : Str → Option Value) (base : Heap) (k : Nat) (x : Str) (C : Addr) (ps : List Str) (sp : Sp) : Prop :=
  ∃ (f : Addr) (fd : FuncData), Mk K C f ∧ mg x = some (.ref C) ∧ Binds K fd ps [] ∧ FnOk P w K mg base CX0 k f fd ps sp
theorem pe_hc {X : Cx} {k : Nat} {C : Addr} {ps : List Str} {sp : Sp} {x : Str} {p pos : Pos} {e : Expr} {es : List Expr} {t : TA} (h : HasC X.prog X.w X.K X.mg X.base k x C ps sp) (hr : Room (k + 1) X.A) (ha : PA X (e :: es) t) (hg : Gl X x := by rfl)
    (hdb : (x == ("__debug__" : Str)) = false := by decide) (he : starEach (e :: es) X.env = (false, eval e X.env) :: starEach es X.env := by rfl) (hpl : (backTo pos (starEach es X.env)).any (·.1) = false := by rfl) :
    PE X (.Call (.Name x p) (e :: es) [] pos) (tMake C sp [] E0 t) := by
  obtain ⟨f, fd, mk, g, b, F⟩ := h
  exact pe_make mk F hr hg g b .nil pass0 ha hdb he hpl
/-- the class Program made by its name -/
structure MkProg (K : PySem.W.Frag) (mg : Str → Option Value) (CP : Addr) : Prop where
  ex : ∃ (f : Addr) (fd : FuncData), Mk K CP f ∧ Fun K "__init__" "Program.__init__" s_Program_init f fd ∧ Binds K fd p_Program_init []
def spProg (K : PySem.W.Frag) (CP : Addr) : Sp := fun vs H Q _ => ∃ (x dx lt : Addr) (ls : List V), vs = [.ref x, .ref lt] ∧ H x = some (.ins CP dx []) ∧ SqL K H lt ls ∧ 1 ≤ ls.length ∧ ls.length ≤ 15 ∧ (∀ v ∈ ls, LnAt K H ls.length v) ∧
  ∀ H' tl, (∀ b o, b ≠ x → H b = some o → H' b = some o) → H' x = some (.ins CP dx [(("lines" : Str), .ref tl)]) → H' tl = some (.tup ls) → Q .non H'
theorem ok_Program (B : Bz mg) (M : Mc mg) (PG : PgK K mg CP) (D : MkProg K mg CP) (H_is_list : Has P w K mg base CX0 1 "is_list" p_is_list (spIsList K)) (H_is_line : Has P w K mg base CX0 3 "is_line" p_is_line (spIsLine K)) :
    HasC P w K mg base 4 "Program" CP p_Program_init (spProg K CP) := by
  obtain ⟨f, fd, mk, F, b⟩ := D.ex
  refine ⟨f, fd, mk, PG.g, b, F.ok sc_Program_init (fun vs H Q E h => ?_) (fun cdv A outer s H vs Q E hr h => ?_)⟩
  · obtain ⟨x, dx, lt, ls, rfl, _⟩ := h
    rfl
  · obtain ⟨x, dx, lt, ls, rfl, hx, hl, l1, l2, hls, q⟩ := h
    refine ⟨_, (pss_cons (ps_if (PW.pt (pw_or (pt_not (pt_val (pe_h H_is_list (hr.mono (by decide)) pass0 (pa_cons (pv 1) pa_nil)))) (pw_or1 (pt_not (pt_chain op_le op_le pe_int (pe_callB (call_lenK (K := K) rfl) (by rfl) B.len (by decide +kernel) (pa_cons (pv 1) pa_nil)) (pe_ci M.ML))))))
      (pss_one ps_never)
      pss_nil)
      (pss_cons (ps_if (pt_not (pt_val (pe_callB (cr_all rfl) (by rfl) B.all (by decide +kernel) (pa_cons (pe_lc (own := [("line", 2)]) (g := gName 2) (tt := tYes) rfl sc_Program_init.nd (pi_list (pv 1)) (blkOk_by (N := n_Program_init) (sc := defScope s_Program_init) (by decide +kernel)) (fun _ _ _ _ _ => pg_name (i := 2) sc_Program_init.nd rfl (Or.inl rfl)) (fun _ _ _ _ _ => pts_nil) (fun _ _ _ _ _ => (pe_h H_is_line (hr.mono (by decide)) pass0 (pa_cons (pv 2) (pa_cons (pe_callB (call_lenK (K := K) rfl) (by rfl) B.len (by decide +kernel) (pa_cons (pv 1) pa_nil)) pa_nil))))) pa_nil))))
      (pss_one ps_never)
      pss_nil)
      (pss_one (ps_fld (pv 0) (pe_callTy call_tuple_of (by rfl) B.tuple (by decide +kernel) (pa_cons (pe_lc (own := [("line", 2)]) (g := gName 2) (tt := tYes) rfl sc_Program_init.nd (pi_list (pv 1)) (blkOk_by (N := n_Program_init) (sc := defScope s_Program_init) (by decide +kernel)) (fun _ _ _ _ _ => pg_name (i := 2) sc_Program_init.nd rfl (Or.inl rfl)) (fun _ _ _ _ _ => pts_nil) (fun _ _ _ _ _ => (pe_callTy (call_tupK (K := K) rfl) (by rfl) B.tuple (by decide +kernel) (pa_cons (pv 2) pa_nil)))) pa_nil)) rfl)))), ?_⟩
    refine ⟨_, rfl, _, _, rfl, .lst hl, fun H1 s1 => ⟨_, rfl, iteF ?_⟩⟩
    have hl1 := s1.seq hl
    refine ⟨_, rfl, lt, ls, rfl, .inl hl1, _, _, rfl, rfl, _, rfl, ?_⟩
    rw [decide_eq_true (show (1 : Int) ≤ (ls.length : Int) by omega)]
    refine iteT ⟨_, _, rfl, rfl, _, rfl, ?_⟩
    rw [decide_eq_true (show (ls.length : Int) ≤ 15 by omega)]
    refine iteF ⟨_, rfl, lt, rfl, ⟨_, hl1⟩, lcmap_list (ys := ls.map fun _ => V.bl true) hl1 (List.length_map _) (by omega) (fun D i y z H' Qk hy hz s2 qk => ?_) (fun D H2 s2 e2 _ => ?_)⟩
    · refine ⟨rfl, y, rfl, _, rfl, lt, ls, rfl, .inl ((s1.trans s2).seq hl), _, ls.length, rfl, l2, (hls y (List.mem_of_getElem? hy)).same (s1.trans s2), fun H3 s3 => ?_⟩
      rw [List.getElem?_map, hy] at hz
      cases hz
      exact qk H3 s3
    · refine ⟨D, List.replicate ls.length true, rfl, .inl (.inl (by rw [e2, List.map_replicate, List.map_const'])), _, rfl, ?_⟩
      rw [show (List.replicate ls.length true).all id = true by simp]
      refine iteF ?_
      have hl2 := (s1.trans s2).seq hl
      refine ⟨_, rfl, lt, rfl, ⟨_, hl2⟩, lcmap_list (ys := ls) hl2 rfl (by omega) (fun D i y z H' Qk hy hz s3 qk => ?_) (fun D3 H3 s3 e3 _ => ?_)⟩
      · refine ⟨rfl, y, rfl, ?_⟩
        obtain ⟨p, xs, rfl, h1, _⟩ := (hls y (List.mem_of_getElem? hy)).same ((s1.trans s2).trans s3)
        rw [hy] at hz
        cases hz
        exact ⟨p, xs, rfl, .inr ⟨h1, qk _ (.refl _)⟩⟩
      · refine ⟨D3, ls, rfl, .inl ⟨.inl (.inl e3), fun tl ntl => ?_⟩⟩
        have s03 := (s1.trans s2).trans s3
        have s4 := s03.trans (same_upd (o := .tup ls) ntl)
        refine ⟨_, rfl, x, CP, dx, [], rfl, s4 _ _ hx, PG.cl, PG.nL, by show 0 < 1000; decide, q _ tl (fun b o hb z => ?_) upd_same ?_⟩
        · rw [upd_ne hb]; exact s4 _ _ z
        · rw [upd_ne (fun e => by rw [e, s03 _ _ hx] at ntl; cases ntl)]
          exact upd_same
end
end TF


set_option Elab.async false
set_option linter.all false
set_option maxRecDepth 100000
set_option maxHeartbeats 4000000
namespace TF
open PySem PySem.Spec PyProof.Rows L2
section
variable {P : Program} {w : World} {K : PySem.W.Frag} {mg : Str → Option Value} {base : Heap} {CP CT CG CS CM : Addr}
/-- a promise, with the def it is of -/
def HasF (P : Program) (w : World) (K : PySem.W.Frag) (mg : Str → Option Value) (base : Heap) (CX : CXT) (k : Nat) (x : Str) (st : Stmt) (ps : List Str) (sp : Sp) : Prop :=
  ∃ (f : Addr) (fd : FuncData), Fun K x x st f fd ∧ mg x = some (.ref f) ∧ Binds K fd ps [] ∧ FnOk P w K mg base CX k f fd ps sp
theorem HasF.has {CX : CXT} {k : Nat} {x : Str} {st : Stmt} {ps : List Str} {sp : Sp} (h : HasF P w K mg base CX k x st ps sp) : Has P w K mg base CX k x ps sp := by
  obtain ⟨f, fd, F, g, b, o⟩ := h
  exact ⟨f, fd, g, F.kp, b, o⟩
theorem Df.okXF {x : Str} {st : Stmt} {N ps : List Str} {k : Nat} {sp : Sp} (D : Df K mg x st ps) (S : FnScope N ps (defScope st)) (len : ∀ vs H Q E, sp vs H Q E → vs.length = ps.length)
    (hbody : ∀ (f : Addr) (cdv : Value) (A : Around) (outer : List Env) (s : Shared) (H : Hp) (vs : List V) (Q : VK) (E : XK), Room k (A.deeper (envOfC x (defScope st) s.heap.objs.size f cdv)) → sp vs H Q E →
      ∃ t, PSs (cxOf (L2.CX P w) P w K mg base N x (defScope st) f cdv A outer s H E) (defBody st) t ∧ t { nx := fun _ H' => Q .non H', rt := Q } (start N vs) H) : HasF P w K mg base (L2.CX P w) (k + 1) x st ps sp := by
  obtain ⟨f, fd, F, g, b⟩ := D.ex
  exact ⟨f, fd, F, g, b, F.okX S len (hbody f)⟩
/-- contents above the most -/
def big : V → Bool
  | .int i => decide (i > 200)
  | _ => false
/-- the reading of point_of -/
def spPointOf (K : PySem.W.Frag) (CP CG CS CM : Addr) : Sp := fun vs H Q E => ∃ pz v : V, vs = [pz, v] ∧
  ((NoProg K H pz ∧ ∀ d, H d = none → E (.ref CG) (some d) (upd H d (.xd [(("part" : Str), .str "program")]))) ∨
   ∃ (pa : Addr) (n : Nat), pz = .ref pa ∧ ProgAt CP H pa n ∧
    (((((∃ t, VTy K H v t ∧ (t == "list" || t == "tuple") = false) ∨ (∃ xs, Seq K H v xs ∧ xs.length ≠ 3) ∨ ∃ (x0 x1 x2 : V) (t0 t1 t2 : String), Seq K H v [x0, x1, x2] ∧ VTy K H x0 t0 ∧ VTy K H x1 t1 ∧ VTy K H x2 t2 ∧ standOk n x0 x1 x2 = false) ∧
        ∀ d H', Same H H' → H' d = none → E (.ref CS) (some d) (upd H' d (.xd [(("part" : Str), .str "stand")])))) ∨
      (∃ (l : Int) (c1 c2 : Option Nat), Seq K H v [.int l, cv c1, cv c2] ∧ 0 ≤ l ∧ l < n ∧ n ≤ 15 ∧ (∀ k, c1 = some k → k ≤ 200) ∧ (∀ k, c2 = some k → k ≤ 200) ∧
        ∀ t H' v1 v2, Same H H' → SqT K H' t [v1, v2] → NumV K H' v1 (px l c1) → NumV K H' v2 (ht c2) → Q (.ref t) H') ∨
      ∃ (l : Int) (x1 x2 : V) (t1 t2 : String), Seq K H v [.int l, x1, x2] ∧ 0 ≤ l ∧ l < n ∧ VTy K H x1 t1 ∧ VTy K H x2 t2 ∧ isCont x1 = true ∧ isCont x2 = true ∧ (big x1 || big x2) = true ∧
        ∀ d H', Same H H' → H' d = none → E (.ref CM) (some d) (upd H' d (.xd [(("most" : Str), .int 200), (("what" : Str), .str "contents")]))))
theorem ok_point_of (B : Bz mg) (M : Mc mg) (ER : Errs P K mg CT CG CS CM) (D : Df K mg "point_of" s_point_of p_point_of) (H_need_program : HasD P w K mg base (L2.CX P w) 3 "need_program" p_need_program [.str "program"] (spNeedProg K CP CG))
    (H_need_stand : Has P w K mg base (L2.CX P w) 4 "need_stand" p_need_stand (spNeedStand K CP CS)) (H_point_in : Has P w K mg base CX0 4 "point_in" p_point_in (spPointIn K)) : HasF P w K mg base (L2.CX P w) 5 "point_of" s_point_of p_point_of (spPointOf K CP CG CS CM) := by
  refine D.okXF sc_point_of (fun vs H Q E h => ?_) (fun f cdv A outer s H vs Q E hr h => ?_)
  · obtain ⟨pz, v, rfl, _⟩ := h
    rfl
  · obtain ⟨pz, v, rfl, h⟩ := h
    refine ⟨_, (pss_cons (ps_expr (pe_hd H_need_program (hr.mono (by decide)) (passes_call (takes_of rfl rfl rfl rfl) (fun _ _ _ _ z => z)) (pa_cons (pv 0) pa_nil)))
      (pss_cons (ps_set (i := 2) sc_point_of.nd rfl (Or.inl rfl) (pe_h H_need_stand (hr.mono (by decide)) (passes_call (takes_of rfl rfl rfl rfl) (fun _ _ _ _ z => z)) (pa_cons (pv 0) (pa_cons (pv 1) pa_nil))))
      (pss_cons (ps_if (pt_val (pe_callB (cr_any rfl) (by rfl) B.any (by decide +kernel) (pa_cons (pe_lc (own := [("contents", 3)]) (g := gName 3) (tt := tYes) rfl sc_point_of.nd (pi_tup (pe_slice sl_tup (pv 2) (po_some pe_int) po_none)) (blkOk_by (N := n_point_of) (sc := defScope s_point_of) (by decide +kernel)) (fun _ _ _ _ _ => pg_name (i := 3) sc_point_of.nd rfl (Or.inl rfl)) (fun _ _ _ _ _ => pts_nil) (fun _ _ _ _ _ => (pe_and (pe_cmpR op_notN (pv 3) pe_non (nomark _)) (pe_one (pe_cmpR op_gt (pv 3) (pe_ci M.MC) (nomark _)))))) pa_nil)))
      (pss_one (ps_raise rfl (takes_of rfl rfl rfl rfl) (pmk_TooMany ER (hr.mono (by decide)) (pa_cons pe_str (pa_cons (pe_ci M.MC) pa_nil)))))
      pss_nil)
      (pss_one (ps_ret (pe_h H_point_in (hr.mono (by decide)) pass0 (pa_cons (pv 2) pa_nil))))))), ?_⟩
    rcases h with ⟨hno, qe⟩ | ⟨pa, n, rfl, hp, h⟩
    · exact ⟨_, rfl, pz, rfl, .inr ⟨hno, qe⟩⟩
    refine ⟨_, rfl, .ref pa, rfl, .inl ⟨pa, n, rfl, hp, ?_⟩⟩
    -- what the comprehension tells
    have turn : ∀ {t : V} {H1 : Hp} {x1 x2 : V}, (isCont x1 = true) → (isCont x2 = true) → LcTurn 3 (tAndV (tOp (fun x y H Q => y = V.non ∧ Q (V.bl !decide (x = V.non)) H) (tVar 3) (tC V.non)) (tOp (rI0 fun i j => V.bl (decide (j < i))) (tVar 3) (tC (V.int 200)))) [3] ((L2.start n_point_of [.ref pa, v]).set 2 (some t)) H1 [x1, x2] [.bl (big x1), .bl (big x2)] := by
      intro t H1 x1 x2 c1 c2 D i x y H' Qk hx hy s1 qk
      have go : ∀ z : V, isCont z = true → (∀ H4, Same H' H4 → Qk (.bl (big z)) H4) → tAndV (tOp (fun x y H Q => y = V.non ∧ Q (V.bl !decide (x = V.non)) H) (tVar 3) (tC V.non)) (tOp (rI0 fun i j => V.bl (decide (j < i))) (tVar 3) (tC (V.int 200))) ((wipe ((L2.start n_point_of [.ref pa, v]).set 2 (some t)) [3]).set 3 (some z)) H' Qk := fun z cz qz => by
        cases z with
        | non => exact ⟨_, rfl, rfl, _, rfl, qz _ (.refl _)⟩
        | int i => exact ⟨_, rfl, rfl, _, rfl, _, rfl, i, 200, rfl, rfl, qz _ (.refl _)⟩
        | _ => cases cz
      refine ⟨rfl, ?_⟩
      match i, hx, hy with
      | 0, hx, hy =>
        cases hx; cases hy
        exact go _ c1 qk
      | 1, hx, hy =>
        cases hx; cases hy
        exact go _ c2 qk
      | i + 2, hx, hy => simp at hx
    have nb : ∀ c : Option Nat, (∀ k, c = some k → k ≤ 200) → big (cv c) = false := fun c hc => by
      cases c with
      | none => rfl
      | some k =>
        have := hc k rfl
        exact decide_eq_false (by omega)
    rcases h with ⟨hb, qe⟩ | ⟨l, c1, c2, hs, l0, l1, hn, b1, b2, q⟩ | ⟨l, x1, x2, t1, t2, hs, l0, l1, ty1, ty2, k1, k2, hb, qe⟩
    · refine ⟨_, rfl, _, rfl, pa, v, n, rfl, hp, ?_⟩
      rcases hb with h | h | ⟨x0, x1, x2, t0, t1, t2, hs, h0, h1, h2, hst⟩
      · exact .inr ⟨.inl h, qe⟩
      · exact .inr ⟨.inr h, qe⟩
      · exact .inl ⟨x0, x1, x2, t0, t1, t2, hs, h0, h1, h2, fun z => (by rw [hst] at z; cases z), fun _ => qe⟩
    · obtain ⟨t1, ty1⟩ := cv_ty (K := K) (H := H) c1
      obtain ⟨t2, ty2⟩ := cv_ty (K := K) (H := H) c2
      have ok : standOk n (.int l) (cv c1) (cv c2) = true := by
        unfold standOk
        rw [within_ok l0 (by omega), isCont_cv, isCont_cv]
        rfl
      refine ⟨_, rfl, _, rfl, pa, v, n, rfl, hp, .inl ⟨_, _, _, _, _, _, hs, .int l, ty1, ty2, fun _ t H1 s1 ht => ?_, fun z => (by rw [ok] at z; cases z)⟩⟩
      refine ⟨_, rfl, _, rfl, t, _, rfl, ht, by show ¬ (HT.sIx 3 0 (some 1) = 0 ∧ HT.sIx 3 3 none = 3); decide, fun p np => ⟨p, rfl, ⟨_, .of upd_same⟩, lcmap_tup (xs := [cv c1, cv c2]) (ys := [.bl (big (cv c1)), .bl (big (cv c2))]) (.of upd_same) rfl (by show 2 < 1000; decide) (turn (isCont_cv c1) (isCont_cv c2)) (fun D H2 s2 e2 _ => ⟨D, [big (cv c1), big (cv c2)], rfl, .inl (.inl e2), ?_⟩)⟩⟩
      rw [nb c1 b1, nb c2 b2]
      refine ⟨_, rfl, iteF ?_⟩
      have s3 := s1.trans ((same_upd np).trans s2)
      exact ⟨_, rfl, t, l, c1, c2, rfl, sqT_same ((same_upd np).trans s2) ht, l0, by omega, fun k e => by have := b1 k e; omega, fun k e => by have := b2 k e; omega, fun t' v1 v2 H' s4 e n1 n2 => q t' H' v1 v2 (s3.trans s4) (.of e) n1 n2⟩
    · have ok : standOk n (.int l) x1 x2 = true := by
        unfold standOk
        rw [within_ok l0 (by omega), k1, k2]
        rfl
      refine ⟨_, rfl, _, rfl, pa, v, n, rfl, hp, .inl ⟨_, _, _, _, _, _, hs, .int l, ty1, ty2, fun _ t H1 s1 ht => ?_, fun z => (by rw [ok] at z; cases z)⟩⟩
      refine ⟨_, rfl, _, rfl, t, _, rfl, ht, by show ¬ (HT.sIx 3 0 (some 1) = 0 ∧ HT.sIx 3 3 none = 3); decide, fun p np => ⟨p, rfl, ⟨_, .of upd_same⟩, lcmap_tup (xs := [x1, x2]) (ys := [.bl (big x1), .bl (big x2)]) (.of upd_same) rfl (by show 2 < 1000; decide) (turn k1 k2) (fun D H2 s2 e2 _ => ⟨D, [big x1, big x2], rfl, .inl (.inl e2), ?_⟩)⟩⟩
      have e : ([big x1, big x2].any id) = true := by
        show (big x1 || (big x2 || false)) = true
        rw [Bool.or_false]; exact hb
      rw [e]
      exact ⟨_, rfl, iteT ⟨rfl, fun d hd => qe d _ (s1.trans ((same_upd np).trans s2)) hd⟩⟩
/-- the reading of stand_of; n lines -/
def spStandOf (K : PySem.W.Frag) (CP CG CT : Addr) : Sp := fun vs H Q E => ∃ pz v : V, vs = [pz, v] ∧
  ((NoProg K H pz ∧ ∀ d, H d = none → E (.ref CG) (some d) (upd H d (.xd [(("part" : Str), .str "program")]))) ∨
   ∃ (pa : Addr) (n : Nat), pz = .ref pa ∧ ProgAt CP H pa n ∧
    ((((∃ t, VTy K H v t ∧ (t == "list" || t == "tuple") = false) ∨ (∃ xs, Seq K H v xs ∧ xs.length ≠ 2) ∨ ∃ (x0 x1 : V) (b0 b1 : Bool), Seq K H v [x0, x1] ∧ NumT K H x0 b0 ∧ NumT K H x1 b1 ∧ (b0 && b1) = false) ∧
        ∀ d H', Same H H' → H' d = none → E (.ref CT) (some d) (upd H' d (.xd [(("part" : Str), .str "point")]))) ∨
     ∃ (v1 v2 : V) (a b c d : Int), Seq K H v [v1, v2] ∧ NumV K H v1 (a, b) ∧ Rd2 a b ∧ NumV K H v2 (c, d) ∧ Rd2 c d ∧ Sz 1500 a ∧ Sz 1190 b ∧ Sz 1500 c ∧ Sz 1190 d ∧
       (¬ (0 ≤ a / b / 4 ∧ a / b / 4 < n ∧ IsH (a - 4 * (a / b / 4) * b) b ∧ IsH c d) → ∀ H', Same H H' → Q .non H') ∧
       ∀ c1 c2 t H', 0 ≤ a / b / 4 → a / b / 4 < n → ht c1 = (a - 4 * (a / b / 4) * b, b) → ht c2 = (c, d) → Same H H' → H' t = some (.tup [.int (a / b / 4), cv c1, cv c2]) → Q (.ref t) H'))
/-- what like_contents tells of a height -/
theorem like_at {H : Hp} {v : V} {a b : Int} {c : Option Nat} {Q : VK} {E : XK} (hv : NumV K H v (a, b)) (h : ht c = (a, b)) (s1 : Sz 1600 a) (s2 : Sz 1600 b) (q : ∀ H', Same H H' → Q (cv c) H') : spLike K [v] H Q E := by
  have r := ht_rd c
  have lo := ht_lo c
  rw [h] at r lo
  refine ⟨v, a, b, rfl, hv, r, lo, s1, s2, fun z H' s => ?_, fun z n H' s hn => ?_⟩
  · match c, h with
    | none, _ => exact q H' s
    | some 0, h => have : (3 : Int) = a := congrArg Prod.fst h; omega
    | some (k + 1), h => have : (1 : Int) = a := congrArg Prod.fst h; omega
  · rw [lk_of hn h z] at q
    exact q H' s
theorem rest_in {a b : Int} (hb : 0 < b) : 0 ≤ a - 4 * (a / b / 4) * b ∧ a - 4 * (a / b / 4) * b < 4 * b := by
  have h1 := Int.emod_add_mul_ediv a b
  have h2 := Int.emod_nonneg a (show b ≠ 0 by omega)
  have h3 := Int.emod_lt_of_pos a hb
  generalize hq : a / b = q at *
  generalize hl : q / 4 = l at *
  have h4 : q = 4 * l ∨ q = 4 * l + 1 ∨ q = 4 * l + 2 ∨ q = 4 * l + 3 := by omega
  have e0 : b * (4 * l) = 4 * l * b := Int.mul_comm ..
  rcases h4 with rfl | rfl | rfl | rfl
  · rw [e0] at h1; omega
  · rw [Int.mul_add, e0, Int.mul_one] at h1; omega
  · rw [Int.mul_add, e0] at h1; omega
  · rw [Int.mul_add, e0] at h1; omega
theorem rest_sz {a b : Int} {n : Nat} (hb : 0 < b) (z : Sz n b) : Sz (n + 2) (a - 4 * (a / b / 4) * b) := by
  obtain ⟨h1, h2⟩ := rest_in (a := a) hb
  unfold Sz at *
  rw [Nat.pow_add]
  omega
theorem ok_stand_of (B : Bz mg) (M : Mc mg) (PG : PgK K mg CP) (D : Df K mg "stand_of" s_stand_of p_stand_of) (H_need_program : HasD P w K mg base (L2.CX P w) 3 "need_program" p_need_program [.str "program"] (spNeedProg K CP CG))
    (H_need_point : HasD P w K mg base (L2.CX P w) 4 "need_point" p_need_point [.str "point"] (spNeedPoint K CT)) (H_parted : Has P w K mg base CX0 5 "parted" p_parted (spParted K)) (H_has_contents : Has P w K mg base CX0 5 "has_contents" p_has_contents (spHasC K))
    (H_like_contents : Has P w K mg base CX0 4 "like_contents" p_like_contents (spLike K)) : HasF P w K mg base (L2.CX P w) 6 "stand_of" s_stand_of p_stand_of (spStandOf K CP CG CT) := by
  refine D.okXF sc_stand_of (fun vs H Q E h => ?_) (fun f cdv A outer s H vs Q E hr h => ?_)
  · obtain ⟨pz, v, rfl, _⟩ := h
    rfl
  · obtain ⟨pz, v, rfl, h⟩ := h
    refine ⟨_, (pss_cons (ps_expr (pe_hd H_need_program (hr.mono (by decide)) (passes_call (takes_of rfl rfl rfl rfl) (fun _ _ _ _ z => z)) (pa_cons (pv 0) pa_nil)))
      (pss_cons (ps_asg (pe_h H_parted (hr.mono (by decide)) pass0 (pa_cons (pe_hd H_need_point (hr.mono (by decide)) (passes_call (takes_of rfl rfl rfl rfl) (fun _ _ _ _ z => z)) (pa_cons (pv 1) (pa_cons (pe_ci M.WIDE) pa_nil))) pa_nil)) (pg_tup (by rfl) (pgs_cons (pg_name (i := 2) sc_stand_of.nd rfl (.inl rfl)) (pgs_cons (pg_name (i := 3) sc_stand_of.nd rfl (.inl rfl)) (pgs_cons (pg_name (i := 4) sc_stand_of.nd rfl (.inl rfl)) pgs_nil)))))
      (pss_cons (ps_if (PW.pt (pw_or (pt_not (pt_chain op_le op_lt pe_int (pv 2) (pe_callB call_len_seq (by rfl) B.len (by decide +kernel) (pa_cons (pe_fld (pv 0) rfl) pa_nil)))) (pw_or (pt_not (pt_val (pe_h H_has_contents (hr.mono (by decide)) pass0 (pa_cons (pv 3) pa_nil)))) (pw_or1 (pt_not (pt_val (pe_h H_has_contents (hr.mono (by decide)) pass0 (pa_cons (pv 4) pa_nil))))))))
      (pss_one (ps_ret pe_non))
      pss_nil)
      (pss_one (ps_ret (pe_tup (pa_cons (pv 2) (pa_cons (pe_h H_like_contents (hr.mono (by decide)) pass0 (pa_cons (pv 3) pa_nil)) (pa_cons (pe_h H_like_contents (hr.mono (by decide)) pass0 (pa_cons (pv 4) pa_nil)) pa_nil))))))))), ?_⟩
    rcases h with ⟨hno, qe⟩ | ⟨pa, n, rfl, hp, h⟩
    · exact ⟨_, rfl, pz, rfl, .inr ⟨hno, qe⟩⟩
    refine ⟨_, rfl, .ref pa, rfl, .inl ⟨pa, n, rfl, hp, ?_⟩⟩
    rcases h with ⟨hb, qe⟩ | ⟨v1, v2, a, b, c, d, hs, n1, r1, n2, r2, za, zb, zc, zd, qn, qy⟩
    · exact ⟨_, rfl, v, rfl, .inr ⟨hb, qe⟩⟩
    refine ⟨_, rfl, v, rfl, .inl ⟨v1, v2, a, b, c, d, hs, n1, r1, n2, r2, fun t H1 s1 ht1 => ?_⟩⟩
    refine ⟨t, v1, v2, a, b, rfl, .of ht1, n1.same s1, r1, za, zb.mono (by decide), fun t2 u H2 s2 ht2 nu => ?_⟩
    have s12 := s1.trans s2
    have hrd : Rd2 (a - 4 * (a / b / 4) * b) b := ⟨r1.1, by
      rw [show a - 4 * (a / b / 4) * b = (-(4 * (a / b / 4))) * b + a by rw [Int.neg_mul]; omega, gcd_shift]
      exact r1.2⟩
    have zr : Sz 1600 (a - 4 * (a / b / 4) * b) := (rest_sz r1.1 zb).mono (by decide)
    have zb' : Sz 1600 b := zb.mono (by decide)
    have zd' : Sz 1600 d := zd.mono (by decide)
    have zc' : Sz 1600 c := zc.mono (by decide)
    obtain ⟨dx, lt, ls, g1, g2, g3⟩ := hp.same s12
    refine ⟨t2, _, rfl, .of ht2, rfl, _, _, rfl, _, _, rfl, _, _, rfl, rfl, ?_⟩
    generalize hl : a / b / 4 = l at *
    generalize hr0 : a - 4 * l * b = r at *
    have no : ¬ (0 ≤ l ∧ l < n) → Q .non H2 := fun z => qn (fun k => z ⟨k.1, k.2.1⟩) H2 s12
    refine ⟨_, rfl, 0, l, rfl, rfl, _, rfl, ?_⟩
    by_cases h0 : 0 ≤ l
    case neg =>
      rw [decide_eq_false h0]
      exact iteF ⟨_, rfl, iteT (no fun k => h0 k.1)⟩
    rw [decide_eq_true h0]
    refine iteT ⟨_, rfl, pa, CP, dx, _, _, rfl, g1, PG.cl, PG.nL, look_lines _, lt, ls, rfl, .inr (.of g2), _, _, rfl, rfl, _, rfl, ?_⟩
    by_cases h1 : l < n
    case neg =>
      rw [decide_eq_false (show ¬ l < (ls.length : Int) by rw [g3]; exact h1)]
      exact iteT (iteT (no fun k => h1 k.2))
    rw [decide_eq_true (show l < (ls.length : Int) by rw [g3]; exact h1)]
    refine iteF ⟨_, rfl, u, r, b, rfl, nu, hrd, zr, zb', Nat.lt_of_lt_of_le zb (Nat.pow_le_pow_right (by decide) (by decide)), fun k H3 s3 hk => ⟨_, rfl, ?_⟩⟩
    cases k with
    | false => exact iteT (iteT (qn (fun z => by have := hk.mpr z.2.2.1; cases this) H3 (s12.trans s3)))
    | true =>
      obtain ⟨c1, e1⟩ := hk.mp rfl
      refine iteF ⟨_, rfl, v2, c, d, rfl, n2.same (s12.trans s3), r2, zc', zd', Nat.lt_of_lt_of_le zd (Nat.pow_le_pow_right (by decide) (by decide)), fun k2 H4 s4 hk2 => ⟨_, rfl, ?_⟩⟩
      have s14 := (s12.trans s3).trans s4
      cases k2 with
      | false => exact iteT (qn (fun z => by have := hk2.mpr z.2.2.2; cases this) H4 s14)
      | true =>
        obtain ⟨c2, e2⟩ := hk2.mp rfl
        refine iteF ⟨_, rfl, _, rfl, ?_⟩
        dsimp only [tNil]
        refine like_at (nu.same (s3.trans s4)) e1 zr zb' fun H5 s5 => ⟨_, rfl, ?_⟩
        dsimp only [tNil]
        refine like_at (n2.same (s14.trans s5)) e2 zc' zd' fun H6 s6 => ⟨by show 3 ≤ sizeLine; decide, fun p np => ?_⟩
        exact qy c1 c2 p _ h0 h1 e1 e2 (((s14.trans s5).trans s6).trans (same_upd np)) upd_same
end
end TF


set_option Elab.async false
set_option linter.all false
set_option maxRecDepth 100000
set_option maxHeartbeats 4000000
namespace TF
open PySem PySem.Spec PyProof.Rows L2
/-! ### what the law's defs leave: all stays but the quarry and the tables of code -/
structure Kp (q : Addr) (H H' : Hp) : Prop where
  l : ∃ c r r', H q = some (.lst (.ref c :: r)) ∧ H' q = some (.lst (.ref c :: r'))
  s : ∀ b o, b ≠ q → H b = some o → H' b = some o
theorem Kp.l0 {q : Addr} {H H' : Hp} (k : Kp q H H') : ∃ ys, H q = some (.lst ys) := let ⟨_, _, _, h, _⟩ := k.l; ⟨_, h⟩
theorem Kp.of {q c : Addr} {H H' : Hp} {r : List V} (h : H q = some (.lst (.ref c :: r))) (s : Same H H') : Kp q H H' := ⟨⟨c, r, r, h, s _ _ h⟩, fun b o _ e => s b o e⟩
theorem Kp.trans {q : Addr} {H H' H2 : Hp} (a : Kp q H H') (b : Kp q H' H2) : Kp q H H2 := by
  refine ⟨?_, fun c o n e => b.s c o n (a.s c o n e)⟩
  obtain ⟨c, r, r', h1, h2⟩ := a.l
  obtain ⟨c2, r2, r3, h3, h4⟩ := b.l
  rw [h2] at h3
  cases h3
  exact ⟨c, r, r3, h1, h4⟩
theorem Kp.same {q : Addr} {H H' H2 : Hp} (a : Kp q H H') (b : Same H' H2) : Kp q H H2 := let ⟨_, _, _, _, h⟩ := a.l; a.trans (.of h b)
theorem Kp.put {q c : Addr} {H : Hp} {r r' : List V} (h : H q = some (.lst (.ref c :: r))) : Kp q H (upd H q (.lst (.ref c :: r'))) :=
  ⟨⟨c, r, r', h, upd_same⟩, fun b o n e => by rw [upd_ne n]; exact e⟩
/-- a new object, changed -/
theorem Kp.new {q D : Addr} {H H' : Hp} {o : HO} (k : Kp q H H') (n : H D = none) : Kp q H (upd H' D o) := by
  have hq : D ≠ q := fun e => by
    obtain ⟨c, r, r', h, _⟩ := k.l
    rw [e, h] at n; cases n
  refine ⟨?_, fun b o' hb e => ?_⟩
  · obtain ⟨c, r, r', h1, h2⟩ := k.l
    exact ⟨c, r, r', h1, by rw [upd_ne (fun e => hq e.symm)]; exact h2⟩
  · rw [upd_ne (fun z => by rw [z, n] at e; cases e)]
    exact k.s b o' hb e
theorem Kp.sqT {K : PySem.W.Frag} {q a : Addr} {H H' : Hp} {xs : List V} (k : Kp q H H') (h : SqT K H a xs) : SqT K H' a xs := by
  obtain ⟨ys, hq⟩ := k.l0
  rcases h with (h | ⟨o, h⟩) | h
  · exact .inl (.inl (k.s _ _ (fun e => by rw [e, hq] at h; cases h) h))
  · exact .inl (.inr ⟨o, k.s _ _ (fun e => by rw [e, hq] at h; cases h) h⟩)
  · exact .inr h
theorem Kp.num {K : PySem.W.Frag} {q : Addr} {H H' : Hp} {v : V} {r : Q2} (k : Kp q H H') (h : NumV K H v r) : NumV K H' v r := by
  rcases h with ⟨h, e⟩ | ⟨h, p, e, hs⟩
  · exact .inl ⟨h, e⟩
  · exact .inr ⟨h, p, e, k.sqT hs⟩
theorem Kp.ln {K : PySem.W.Frag} {q : Addr} {H H' : Hp} {n : Nat} {v : V} (k : Kp q H H') (h : LnAt K H n v) : LnAt K H' n v := by
  obtain ⟨a, xs, e, h1, h2⟩ := h
  exact ⟨a, xs, e, k.sqT h1, h2⟩
theorem Kp.tup {q a : Addr} {H H' : Hp} {xs : List V} (k : Kp q H H') (h : H a = some (.tup xs)) : H' a = some (.tup xs) := by
  obtain ⟨ys, hq⟩ := k.l0
  exact k.s _ _ (fun e => by rw [e, hq] at h; cases h) h
theorem Kp.lst {q a : Addr} {H H' : Hp} {xs : List V} (k : Kp q H H') (hn : a ≠ q) (h : H a = some (.lst xs)) : H' a = some (.lst xs) := k.s _ _ hn h
theorem Kp.prog {CP : Addr} {q a : Addr} {H H' : Hp} {n : Nat} (k : Kp q H H') (h : ProgAt CP H a n) : ProgAt CP H' a n := by
  obtain ⟨ys, hq⟩ := k.l0
  obtain ⟨dx, lt, xs, h1, h2, h3⟩ := h
  exact ⟨dx, lt, xs, k.s _ _ (fun e => by rw [e, hq] at h1; cases h1) h1, k.tup h2, h3⟩
/-! ### the quarry -/
structure Qy (H : Hp) (q c : Addr) (cs : List Int) (t left : Int) : Prop where
  hq : H q = some (.lst [.ref c, .int t, .int left])
  hc : H c = some (.lst (cs.map V.int))
  ne : c ≠ q
  len : cs.length ≤ 59
  l0 : 0 ≤ left
  t0 : 0 ≤ t
/-- the quarry stands at q, its count at most T -/
def QyAt (H : Hp) (q : Addr) (T : Nat) : Prop := ∃ c cs t left, Qy H q c cs t left ∧ t ≤ T
theorem QyAt.lst {H : Hp} {q : Addr} {T : Nat} (h : QyAt H q T) : ∃ c r, H q = some (.lst (.ref c :: r)) := by
  obtain ⟨c, cs, t, l, h, _⟩ := h
  exact ⟨_, _, h.hq⟩
theorem fresh_ne {H : Hp} {p q : Addr} {T : Nat} (n : H p = none) (Y : QyAt H q T) : p ≠ q := fun e => by
  obtain ⟨c, r, h⟩ := Y.lst
  rw [e, h] at n
  cases n
/-- an object that is new since H, changed: the quarry stays -/
theorem QyAt.new {H H' : Hp} {q D : Addr} {T T' : Nat} {o : HO} (Y : QyAt H q T) (k : Kp q H H') (Y' : QyAt H' q T') (n : H D = none) : QyAt (upd H' D o) q T' := by
  obtain ⟨c, cs, t, l, h, _⟩ := Y
  obtain ⟨c', cs', t', l', h', e⟩ := Y'
  obtain ⟨c2, r, r', h1, h2⟩ := k.l
  rw [h.hq] at h1
  cases h1
  rw [h'.hq] at h2
  cases h2
  refine ⟨c, cs', t', l', ⟨?_, ?_, h'.ne, h'.len, h'.l0, h'.t0⟩, e⟩
  · rw [upd_ne (fun z => by rw [← z, h.hq] at n; cases n)]; exact h'.hq
  · rw [upd_ne (fun z => by rw [← z, h.hc] at n; cases n)]; exact h'.hc
theorem QyAt.same {H H' : Hp} {q : Addr} {T : Nat} (h : QyAt H q T) (s : Same H H') : QyAt H' q T := by
  obtain ⟨c, cs, t, l, h, e⟩ := h
  exact ⟨c, cs, t, l, ⟨s _ _ h.hq, s _ _ h.hc, h.ne, h.len, h.l0, h.t0⟩, e⟩
theorem QyAt.kp {H H' : Hp} {q : Addr} {T : Nat} (h : QyAt H q T) (s : Same H H') : Kp q H H' := let ⟨_, _, e⟩ := h.lst; .of e s
theorem QyAt.mono {H : Hp} {q : Addr} {T T' : Nat} (h : QyAt H q T) (l : T ≤ T') : QyAt H q T' := by
  obtain ⟨c, cs, t, l, h, e⟩ := h
  exact ⟨c, cs, t, l, h, by omega⟩
theorem ints_shaped (ns : List Int) : SeqAt.shaped (.list (ns.map PyData.int)) = true := by
  have h1 : PyData.canLayAll0 (ns.map PyData.int) = true := by
    induction ns with
    | nil => rfl
    | cons n r ih => simp [PyData.canLayAll0, PyData.canLay0, ih]
  have h2 : PyData.depthAll (ns.map PyData.int) = 0 := by
    clear h1
    induction ns with
    | nil => rfl
    | cons n r ih => simp [PyData.depthAll, PyData.depth, ih]
  simp [SeqAt.shaped, PyData.canLay0, PyData.depth, h1, h2]
theorem dp_ints {K : PySem.W.Frag} {H : Hp} (ns : List Int) : DpAll K H (ns.map V.int) (ns.map PyData.int) := by
  induction ns with
  | nil => exact .nil
  | cons n r ih => exact .cons (.int n) ih
section
variable {P : Program} {w : World} {K : PySem.W.Frag} {mg : Str → Option Value} {base : Heap} {CP CT CG CS CM : Addr}
theorem cut59 (ns : List Int) : cutV (ns.map V.int) none (some 59) = (ns.take 59).map V.int := by
  unfold cutV
  rw [← List.map_drop, ← List.map_take, List.length_map]
  show List.map V.int ((ns.drop (HT.sIx ns.length 0 none)).take (HT.sIx ns.length ns.length (some 59) - HT.sIx ns.length 0 none)) = _
  have e0 : HT.sIx ns.length 0 none = 0 := rfl
  have e1 : HT.sIx ns.length ns.length (some 59) = min 59 ns.length := by
    unfold HT.sIx
    simp
  rw [e0, e1, List.drop_zero, Nat.sub_zero]
  rcases Nat.le_total 59 ns.length with h | h
  · rw [Nat.min_eq_left h]
  · rw [Nat.min_eq_right h, List.take_of_length_le (Nat.le_refl _), List.take_of_length_le h]
def spQuarry (K : PySem.W.Frag) : Sp := fun vs H Q _ => ∃ (a : Addr) (ns : List Int), vs = [.ref a] ∧ SqL K H a (ns.map V.int) ∧ ∀ q H', Same H H' → H q = none → QyAt H' q 0 → Q (.ref q) H'
theorem ok_law_quarry (B : Bz mg) (D : Df K mg "_law_quarry" s_law_quarry p_law_quarry) : Has P w K mg base CX0 1 "_law_quarry" p_law_quarry (spQuarry K) := by
  refine D.ok sc_law_quarry (fun vs H Q E h => ?_) (fun f cdv A outer s H vs Q E hr h => ?_)
  · obtain ⟨a, ns, rfl, _⟩ := h
    rfl
  · obtain ⟨a, ns, rfl, hs, q⟩ := h
    refine ⟨_, (pss_one (ps_ret (pe_lst (pa_cons (pe_lc (own := [("_law_cell", 1)]) (g := gName 1) (tt := tYes) rfl sc_law_quarry.nd (pi_list (pe_slice sl_list (pv 0) po_none (po_some pe_int))) (blkOk_by (N := n_law_quarry) (sc := defScope s_law_quarry) (by decide +kernel)) (fun _ _ _ _ _ => pg_name (i := 1) sc_law_quarry.nd rfl (Or.inl rfl)) (fun _ _ _ _ _ => pts_nil) (fun _ _ _ _ _ => (pe_callTy call_int1 (by rfl) B.int (by decide +kernel) (pa_cons (pv 1) pa_nil)))) (pa_cons pe_int (pa_cons pe_int pa_nil)))))), ?_⟩
    refine ⟨_, rfl, _, rfl, a, _, rfl, hs, fun p np => ⟨p, rfl, ⟨_, .of upd_same⟩, lcmap_list (xs := (ns.take 59).map V.int) (ys := (ns.take 59).map V.int) ?_ rfl ?_ (fun D i x y H' Qk hx hy s1 qk => ⟨rfl, x, rfl, ?_⟩) fun D H2 s2 e2 n2 => ?_⟩⟩
    · rw [cut59]; exact .of upd_same
    · rw [List.length_map, List.length_take]; omega
    · rw [hx] at hy
      cases hy
      rw [List.getElem?_map] at hx
      cases hz : (ns.take 59)[i]? with
      | none => rw [hz] at hx; cases hx
      | some z =>
        rw [hz] at hx
        cases hx
        exact .inl ⟨z, rfl, qk _ (.refl _)⟩
    · rw [cut59] at s2 n2
      have s02 := (same_upd np).trans s2
      refine ⟨by show 3 ≤ sizeLine; decide, fun z nz => q z _ (s02.trans (same_upd nz)) ?_ ⟨D, ns.take 59, 0, 0, ⟨upd_same, ?_, ?_, ?_, by decide, by decide⟩, by decide⟩⟩
      · cases e : H z with
        | none => rfl
        | some o => rw [s02 _ _ e] at nz; cases nz
      · rw [upd_ne (fun e => by rw [e, nz] at e2; cases e2)]; exact e2
      · exact fun e => by rw [e, nz] at e2; cases e2
      · rw [List.length_take]; omega
/-- a number of the quarry: which one is left open -/
def spHew : Sp := fun vs H Q _ => ∃ (q : Addr) (m : Int) (T : Nat), vs = [.ref q, .int m] ∧ 0 < m ∧ m ≤ 1000 ∧ T ≤ 9000 ∧ QyAt H q T ∧ ∀ r H', 0 ≤ r → r < m → Kp q H H' → QyAt H' q (T + 1) → Q (.int r) H'
theorem hew_size {y t : Int} (y0 : 0 ≤ y) (y1 : y < 2147483579) (t0 : 0 ≤ t) (t1 : t ≤ 9000) : (0 ≤ y * (2 * t + 8467) ∧ y * (2 * t + 8467) < 2147483579 * 26468) ∧ (0 ≤ 110269 * t * t ∧ 110269 * t * t ≤ 110269 * 81000000) := by
  refine ⟨⟨Int.mul_nonneg y0 (by omega), ?_⟩, Int.mul_nonneg (by omega) t0, ?_⟩
  · have : y * (2 * t + 8467) ≤ 2147483579 * (2 * t + 8467) := Int.mul_le_mul_of_nonneg_right (by omega) (by omega)
    omega
  · have : 110269 * t * t ≤ 110269 * t * 9000 := Int.mul_le_mul_of_nonneg_left t1 (by omega)
    omega
theorem ok_law_hew (B : Bz mg) (D : Df K mg "_law_hew" s_law_hew p_law_hew) : Has P w K mg base CX0 1 "_law_hew" p_law_hew spHew := by
  refine D.ok sc_law_hew (fun vs H Q E h => ?_) (fun f cdv A outer s H vs Q E hr h => ?_)
  · obtain ⟨q, m, T, rfl, _⟩ := h
    rfl
  · obtain ⟨q, m, T, rfl, m0, m1, hT, ⟨c, cs, t, left, Y, ht⟩, k⟩ := h
    refine ⟨_, (pss_cons (ps_if (pt_cmpR op_gt (pe_ix ix_list (pv 0) pe_int (fun _ _ => rfl)) pe_int (nomark _))
      (pss_cons (ps_set (i := 2) sc_law_hew.nd rfl (Or.inl rfl) (pe_callTy call_int1 (by rfl) B.int (by decide +kernel) (pa_cons (pe_ix ix_list (pv 0) pe_int (fun _ _ => rfl)) pa_nil)))
        (pss_cons (ps_asg (pe_op op_fdiv (pv 2) (pv 1)) (pg_sub (pv 0) pe_int set_list))
        (pss_one (ps_ret (pe_op op_mod (pe_callTy call_int1 (by rfl) B.int (by decide +kernel) (pa_cons (pv 2) pa_nil)) (pv 1))))))
      pss_nil)
      (pss_cons (ps_set (i := 3) sc_law_hew.nd rfl (Or.inl rfl) (pe_ix ix_list (pv 0) pe_int (fun _ _ => rfl)))
      (pss_cons (ps_asg (pe_op op_add (pv 3) pe_int) (pg_sub (pv 0) pe_int set_list))
      (pss_cons (ps_set (i := 4) sc_law_hew.nd rfl (Or.inl rfl) (pe_op op_add (pe_op op_mul pe_int (pv 3)) pe_int))
      (pss_cons (ps_if (pt_cmpR (op_neD hr.units) (pe_ix ix_list (pv 0) pe_int (fun _ _ => rfl)) (pe_lst pa_nil) (nomark _))
      (pss_one (ps_set (i := 4) sc_law_hew.nd rfl (Or.inl rfl) (pe_ix ix_list (pe_ix ix_list (pv 0) pe_int (fun _ _ => rfl)) (pe_op op_mod (pe_callTy call_int1 (by rfl) B.int (by decide +kernel) (pa_cons (pv 3) pa_nil)) (pe_callB call_len_seq (by rfl) B.len (by decide +kernel) (pa_cons (pe_ix ix_list (pv 0) pe_int (fun _ _ => rfl)) pa_nil))) (fun _ _ => rfl))))
      pss_nil)
      (pss_cons (ps_if (PW.pt (pw_and (pt_cmpR op_lt (pv 3) (pe_callB call_len_seq (by rfl) B.len (by decide +kernel) (pa_cons (pe_ix ix_list (pv 0) pe_int (fun _ _ => rfl)) pa_nil)) (nomark _)) (pw_and1 (pt_cmpR op_ge (pe_callB call_abs (by rfl) B.abs (by decide +kernel) (pa_cons (pv 4) pa_nil)) (pe_op op_pow pe_int pe_int) (nomark _)))))
      (pss_cons (ps_set (i := 2) sc_law_hew.nd rfl (Or.inl rfl) (pe_op op_add (pe_op op_mul pe_int (pe_op op_sub (pe_callB call_abs (by rfl) B.abs (by decide +kernel) (pa_cons (pe_callTy call_int1 (by rfl) B.int (by decide +kernel) (pa_cons (pv 4) pa_nil)) pa_nil)) (pe_op op_pow pe_int pe_int))) (pe_callTy call_int1 (by rfl) B.int (by decide +kernel) (pa_cons (pe_cmpR op_lt (pv 4) pe_int (nomark _)) pa_nil))))
        (pss_cons (ps_asg (pe_op op_fdiv (pv 2) (pv 1)) (pg_sub (pv 0) pe_int set_list))
        (pss_one (ps_ret (pe_op op_mod (pe_callTy call_int1 (by rfl) B.int (by decide +kernel) (pa_cons (pv 2) pa_nil)) (pv 1))))))
      pss_nil)
      (pss_cons (ps_set (i := 5) sc_law_hew.nd rfl (Or.inl rfl) (pe_op op_mod (pe_callTy call_int1 (by rfl) B.int (by decide +kernel) (pa_cons (pe_op op_pow (pe_op op_add (pe_op op_add (pe_op op_mod (pe_callTy call_int1 (by rfl) B.int (by decide +kernel) (pa_cons (pv 4) pa_nil)) pe_int) (pe_op op_mul pe_int (pv 3))) pe_int) pe_int) pa_nil)) pe_int))
      (pss_cons (ps_set (i := 5) sc_law_hew.nd rfl (Or.inl rfl) (pe_op op_mod (pe_callTy call_int1 (by rfl) B.int (by decide +kernel) (pa_cons (pe_op op_pow (pe_op op_add (pe_op op_add (pe_op op_mul (pv 5) (pe_op op_add (pe_op op_mul pe_int (pv 3)) pe_int)) (pe_op op_mul (pe_op op_mul pe_int (pv 3)) (pv 3))) pe_int) pe_int) pa_nil)) pe_int))
      (pss_one (ps_ret (pe_op op_mod (pe_callTy call_int1 (by rfl) B.int (by decide +kernel) (pa_cons (pe_op op_fdiv (pv 5) pe_int) pa_nil)) (pv 1)))))))))))), ?_⟩
    -- the quarry set anew
    have qyE : ∀ {H2 : Hp} {t' l l' : Int}, H2 q = some (.lst [.ref c, .int t', .int l]) → H2 c = some (.lst (cs.map V.int)) → (0 ≤ t' ∧ t' ≤ T + 1) → 0 ≤ l' → QyAt (upd H2 q (.lst [.ref c, .int t', .int l'])) q (T + 1) := fun {H2 t' l l'} _ hc2 h h' =>
      ⟨c, cs, t', l', ⟨upd_same, by rw [upd_ne Y.ne]; exact hc2, Y.ne, Y.len, h', h.1⟩, h.2⟩
    have t0 := Y.t0
    refine ⟨_, rfl, q, _, 2, _, rfl, rfl, .of Y.hq, rfl, left, 0, rfl, rfl, _, rfl, ?_⟩
    by_cases hl : 0 < left
    · rw [decide_eq_true hl]
      refine iteT ⟨_, rfl, q, _, 2, _, rfl, rfl, .of Y.hq, rfl, .inl ⟨left, rfl, ?_⟩⟩
      refine ⟨_, rfl, _, rfl, left, m, rfl, rfl, ⟨m0, by omega⟩, _, rfl, q, _, 2, 2, rfl, rfl, Y.hq, rfl, ?_⟩
      exact ⟨_, rfl, .inl ⟨_, rfl, _, rfl, _, _, rfl, rfl, m0, k _ _ (Int.emod_nonneg _ (by omega)) (Int.emod_lt_of_pos _ m0) (.put Y.hq) (qyE Y.hq Y.hc (by omega) (Int.ediv_nonneg Y.l0 (by omega)))⟩⟩
    rw [decide_eq_false hl]
    refine iteF ⟨_, rfl, q, _, 1, _, rfl, rfl, .of Y.hq, rfl, ?_⟩
    refine ⟨_, rfl, t, 1, rfl, rfl, _, rfl, q, _, 1, 1, rfl, rfl, Y.hq, rfl, ?_⟩
    have hq1 : (upd H q (.lst [.ref c, .int (t + 1), .int left])) q = some (.lst [.ref c, .int (t + 1), .int left]) := upd_same
    have hc1 : (upd H q (.lst [.ref c, .int (t + 1), .int left])) c = some (.lst (cs.map V.int)) := by rw [upd_ne Y.ne]; exact Y.hc
    have kp1 : Kp q H (upd H q (.lst [.ref c, .int (t + 1), .int left])) := .put Y.hq
    show tSeq _ _ _ _ (upd H q (.lst [.ref c, .int (t + 1), .int left]))
    generalize upd H q (.lst [.ref c, .int (t + 1), .int left]) = H1 at hq1 hc1 kp1
    refine ⟨_, rfl, 110269, t, rfl, rfl, .inl ⟨by decide, by decide⟩, _, _, rfl, rfl, ?_⟩
    refine ⟨_, rfl, q, _, 0, _, rfl, rfl, .of hq1, rfl, by show 0 ≤ sizeLine; decide, fun p np => ?_⟩
    have hq2 := same_upd (o := .lst []) np _ _ hq1
    have hc2 := same_upd (o := .lst []) np _ _ hc1
    have kp2 := kp1.same (same_upd (o := .lst []) np)
    refine ⟨.list (cs.map PyData.int), .list ([].map PyData.int), .lst (.of hc2) (dp_ints cs), .lst (.of upd_same) .nil, ints_shaped cs, ints_shaped [], _, rfl, ?_⟩
    generalize upd H1 p (.lst []) = H2 at hq2 hc2 kp2
    cases hcs : PyData.eqv (.list (cs.map PyData.int)) (.list ([].map PyData.int)) with
    | true =>
      refine iteF ?_
      dsimp only
      generalize hx : 110269 * t + 8467 = x
      refine ⟨_, rfl, _, rfl, q, _, 0, _, rfl, rfl, .of hq2, rfl, c, _, rfl, .inl (.of hc2), t, _, rfl, rfl, _, rfl, ?_⟩
      by_cases h1 : t < ((cs.map V.int).length : Int)
      all_goals (first | rw [decide_eq_true h1] | rw [decide_eq_false h1])
      case pos =>
        refine iteT ⟨_, rfl, x, rfl, 10, 18, rfl, rfl, ⟨by decide, by decide, by decide⟩, _, _, rfl, rfl, _, rfl, ?_⟩
        by_cases h2 : (10 : Int) ^ (18 : Int).toNat ≤ (if x < 0 then -x else x)
        · rw [decide_eq_true h2]
          refine iteT ⟨_, rfl, .inl ⟨x, rfl, x, rfl, 10, 18, rfl, rfl, ⟨by decide, by decide, by decide⟩, _, _, rfl, rfl, 2, _, rfl, rfl, .inl ⟨by decide, by decide⟩, _, rfl, x, 0, rfl, rfl, .inr ⟨_, rfl, _, _, rfl, rfl, ?_⟩⟩⟩
          have hl : 0 ≤ 2 * ((if x < 0 then -x else x) - (10 : Int) ^ (18 : Int).toNat) + (if decide (x < 0) = true then 1 else 0) := by
            have : (0 : Int) ≤ (if decide (x < 0) = true then 1 else 0) := by split <;> decide
            omega
          dsimp only
          generalize 2 * ((if x < 0 then -x else x) - (10 : Int) ^ (18 : Int).toNat) + (if decide (x < 0) = true then 1 else 0) = l2 at hl
          refine ⟨_, rfl, _, rfl, l2, m, rfl, rfl, ⟨m0, by omega⟩, _, rfl, q, _, 2, 2, rfl, rfl, hq2, rfl, ?_⟩
          exact ⟨_, rfl, .inl ⟨_, rfl, _, rfl, _, _, rfl, rfl, m0, k _ _ (Int.emod_nonneg _ (by omega)) (Int.emod_lt_of_pos _ m0) (kp2.trans (.put hq2)) (qyE hq2 hc2 (by omega) (Int.ediv_nonneg hl (by omega)))⟩⟩
        · rw [decide_eq_false h2]
          refine iteF ?_
          refine ⟨_, rfl, .inl ⟨x, rfl, x, _, rfl, rfl, by show (0 : Int) < 2147483563; decide, _, rfl, _, _, rfl, rfl, .inl ⟨by decide, by decide⟩, _, _, rfl, rfl, _, _, rfl, rfl, _, 5, rfl, rfl, ?_, .inl ⟨_, rfl, _, _, rfl, rfl, by show (0 : Int) < 2147483579; decide, ?_⟩⟩⟩
          · have a1 := Int.emod_nonneg x (show (2147483563 : Int) ≠ 0 by decide)
            have a2 := Int.emod_lt_of_pos x (show (0 : Int) < 2147483563 by decide)
            exact ⟨by decide, by decide, by omega⟩
          dsimp only
          generalize hy : (_ % 2147483579 : Int) = y
          have y0 : 0 ≤ y := by rw [← hy]; exact Int.emod_nonneg _ (by decide)
          have y1 : y < 2147483579 := by rw [← hy]; exact Int.emod_lt_of_pos _ (by decide)
          obtain ⟨b1, b2⟩ := hew_size y0 y1 Y.t0 (show t ≤ 9000 by omega)
          refine ⟨_, rfl, _, rfl, 2, t, rfl, rfl, .inl ⟨by decide, by decide⟩, _, _, rfl, rfl, y, _, rfl, rfl, .inl ⟨by omega, by omega⟩, _, rfl, _, _, rfl, rfl, .inl ⟨by decide, by decide⟩, _, rfl, _, _, rfl, rfl, .inr ⟨by omega, by omega⟩, _, _, rfl, rfl, _, _, rfl, rfl, _, 3, rfl, rfl, ⟨by decide, by decide, by omega⟩, .inl ⟨_, rfl, _, _, rfl, rfl, by show (0 : Int) < 2147483549; decide, ?_⟩⟩
          refine ⟨_, rfl, _, _, rfl, rfl, ⟨by decide, by decide⟩, .inl ⟨_, rfl, _, rfl, _, _, rfl, rfl, m0, k _ _ (Int.emod_nonneg _ (by omega)) (Int.emod_lt_of_pos _ m0) kp2 ⟨c, cs, t + 1, left, ⟨hq2, hc2, Y.ne, Y.len, Y.l0, by have := Y.t0; omega⟩, by omega⟩⟩⟩
      case neg =>
        refine iteF ?_
        refine ⟨_, rfl, .inl ⟨x, rfl, x, _, rfl, rfl, by show (0 : Int) < 2147483563; decide, _, rfl, _, _, rfl, rfl, .inl ⟨by decide, by decide⟩, _, _, rfl, rfl, _, _, rfl, rfl, _, 5, rfl, rfl, ?_, .inl ⟨_, rfl, _, _, rfl, rfl, by show (0 : Int) < 2147483579; decide, ?_⟩⟩⟩
        · have a1 := Int.emod_nonneg x (show (2147483563 : Int) ≠ 0 by decide)
          have a2 := Int.emod_lt_of_pos x (show (0 : Int) < 2147483563 by decide)
          exact ⟨by decide, by decide, by omega⟩
        dsimp only
        generalize hy : (_ % 2147483579 : Int) = y
        have y0 : 0 ≤ y := by rw [← hy]; exact Int.emod_nonneg _ (by decide)
        have y1 : y < 2147483579 := by rw [← hy]; exact Int.emod_lt_of_pos _ (by decide)
        obtain ⟨b1, b2⟩ := hew_size y0 y1 Y.t0 (show t ≤ 9000 by omega)
        refine ⟨_, rfl, _, rfl, 2, t, rfl, rfl, .inl ⟨by decide, by decide⟩, _, _, rfl, rfl, y, _, rfl, rfl, .inl ⟨by omega, by omega⟩, _, rfl, _, _, rfl, rfl, .inl ⟨by decide, by decide⟩, _, rfl, _, _, rfl, rfl, .inr ⟨by omega, by omega⟩, _, _, rfl, rfl, _, _, rfl, rfl, _, 3, rfl, rfl, ⟨by decide, by decide, by omega⟩, .inl ⟨_, rfl, _, _, rfl, rfl, by show (0 : Int) < 2147483549; decide, ?_⟩⟩
        refine ⟨_, rfl, _, _, rfl, rfl, ⟨by decide, by decide⟩, .inl ⟨_, rfl, _, rfl, _, _, rfl, rfl, m0, k _ _ (Int.emod_nonneg _ (by omega)) (Int.emod_lt_of_pos _ m0) kp2 ⟨c, cs, t + 1, left, ⟨hq2, hc2, Y.ne, Y.len, Y.l0, by have := Y.t0; omega⟩, by omega⟩⟩⟩
    | false =>
      have hlen : 0 < cs.length := by
        rcases cs with _ | ⟨z, zs⟩
        · cases hcs
        · exact Nat.succ_pos _
      have hm : (0 : Int) < ((cs.map V.int).length : Int) := by rw [List.length_map]; omega
      have e0 := Int.emod_nonneg t (show ((cs.map V.int).length : Int) ≠ 0 by omega)
      have e1 := Int.emod_lt_of_pos t hm
      have hj : (t % ((cs.map V.int).length : Int)).toNat < cs.length := by rw [List.length_map] at e1 e0 ⊢; omega
      obtain ⟨x, hx⟩ : ∃ x, cs[(t % ((cs.map V.int).length : Int)).toNat]? = some x := ⟨_, List.getElem?_eq_getElem hj⟩
      have h9 : atI (cs.map V.int) (((t % ((cs.map V.int).length : Int)).toNat : Nat) : Int) = some (.int x) := atI_nat (by rw [List.getElem?_map, hx]; rfl)
      rw [Int.toNat_of_nonneg e0] at h9
      refine iteT ⟨_, rfl, q, _, 0, _, rfl, rfl, .of hq2, rfl, _, rfl, .inl ⟨t, rfl, _, rfl, q, _, 0, _, rfl, rfl, .of hq2, rfl, c, _, rfl, .inl (.of hc2), t, _, rfl, rfl, hm, c, _, _, .int x, rfl, rfl, .of hc2, h9, ?_⟩⟩
      refine ⟨_, rfl, _, rfl, q, _, 0, _, rfl, rfl, .of hq2, rfl, c, _, rfl, .inl (.of hc2), t, _, rfl, rfl, _, rfl, ?_⟩
      by_cases h1 : t < ((cs.map V.int).length : Int)
      all_goals (first | rw [decide_eq_true h1] | rw [decide_eq_false h1])
      case pos =>
        refine iteT ⟨_, rfl, x, rfl, 10, 18, rfl, rfl, ⟨by decide, by decide, by decide⟩, _, _, rfl, rfl, _, rfl, ?_⟩
        by_cases h2 : (10 : Int) ^ (18 : Int).toNat ≤ (if x < 0 then -x else x)
        · rw [decide_eq_true h2]
          refine iteT ⟨_, rfl, .inl ⟨x, rfl, x, rfl, 10, 18, rfl, rfl, ⟨by decide, by decide, by decide⟩, _, _, rfl, rfl, 2, _, rfl, rfl, .inl ⟨by decide, by decide⟩, _, rfl, x, 0, rfl, rfl, .inr ⟨_, rfl, _, _, rfl, rfl, ?_⟩⟩⟩
          have hl : 0 ≤ 2 * ((if x < 0 then -x else x) - (10 : Int) ^ (18 : Int).toNat) + (if decide (x < 0) = true then 1 else 0) := by
            have : (0 : Int) ≤ (if decide (x < 0) = true then 1 else 0) := by split <;> decide
            omega
          dsimp only
          generalize 2 * ((if x < 0 then -x else x) - (10 : Int) ^ (18 : Int).toNat) + (if decide (x < 0) = true then 1 else 0) = l2 at hl
          refine ⟨_, rfl, _, rfl, l2, m, rfl, rfl, ⟨m0, by omega⟩, _, rfl, q, _, 2, 2, rfl, rfl, hq2, rfl, ?_⟩
          exact ⟨_, rfl, .inl ⟨_, rfl, _, rfl, _, _, rfl, rfl, m0, k _ _ (Int.emod_nonneg _ (by omega)) (Int.emod_lt_of_pos _ m0) (kp2.trans (.put hq2)) (qyE hq2 hc2 (by omega) (Int.ediv_nonneg hl (by omega)))⟩⟩
        · rw [decide_eq_false h2]
          refine iteF ?_
          refine ⟨_, rfl, .inl ⟨x, rfl, x, _, rfl, rfl, by show (0 : Int) < 2147483563; decide, _, rfl, _, _, rfl, rfl, .inl ⟨by decide, by decide⟩, _, _, rfl, rfl, _, _, rfl, rfl, _, 5, rfl, rfl, ?_, .inl ⟨_, rfl, _, _, rfl, rfl, by show (0 : Int) < 2147483579; decide, ?_⟩⟩⟩
          · have a1 := Int.emod_nonneg x (show (2147483563 : Int) ≠ 0 by decide)
            have a2 := Int.emod_lt_of_pos x (show (0 : Int) < 2147483563 by decide)
            exact ⟨by decide, by decide, by omega⟩
          dsimp only
          generalize hy : (_ % 2147483579 : Int) = y
          have y0 : 0 ≤ y := by rw [← hy]; exact Int.emod_nonneg _ (by decide)
          have y1 : y < 2147483579 := by rw [← hy]; exact Int.emod_lt_of_pos _ (by decide)
          obtain ⟨b1, b2⟩ := hew_size y0 y1 Y.t0 (show t ≤ 9000 by omega)
          refine ⟨_, rfl, _, rfl, 2, t, rfl, rfl, .inl ⟨by decide, by decide⟩, _, _, rfl, rfl, y, _, rfl, rfl, .inl ⟨by omega, by omega⟩, _, rfl, _, _, rfl, rfl, .inl ⟨by decide, by decide⟩, _, rfl, _, _, rfl, rfl, .inr ⟨by omega, by omega⟩, _, _, rfl, rfl, _, _, rfl, rfl, _, 3, rfl, rfl, ⟨by decide, by decide, by omega⟩, .inl ⟨_, rfl, _, _, rfl, rfl, by show (0 : Int) < 2147483549; decide, ?_⟩⟩
          refine ⟨_, rfl, _, _, rfl, rfl, ⟨by decide, by decide⟩, .inl ⟨_, rfl, _, rfl, _, _, rfl, rfl, m0, k _ _ (Int.emod_nonneg _ (by omega)) (Int.emod_lt_of_pos _ m0) kp2 ⟨c, cs, t + 1, left, ⟨hq2, hc2, Y.ne, Y.len, Y.l0, by have := Y.t0; omega⟩, by omega⟩⟩⟩
      case neg =>
        refine iteF ?_
        refine ⟨_, rfl, .inl ⟨x, rfl, x, _, rfl, rfl, by show (0 : Int) < 2147483563; decide, _, rfl, _, _, rfl, rfl, .inl ⟨by decide, by decide⟩, _, _, rfl, rfl, _, _, rfl, rfl, _, 5, rfl, rfl, ?_, .inl ⟨_, rfl, _, _, rfl, rfl, by show (0 : Int) < 2147483579; decide, ?_⟩⟩⟩
        · have a1 := Int.emod_nonneg x (show (2147483563 : Int) ≠ 0 by decide)
          have a2 := Int.emod_lt_of_pos x (show (0 : Int) < 2147483563 by decide)
          exact ⟨by decide, by decide, by omega⟩
        dsimp only
        generalize hy : (_ % 2147483579 : Int) = y
        have y0 : 0 ≤ y := by rw [← hy]; exact Int.emod_nonneg _ (by decide)
        have y1 : y < 2147483579 := by rw [← hy]; exact Int.emod_lt_of_pos _ (by decide)
        obtain ⟨b1, b2⟩ := hew_size y0 y1 Y.t0 (show t ≤ 9000 by omega)
        refine ⟨_, rfl, _, rfl, 2, t, rfl, rfl, .inl ⟨by decide, by decide⟩, _, _, rfl, rfl, y, _, rfl, rfl, .inl ⟨by omega, by omega⟩, _, rfl, _, _, rfl, rfl, .inl ⟨by decide, by decide⟩, _, rfl, _, _, rfl, rfl, .inr ⟨by omega, by omega⟩, _, _, rfl, rfl, _, _, rfl, rfl, _, 3, rfl, rfl, ⟨by decide, by decide, by omega⟩, .inl ⟨_, rfl, _, _, rfl, rfl, by show (0 : Int) < 2147483549; decide, ?_⟩⟩
        refine ⟨_, rfl, _, _, rfl, rfl, ⟨by decide, by decide⟩, .inl ⟨_, rfl, _, rfl, _, _, rfl, rfl, m0, k _ _ (Int.emod_nonneg _ (by omega)) (Int.emod_lt_of_pos _ m0) kp2 ⟨c, cs, t + 1, left, ⟨hq2, hc2, Y.ne, Y.len, Y.l0, by have := Y.t0; omega⟩, by omega⟩⟩⟩
end
end TF


set_option Elab.async false
set_option linter.all false
set_option maxRecDepth 100000
set_option maxHeartbeats 4000000
namespace TF
open PySem PySem.Spec PyProof.Rows L2
section
variable {P : Program} {w : World} {K : PySem.W.Frag} {mg : Str → Option Value} {base : Heap} {CP CT CG CS CM : Addr}
/-- one of a list: which one is left open -/
def spPick : Sp := fun vs H Q _ => ∃ (q l : Addr) (xs : List V) (T : Nat), vs = [.ref q, .ref l] ∧ H l = some (.lst xs) ∧ l ≠ q ∧ 0 < xs.length ∧ xs.length ≤ 1000 ∧ T ≤ 9000 ∧ QyAt H q T ∧ ∀ v H', v ∈ xs → Kp q H H' → QyAt H' q (T + 1) → Q v H'
theorem ok_law_pick (B : Bz mg) (D : Df K mg "_law_pick" s_law_pick p_law_pick) (H_law_hew : Has P w K mg base CX0 1 "_law_hew" p_law_hew spHew) : Has P w K mg base CX0 2 "_law_pick" p_law_pick spPick := by
  refine D.ok sc_law_pick (fun vs H Q E h => ?_) (fun f cdv A outer s H vs Q E hr h => ?_)
  · obtain ⟨q, l, xs, T, rfl, _⟩ := h
    rfl
  · obtain ⟨q, l, xs, T, rfl, hl, hn, h0, h1, hT, Y, k⟩ := h
    refine ⟨_, (pss_one (ps_ret (pe_ix ix_list (pv 1) (pe_h H_law_hew (hr.mono (by decide)) pass0 (pa_cons (pv 0) (pa_cons (pe_callB call_len_seq (by rfl) B.len (by decide +kernel) (pa_cons (pv 1) pa_nil)) pa_nil))) (fun _ _ => rfl)))), ?_⟩
    refine ⟨_, rfl, _, rfl, _, rfl, l, xs, rfl, .inl (.of hl), q, xs.length, T, rfl, by omega, by omega, hT, Y, fun r H' r0 r1 kp Y' => ?_⟩
    have hj : r.toNat < xs.length := by omega
    have h9 : atI xs ((r.toNat : Nat) : Int) = some xs[r.toNat] := atI_nat (List.getElem?_eq_getElem hj)
    rw [Int.toNat_of_nonneg r0] at h9
    exact ⟨l, xs, r, _, rfl, rfl, .of (kp.lst hn hl), h9, k _ H' (List.getElem_mem hj) kp Y'⟩
theorem ok_law_pair (B : Bz mg) (D : Df K mg "_law_pair" s_law_pair p_law_pair) : Has P w K mg base CX0 1 "_law_pair" p_law_pair (spHalves K) := by
  refine D.ok sc_law_pair (fun vs H Q E h => ?_) (fun f cdv A outer s H vs Q E hr h => ?_)
  · obtain ⟨v, a, b, rfl, _⟩ := h
    rfl
  · obtain ⟨v, a, b, rfl, hn, q⟩ := h
    refine ⟨_, (pss_one (ps_ret (pe_ifExp (pt_val (pe_callB call_isi (by rfl) B.isi (by decide +kernel) (pa_cons (pv 0) (pa_cons (pe_bltn (v := .ty "int") (by rfl) B.int (by decide +kernel) rfl) pa_nil)))) (pe_tup (pa_cons (pv 0) (pa_cons pe_int pa_nil))) (pe_tup (pa_cons (pe_ix ix_tup (pv 0) pe_int (fun _ _ => rfl)) (pa_cons (pe_ix ix_tup (pv 0) pe_int (fun _ _ => rfl)) pa_nil)))))), ?_⟩
    have kI : PySem.W.kitOne K (.type "int") (.type "int") = some true := kit_ty (by decide +kernel)
    have kT : PySem.W.kitOne K (.type "tuple") (.type "int") = some false := kit_ty (by decide +kernel)
    rcases hn with ⟨e, rfl⟩ | ⟨e, p, rfl, hs⟩
    · have e : b = 1 := e
      subst e
      exact ⟨_, rfl, _, _, _, _, true, rfl, .ty "int", (VTy.int _).tyx, kI, _, rfl, iteT ⟨_, rfl, (by show 2 ≤ sizeLine; decide), fun p np => q p _ (same_upd np) upd_same⟩⟩
    · exact ⟨_, rfl, _, _, _, _, false, rfl, .ty "int", (VTy.tup hs).tyx, kT, _, rfl, iteF ⟨_, rfl, p, _, 0, _, rfl, rfl, hs, atI_nat (j := 0) rfl, _, rfl, p, _, 1, _, rfl, rfl, hs, atI_nat (j := 1) rfl, (by show 2 ≤ sizeLine; decide), fun p' np => q p' _ (same_upd np) upd_same⟩⟩
theorem ok_law_form (B : Bz mg) (D : Df K mg "_law_form" s_law_form p_law_form) : Has P w K mg base CX0 1 "_law_form" p_law_form (spLow K) := by
  refine D.ok sc_law_form (fun vs H Q E h => ?_) (fun f cdv A outer s H vs Q E hr h => ?_)
  · obtain ⟨a, b, rfl, _⟩ := h
    rfl
  · obtain ⟨a, b, rfl, hb, hz, q⟩ := h
    have hg := gcd_pos (a := a) hb
    have hgz : Sz 9000 (Int.gcd a b : Int) := hz.of_le (by have := gcd_le (a := a) hb; omega)
    refine ⟨_, (pss_cons (ps_par (i := 2) (j := 3) (by rfl) sc_law_form.nd rfl rfl (by decide) rfl rfl (pa_cons (pe_callB call_abs (by rfl) B.abs (by decide +kernel) (pa_cons (pv 0) pa_nil)) (pa_cons (pe_callB call_abs (by rfl) B.abs (by decide +kernel) (pa_cons (pv 1) pa_nil)) pa_nil)) (by rfl))
      (pss_cons (ps_while PassesOwn.never (pt_cmpR op_gt (pv 3) pe_int (nomark _))
      (pss_one (ps_par (i := 2) (j := 3) (by rfl) sc_law_form.nd rfl rfl (by decide) rfl rfl (pa_cons (pv 3) (pa_cons (pe_op op_mod (pe_callTy call_int1 (by rfl) B.int (by decide +kernel) (pa_cons (pv 2) pa_nil)) (pv 3)) pa_nil)) (by rfl))))
      (pss_cons (ps_set (i := 2) sc_law_form.nd rfl (Or.inl rfl) (pe_ifExp (pt_cmpR op_gt (pv 1) pe_int (nomark _)) (pv 2) (pe_un un_neg (pv 2))))
      (pss_one (ps_ret (pe_ifExp (pt_cmpR op_eq (pe_op op_fdivW (pv 1) (pv 2)) pe_int (nomark _)) (pe_op op_fdivW (pv 0) (pv 2)) (pe_tup (pa_cons (pe_op op_fdivW (pv 0) (pv 2)) (pa_cons (pe_op op_fdivW (pv 1) (pv 2)) pa_nil))))))))), ?_⟩
    refine ⟨_, rfl, _, rfl, _, rfl, _, rfl, _, _, rfl, ?_⟩
    refine while_by (fun σ H' => ∃ x y : Int, σ = [some (.int a), some (.int b), some (.int x), some (.int y)] ∧ 0 ≤ x ∧ 0 ≤ y ∧ Int.gcd x y = Int.gcd a b ∧ H' = H) (fun σ _ => match σ with | [_, _, _, some (.int y)] => y.toNat | _ => 0) ?_ ?_ ?_
    · rw [ifabs, ifabs]
      exact ⟨a.natAbs, b.natAbs, rfl, by omega, by omega, by simp [Int.gcd], rfl⟩
    · rintro σ H' ⟨x, y, rfl, hx, hy, hg2, rfl⟩
      refine ⟨_, rfl, _, _, rfl, rfl, _, rfl, ite2 (fun e => ?_) (fun e => ?_)⟩
      · have e : 0 < y := of_decide_eq_true e
        refine ⟨_, rfl, _, rfl, .inl ⟨_, rfl, _, rfl, _, _, rfl, rfl, e, _, _, rfl, ⟨y, x % y, rfl, by omega, Int.emod_nonneg _ (by omega), ?_, rfl⟩, ?_⟩⟩
        · rw [← Int.fmod_eq_emod_of_nonneg _ (by omega), gcd_step hx e]; exact hg2
        · show (x % y).toNat < y.toNat
          have := Int.emod_lt_of_pos x e
          have := Int.emod_nonneg x (show y ≠ 0 by omega)
          omega
      · have e : ¬ 0 < y := fun z => e (decide_eq_true z)
        have e0 : y = 0 := by omega
        subst e0
        have ex : x = (Int.gcd a b : Int) := by
          rw [← hg2]; simp [Int.gcd]; omega
        subst ex
        refine ⟨_, rfl, _, _, rfl, rfl, _, rfl, ite2 (fun _ => ?_) (fun z => absurd (decide_eq_true hb) z)⟩
        refine ⟨_, rfl, ?_⟩
        refine ⟨_, rfl, _, rfl, _, _, rfl, rfl, hgz.cdiv hg, rfl, _, rfl, ite2 (fun e => ?_) (fun e => ?_)⟩
        · have e : b / (Int.gcd a b : Int) = 1 := V.int.inj (of_decide_eq_true e)
          refine ⟨_, rfl, _, rfl, _, _, rfl, rfl, hgz.cdiv hg, ?_⟩
          exact q _ _ (Same.refl _) (.inl ⟨e, rfl⟩)
        · have e : ¬ b / (Int.gcd a b : Int) = 1 := fun z => e (decide_eq_true (congrArg V.int z))
          refine ⟨_, rfl, _, rfl, _, _, rfl, rfl, hgz.cdiv hg, _, rfl, _, rfl, _, _, rfl, rfl, hgz.cdiv hg, (by show 2 ≤ sizeLine; decide), fun p np => ?_⟩
          exact q _ _ (same_upd np) (.inr ⟨e, p, rfl, SqT.of upd_same⟩)
    · exact fun σ H Q Q' hq ⟨v, e1, i, j, e2, e3, k, e4, q⟩ => ⟨v, e1, i, j, e2, e3, k, e4, hq _ _ q⟩
theorem ok_law_add (D : Df K mg "_law_add" s_law_add p_law_add) (H_law_pair : Has P w K mg base CX0 1 "_law_pair" p_law_pair (spHalves K)) (H_law_form : Has P w K mg base CX0 1 "_law_form" p_law_form (spLow K)) : Has P w K mg base CX0 2 "_law_add" p_law_add (spPlus K) := by
  refine D.ok sc_law_add (fun vs H Q E h => ?_) (fun f cdv A outer s H vs Q E hr h => ?_)
  · obtain ⟨a, b, c, d, ⟨v, u, rfl, _⟩, _⟩ := h
    rfl
  · obtain ⟨a, b, c, d, ⟨v, u, rfl, hv, hu, hb, hd, za, zb, zc, zd⟩, q⟩ := h
    refine ⟨_, (pss_cons (ps_asg (pe_tup (pa_cons (pe_h H_law_pair (hr.mono (by decide)) pass0 (pa_cons (pv 0) pa_nil)) (pa_cons (pe_h H_law_pair (hr.mono (by decide)) pass0 (pa_cons (pv 1) pa_nil)) pa_nil))) (pg_tup (by rfl) (pgs_cons (pg_tup (by rfl) (pgs_cons (pg_name (i := 2) sc_law_add.nd rfl (.inl rfl)) (pgs_cons (pg_name (i := 3) sc_law_add.nd rfl (.inl rfl)) pgs_nil))) (pgs_cons (pg_tup (by rfl) (pgs_cons (pg_name (i := 4) sc_law_add.nd rfl (.inl rfl)) (pgs_cons (pg_name (i := 5) sc_law_add.nd rfl (.inl rfl)) pgs_nil))) pgs_nil))))
      (pss_one (ps_ret (pe_h H_law_form (hr.mono (by decide)) pass0 (pa_cons (pe_op op_add (pe_op op_mulW (pv 2) (pv 5)) (pe_op op_mulW (pv 4) (pv 3))) (pa_cons (pe_op op_mulW (pv 3) (pv 5)) pa_nil)))))), ?_⟩
    refine ⟨_, rfl, v, a, b, rfl, hv, fun p1 H1 s1 e1 => ⟨_, rfl, u, c, d, rfl, hu.same s1, fun p2 H2 s2 e2 => ⟨(by show 2 ≤ sizeLine; decide), fun p3 np => ?_⟩⟩⟩
    have s3 := same_upd (o := HO.tup [.ref p1, .ref p2]) np
    refine ⟨p3, _, rfl, SqT.of upd_same, rfl, _, _, rfl, ⟨p1, _, rfl, SqT.of (s3 _ _ (s2 _ _ e1)), rfl, _, _, rfl, _, _, rfl, rfl, _, _, rfl, ⟨p2, _, rfl, SqT.of (s3 _ _ e2), rfl, _, _, rfl, _, _, rfl, rfl, rfl, ?_⟩⟩⟩
    refine ⟨_, rfl, _, rfl, _, _, rfl, rfl, za.cmul zd, _, rfl, _, rfl, _, _, rfl, rfl, zc.cmul zb, _, _, rfl, rfl, _, rfl, _, rfl, _, _, rfl, rfl, zb.cmul zd, ?_⟩
    exact ⟨_, _, rfl, Int.mul_pos hb hd, (zb.mul zd).mono (by decide), fun v H' s' hn => q v H' ((s1.trans s2).trans (s3.trans s')) hn⟩
theorem ok_law_mul (D : Df K mg "_law_mul" s_law_mul p_law_mul) (H_law_pair : Has P w K mg base CX0 1 "_law_pair" p_law_pair (spHalves K)) (H_law_form : Has P w K mg base CX0 1 "_law_form" p_law_form (spLow K)) : Has P w K mg base CX0 2 "_law_mul" p_law_mul (spTimes K) := by
  refine D.ok sc_law_mul (fun vs H Q E h => ?_) (fun f cdv A outer s H vs Q E hr h => ?_)
  · obtain ⟨a, b, c, d, ⟨v, u, rfl, _⟩, _⟩ := h
    rfl
  · obtain ⟨a, b, c, d, ⟨v, u, rfl, hv, hu, hb, hd, za, zb, zc, zd⟩, q⟩ := h
    refine ⟨_, (pss_cons (ps_asg (pe_tup (pa_cons (pe_h H_law_pair (hr.mono (by decide)) pass0 (pa_cons (pv 0) pa_nil)) (pa_cons (pe_h H_law_pair (hr.mono (by decide)) pass0 (pa_cons (pv 1) pa_nil)) pa_nil))) (pg_tup (by rfl) (pgs_cons (pg_tup (by rfl) (pgs_cons (pg_name (i := 2) sc_law_mul.nd rfl (.inl rfl)) (pgs_cons (pg_name (i := 3) sc_law_mul.nd rfl (.inl rfl)) pgs_nil))) (pgs_cons (pg_tup (by rfl) (pgs_cons (pg_name (i := 4) sc_law_mul.nd rfl (.inl rfl)) (pgs_cons (pg_name (i := 5) sc_law_mul.nd rfl (.inl rfl)) pgs_nil))) pgs_nil))))
      (pss_one (ps_ret (pe_h H_law_form (hr.mono (by decide)) pass0 (pa_cons (pe_op op_mulW (pv 2) (pv 4)) (pa_cons (pe_op op_mulW (pv 3) (pv 5)) pa_nil)))))), ?_⟩
    refine ⟨_, rfl, v, a, b, rfl, hv, fun p1 H1 s1 e1 => ⟨_, rfl, u, c, d, rfl, hu.same s1, fun p2 H2 s2 e2 => ⟨(by show 2 ≤ sizeLine; decide), fun p3 np => ?_⟩⟩⟩
    have s3 := same_upd (o := HO.tup [.ref p1, .ref p2]) np
    refine ⟨p3, _, rfl, SqT.of upd_same, rfl, _, _, rfl, ⟨p1, _, rfl, SqT.of (s3 _ _ (s2 _ _ e1)), rfl, _, _, rfl, _, _, rfl, rfl, _, _, rfl, ⟨p2, _, rfl, SqT.of (s3 _ _ e2), rfl, _, _, rfl, _, _, rfl, rfl, rfl, ?_⟩⟩⟩
    refine ⟨_, rfl, _, rfl, _, _, rfl, rfl, za.cmul zc, _, rfl, _, rfl, _, _, rfl, rfl, zb.cmul zd, ?_⟩
    exact ⟨_, _, rfl, Int.mul_pos hb hd, (zb.mul zd).mono (by decide), fun v H' s' hn => q v H' ((s1.trans s2).trans (s3.trans s')) hn⟩
theorem ok_law_less (D : Df K mg "_law_less" s_law_less p_law_less) (H_law_pair : Has P w K mg base CX0 1 "_law_pair" p_law_pair (spHalves K)) : Has P w K mg base CX0 2 "_law_less" p_law_less (spBelow K) := by
  refine D.ok sc_law_less (fun vs H Q E h => ?_) (fun f cdv A outer s H vs Q E hr h => ?_)
  · obtain ⟨a, b, c, d, ⟨v, u, rfl, _⟩, _⟩ := h
    rfl
  · obtain ⟨a, b, c, d, ⟨v, u, rfl, hv, hu, hb, hd, za, zb, zc, zd⟩, q⟩ := h
    refine ⟨_, (pss_cons (ps_asg (pe_tup (pa_cons (pe_h H_law_pair (hr.mono (by decide)) pass0 (pa_cons (pv 0) pa_nil)) (pa_cons (pe_h H_law_pair (hr.mono (by decide)) pass0 (pa_cons (pv 1) pa_nil)) pa_nil))) (pg_tup (by rfl) (pgs_cons (pg_tup (by rfl) (pgs_cons (pg_name (i := 2) sc_law_less.nd rfl (.inl rfl)) (pgs_cons (pg_name (i := 3) sc_law_less.nd rfl (.inl rfl)) pgs_nil))) (pgs_cons (pg_tup (by rfl) (pgs_cons (pg_name (i := 4) sc_law_less.nd rfl (.inl rfl)) (pgs_cons (pg_name (i := 5) sc_law_less.nd rfl (.inl rfl)) pgs_nil))) pgs_nil))))
      (pss_one (ps_ret (pe_cmpR op_lt (pe_op op_mulW (pv 2) (pv 5)) (pe_op op_mulW (pv 4) (pv 3)) (nomark _))))), ?_⟩
    refine ⟨_, rfl, v, a, b, rfl, hv, fun p1 H1 s1 e1 => ⟨_, rfl, u, c, d, rfl, hu.same s1, fun p2 H2 s2 e2 => ⟨(by show 2 ≤ sizeLine; decide), fun p3 np => ?_⟩⟩⟩
    have s3 := same_upd (o := HO.tup [.ref p1, .ref p2]) np
    refine ⟨p3, _, rfl, SqT.of upd_same, rfl, _, _, rfl, ⟨p1, _, rfl, SqT.of (s3 _ _ (s2 _ _ e1)), rfl, _, _, rfl, _, _, rfl, rfl, _, _, rfl, ⟨p2, _, rfl, SqT.of (s3 _ _ e2), rfl, _, _, rfl, _, _, rfl, rfl, rfl, ?_⟩⟩⟩
    exact ⟨_, rfl, _, rfl, _, _, rfl, rfl, za.cmul zd, _, rfl, _, rfl, _, _, rfl, rfl, zc.cmul zb, _, _, rfl, rfl, q _ ((s1.trans s2).trans s3)⟩
end
end TF


set_option Elab.async false
set_option linter.all false
set_option maxRecDepth 100000
set_option maxHeartbeats 4000000
namespace TF
open PySem PySem.Spec PyProof.Rows L2
section
variable {P : Program} {w : World} {K : PySem.W.Frag} {mg : Str → Option Value} {base : Heap} {CP CT CG CS CM : Addr}
def spLine : Sp := fun vs H Q _ => ∃ (q : Addr) (n : Nat) (T : Nat), vs = [.ref q, .int n] ∧ 0 < n ∧ n ≤ 15 ∧ T ≤ 8000 ∧ QyAt H q T ∧ ∀ a xs H', Kp q H H' → QyAt H' q (T + 4) → H' a = some (.tup xs) → LnOk n xs → Q (.ref a) H'
theorem ok_law_line (D : Df K mg "_law_line" s_law_line p_law_line) (H_law_hew : Has P w K mg base CX0 1 "_law_hew" p_law_hew spHew) (H_law_pick : Has P w K mg base CX0 2 "_law_pick" p_law_pick spPick) : Has P w K mg base CX0 3 "_law_line" p_law_line spLine := by
  refine D.ok sc_law_line (fun vs H Q E h => ?_) (fun f cdv A outer s H vs Q E hr h => ?_)
  · obtain ⟨q, n, T, rfl, _⟩ := h
    rfl
  · obtain ⟨q, n, T, rfl, n0, n1, hT, Y, k⟩ := h
    refine ⟨_, (pss_cons (ps_par (i := 2) (j := 3) (by rfl) sc_law_line.nd rfl rfl (by decide) rfl rfl (pa_cons (pe_h H_law_pick (hr.mono (by decide)) pass0 (pa_cons (pv 0) (pa_cons (pe_lst (pa_cons pe_str (pa_cons pe_str (pa_cons pe_str (pa_cons pe_str (pa_cons pe_str (pa_cons pe_str (pa_cons pe_str pa_nil)))))))) pa_nil))) (pa_cons (pe_h H_law_hew (hr.mono (by decide)) pass0 (pa_cons (pv 0) (pa_cons pe_int pa_nil))) pa_nil)) (by rfl))
      (pss_cons (ps_if (pt_cmpR op_eq (pv 2) pe_str (nomark _))
      (pss_one (ps_ret (pe_tup (pa_cons (pv 2) pa_nil))))
      pss_nil)
      (pss_cons (ps_if (pt_cmpR op_eq (pv 2) pe_str (nomark _))
      (pss_one (ps_ret (pe_tup (pa_cons (pv 2) (pa_cons (pv 3) (pa_cons (pe_h H_law_hew (hr.mono (by decide)) pass0 (pa_cons (pv 0) (pa_cons (pv 1) pa_nil))) (pa_cons (pe_h H_law_hew (hr.mono (by decide)) pass0 (pa_cons (pv 0) (pa_cons (pv 1) pa_nil))) pa_nil)))))))
      pss_nil)
      (pss_one (ps_ret (pe_tup (pa_cons (pv 2) (pa_cons (pv 3) (pa_cons (pe_h H_law_hew (hr.mono (by decide)) pass0 (pa_cons (pv 0) (pa_cons (pv 1) pa_nil))) pa_nil))))))))), ?_⟩
    refine ⟨_, rfl, by show 7 ≤ sizeLine; decide, fun p np => ⟨q, p, _, T, rfl, upd_same, fresh_ne np Y, by show 0 < 7; decide, by show 7 ≤ 1000; decide, by omega, Y.same (same_upd np), fun v H1 hv k1 Y1 => ?_⟩⟩
    refine ⟨_, rfl, q, 2, T + 1, rfl, by decide, by decide, by omega, Y1, fun r H2 r0 r1 k2 Y2 => ⟨_, _, rfl, ?_⟩⟩
    have k02 := ((Y.kp (same_upd np)).trans k1).trans k2
    have hv4 : (∃ wd : Str, (wd = "up" ∨ wd = "down") ∧ v = .str wd) ∨ v = .str "test" ∨ v = .str "stop" := by
      simp only [List.mem_cons, List.not_mem_nil, or_false] at hv
      rcases hv with h | h | h | h | h | h | h
      · exact .inl ⟨_, .inl rfl, h⟩
      · exact .inl ⟨_, .inr rfl, h⟩
      · exact .inr (.inl h)
      · exact .inl ⟨_, .inl rfl, h⟩
      · exact .inl ⟨_, .inr rfl, h⟩
      · exact .inr (.inl h)
      · exact .inr (.inr h)
    rcases hv4 with ⟨wd, hw, rfl⟩ | rfl | rfl
    · have e1 : decide (V.str wd = V.str "stop") = false := by rcases hw with rfl | rfl <;> decide
      have e2 : decide (V.str wd = V.str "test") = false := by rcases hw with rfl | rfl <;> decide
      refine ⟨_, rfl, rfl, _, rfl, ?_⟩
      rw [e1]
      refine iteF ⟨_, rfl, rfl, _, rfl, ?_⟩
      rw [e2]
      refine iteF ⟨_, rfl, _, rfl, _, rfl, _, rfl, q, n, T + 2, rfl, by omega, by omega, by omega, Y2, fun a H3 a0 a1 k3 Y3 => ⟨by show 3 ≤ sizeLine; decide, fun t nt => ?_⟩⟩
      exact k t _ _ ((k02.trans k3).same (same_upd nt)) ((Y3.same (same_upd nt)).mono (by omega)) upd_same (.go wd hw r a ⟨r0, by omega⟩ ⟨a0, a1⟩)
    · refine ⟨_, rfl, rfl, _, rfl, iteF ⟨_, rfl, rfl, _, rfl, iteT ?_⟩⟩
      refine ⟨_, rfl, _, rfl, _, rfl, _, rfl, q, n, T + 2, rfl, by omega, by omega, by omega, Y2, fun a H3 a0 a1 k3 Y3 => ?_⟩
      refine ⟨_, rfl, _, rfl, q, n, T + 3, rfl, by omega, by omega, by omega, Y3, fun b H4 b0 b1 k4 Y4 => ⟨by show 4 ≤ sizeLine; decide, fun t nt => ?_⟩⟩
      exact k t _ _ (((k02.trans k3).trans k4).same (same_upd nt)) ((Y4.same (same_upd nt)).mono (by omega)) upd_same (.test r a b ⟨r0, by omega⟩ ⟨a0, a1⟩ ⟨b0, b1⟩)
    · refine ⟨_, rfl, rfl, _, rfl, iteT ⟨_, rfl, by show 1 ≤ sizeLine; decide, fun t nt => ?_⟩⟩
      exact k t _ _ (k02.same (same_upd nt)) ((Y2.same (same_upd nt)).mono (by omega)) upd_same .stop
/-- the lines of a program -/
def spLines (K : PySem.W.Frag) : Sp := fun vs H Q _ => ∃ (q : Addr) (T : Nat), vs = [.ref q, .int 15] ∧ T ≤ 7000 ∧ QyAt H q T ∧ ∀ l ls H', Kp q H H' → QyAt H' q (T + 61) → H' l = some (.lst ls) → l ≠ q → 1 ≤ ls.length → ls.length ≤ 15 → (∀ v ∈ ls, LnAt K H' ls.length v) → Q (.ref l) H'
theorem ok_law_lines (B : Bz mg) (D : Df K mg "_law_lines" s_law_lines p_law_lines) (H_law_hew : Has P w K mg base CX0 1 "_law_hew" p_law_hew spHew) (H_law_line : Has P w K mg base CX0 3 "_law_line" p_law_line spLine) : Has P w K mg base CX0 4 "_law_lines" p_law_lines (spLines K) := by
  refine D.ok sc_law_lines (fun vs H Q E h => ?_) (fun f cdv A outer s H vs Q E hr h => ?_)
  · obtain ⟨q, T, rfl, _⟩ := h
    rfl
  · obtain ⟨q, T, rfl, hT, Y, k⟩ := h
    refine ⟨_, (pss_cons (ps_set (i := 2) sc_law_lines.nd rfl (Or.inr rfl) (pe_op op_add pe_int (pe_h H_law_hew (hr.mono (by decide)) pass0 (pa_cons (pv 0) (pa_cons (pv 1) pa_nil)))))
      (pss_one (ps_ret (pe_lc (own := [("_law_at", 3)]) (g := gName 3) (tt := tYes) rfl sc_law_lines.nd (pi_range1 rfl B.range (pa_cons (pv 2) pa_nil)) (blkOk_by (N := n_law_lines) (sc := defScope s_law_lines) (by decide +kernel)) (fun _ _ _ _ _ => pg_name (i := 3) sc_law_lines.nd rfl (Or.inl rfl)) (fun _ _ _ _ _ => pts_nil) (fun _ _ _ _ _ => (pe_h H_law_line (hr.mono (by decide)) pass0 (pa_cons (pv 0) (pa_cons (pv 2) pa_nil)))))))), ?_⟩
    refine ⟨_, rfl, _, rfl, q, 15, T, rfl, by decide, by decide, by omega, Y, fun r H1 r0 r1 k1 Y1 => ?_⟩
    refine ⟨_, _, rfl, rfl, ?_⟩
    obtain ⟨n, hn⟩ := Int.eq_ofNat_of_zero_le (show 0 ≤ 1 + r by omega)
    dsimp only
    rw [hn]
    refine ⟨_, rfl, (n : Int), rfl, by omega, by omega, fun D nD => ?_⟩
    rw [Int.toNat_natCast]
    refine lc_range (fun i H2 => ∃ ls, Kp q H1 H2 ∧ QyAt H2 q (T + 1 + 4 * i) ∧ H2 D = some (.lst ls) ∧ ls.length = i ∧ ∀ v ∈ ls, LnAt K H2 n v) ?_ ?_ ?_
    · exact ⟨[], Y1.kp (same_upd nD), Y1.same (same_upd nD), upd_same, rfl, fun v hv => by cases hv⟩
    · rintro i H2 hi ⟨ls, k2, Y2, e2, l2, hv⟩
      have hD := fresh_ne nD Y1
      refine ⟨rfl, ?_⟩
      refine iteT (B := False) ⟨_, rfl, _, rfl, q, n, T + 1 + 4 * i, rfl, by omega, by omega, by omega, Y2, fun a xs H3 k3 Y3 e3 h3 => ?_⟩
      have e4 := k3.lst hD e2
      have ha : a ≠ D := fun e => by rw [e, e4] at e3; cases e3
      have k13 := k2.trans k3
      refine ⟨ls, e4, by rw [sizeLine_eq]; omega, ls ++ [.ref a], k13.new nD, (Y1.new k13 Y3 nD).mono (by omega), upd_same, by rw [List.length_append, l2]; rfl, fun v hm => ?_⟩
      have sD : ∀ {p : Addr} {ys : List V}, SqT K H3 p ys → SqT K (upd H3 D (.lst (ls ++ [.ref a]))) p ys := fun {p ys} hs => by
        rcases hs with (h | ⟨o, h⟩) | h
        · exact .inl (.inl (by rw [upd_ne (fun e => by rw [e, e4] at h; cases h)]; exact h))
        · exact .inl (.inr ⟨o, by rw [upd_ne (fun e => by rw [e, e4] at h; cases h)]; exact h⟩)
        · exact .inr h
      rcases List.mem_append.mp hm with hm | hm
      · obtain ⟨p, ys, rfl, h1, h2⟩ := k3.ln (hv v hm)
        exact ⟨p, ys, rfl, sD h1, h2⟩
      · cases List.mem_singleton.mp hm
        exact ⟨a, xs, rfl, sD (.of e3), h3⟩
    · rintro H2 ⟨ls, k2, Y2, e2, l2, hv⟩
      exact k D ls H2 (k1.trans k2) (Y2.mono (by omega)) e2 (fresh_ne nD Y1) (by omega) (by omega) (by rw [l2]; exact hv)
end
end TF


set_option Elab.async false
set_option linter.all false
set_option maxRecDepth 100000
set_option maxHeartbeats 4000000
namespace TF
open PySem PySem.Spec PyProof.Rows L2
section
variable {P : Program} {w : World} {K : PySem.W.Frag} {mg : Str → Option Value} {base : Heap} {CP CT CG CS CM : Addr}
/-- contents of the quarry -/
def spConts : Sp := fun vs H Q _ => ∃ (q : Addr) (T : Nat), vs = [.ref q] ∧ T ≤ 8000 ∧ QyAt H q T ∧ ∀ c H', (∀ k, c = some k → k ≤ 200) → Kp q H H' → QyAt H' q (T + 3) → Q (cv c) H'
theorem cv_int {i : Int} (h : 0 ≤ i) (h2 : i ≤ 200) : ∃ c : Option Nat, V.int i = cv c ∧ ∀ k, c = some k → k ≤ 200 :=
  ⟨some i.toNat, by show V.int i = V.int (i.toNat : Nat); rw [Int.toNat_of_nonneg h], fun k e => by cases e; omega⟩
theorem ok_law_contents (D : Df K mg "_law_contents" s_law_contents p_law_contents) (H_law_hew : Has P w K mg base CX0 1 "_law_hew" p_law_hew spHew) (H_law_pick : Has P w K mg base CX0 2 "_law_pick" p_law_pick spPick) : Has P w K mg base CX0 3 "_law_contents" p_law_contents spConts := by
  refine D.ok sc_law_contents (fun vs H Q E h => ?_) (fun f cdv A outer s H vs Q E hr h => ?_)
  · obtain ⟨q, T, rfl, _⟩ := h
    rfl
  · obtain ⟨q, T, rfl, hT, Y, k⟩ := h
    refine ⟨_, (pss_one (ps_ret (pe_h H_law_pick (hr.mono (by decide)) pass0 (pa_cons (pv 0) (pa_cons (pe_lst (pa_cons pe_int (pa_cons pe_int (pa_cons pe_int (pa_cons pe_non (pa_cons (pe_h H_law_hew (hr.mono (by decide)) pass0 (pa_cons (pv 0) (pa_cons pe_int pa_nil))) (pa_cons (pe_h H_law_hew (hr.mono (by decide)) pass0 (pa_cons (pv 0) (pa_cons pe_int pa_nil))) pa_nil))))))) pa_nil))))), ?_⟩
    refine ⟨_, rfl, _, rfl, q, 6, T, rfl, by decide, by decide, by omega, Y, fun a H1 a0 a1 k1 Y1 => ⟨_, rfl, q, 30, T + 1, rfl, by decide, by decide, by omega, Y1, fun b H2 b0 b1 k2 Y2 => ⟨by show 6 ≤ sizeLine; decide, fun p np => ?_⟩⟩⟩
    refine ⟨q, p, _, T + 2, rfl, upd_same, fresh_ne np Y2, by show 0 < 6; decide, by show 6 ≤ 1000; decide, by omega, Y2.same (same_upd np), fun v H3 hv k3 Y3 => ?_⟩
    have kk := ((k1.trans k2).same (same_upd np)).trans k3
    have hc : ∃ c : Option Nat, v = cv c ∧ ∀ k, c = some k → k ≤ 200 := by
      simp only [List.mem_cons, List.not_mem_nil, or_false] at hv
      rcases hv with rfl | rfl | rfl | rfl | rfl | rfl
      · exact cv_int (by decide) (by decide)
      · exact cv_int (by decide) (by decide)
      · exact cv_int (by decide) (by decide)
      · exact ⟨none, rfl, fun k e => by cases e⟩
      · exact cv_int a0 (by omega)
      · exact cv_int b0 (by omega)
    obtain ⟨c, rfl, hc⟩ := hc
    exact k c H3 hc kk Y3
theorem ok_law_height (B : Bz mg) (D : Df K mg "_law_height" s_law_height p_law_height) : Has P w K mg base CX0 1 "_law_height" p_law_height (spHeight K) := by
  refine D.ok sc_law_height (fun vs H Q E h => ?_) (fun f cdv A outer s H vs Q E hr h => ?_)
  · obtain ⟨c, rfl, _⟩ := h
    rfl
  · obtain ⟨c, rfl, hc, q⟩ := h
    refine ⟨_, (pss_cons (ps_if (PW.pt (pw_or (pt_cmpR op_isN (pv 0) pe_non (nomark _)) (pw_or1 (pt_cmpR op_eq (pv 0) pe_int (nomark _)))))
      (pss_one (ps_ret (pe_ifExp (pt_cmpR op_isN (pv 0) pe_non (nomark _)) pe_int pe_int)))
      pss_nil)
      (pss_cons (ps_set (i := 1) sc_law_height.nd rfl (Or.inl rfl) pe_int)
      (pss_cons (ps_for PassesOwn.never rfl (pi_range1 rfl B.range (pa_cons (pe_op op_sub (pv 0) pe_int) pa_nil)) (pg_name (i := 2) sc_law_height.nd rfl (.inl rfl))
      (pss_one (ps_set (i := 1) sc_law_height.nd rfl (Or.inl rfl) (pe_op op_mulW (pv 1) pe_int))))
      (pss_one (ps_ret (pe_ifExp (pt_cmpR op_eq (pv 1) pe_int (nomark _)) pe_int (pe_tup (pa_cons pe_int (pa_cons (pv 1) pa_nil))))))))), ?_⟩
    match c, hc, q with
    | none, hc, q => exact ⟨_, rfl, rfl, _, rfl, iteT (iteT ⟨_, rfl, rfl, _, rfl, iteT (q _ _ (Same.refl _) (.int 0))⟩)⟩
    | some 0, hc, q => exact ⟨_, rfl, rfl, _, rfl, iteF ⟨_, rfl, rfl, _, rfl, iteT ⟨_, rfl, rfl, _, rfl, iteF (q _ _ (Same.refl _) (.int 3))⟩⟩⟩
    | some (n + 1), hc, q =>
      have hn := hc _ rfl
      refine ⟨_, rfl, rfl, _, rfl, iteF ⟨_, rfl, rfl, _, rfl, ?_⟩⟩
      have e0 : decide (cv (some (n + 1)) = V.int 0) = false := decide_eq_false fun z => by
        have := V.int.inj z
        omega
      rw [e0]
      refine iteF ⟨_, rfl, _, _, rfl, rfl, n, ?_, ?_, ?_, ?_⟩
      · exact congrArg (fun z => [V.int z]) (show ((n + 1 : Nat) : Int) - 1 = n by omega)
      · omega
      · omega
      · refine for_range (lo := 0) (n := (n : Int).toNat) (fun i σ H' => ∃ y, σ = [some (.int ((n + 1 : Nat) : Int)), some (.int (3 ^ i)), y] ∧ H' = H) ⟨_, rfl, rfl⟩ ?_ ?_
        · rintro i σ H' hi ⟨y, rfl, rfl⟩
          have z1 : Sz 3000 ((3 : Int) ^ i) := sz_pow3 i 3000 (by omega)
          refine ⟨_, rfl, _, _, rfl, rfl, z1.cmul (m := 20) (by unfold Sz; decide), some (.int (0 + (i : Int))), ?_, rfl⟩
          rw [Int.pow_succ]
          rfl
        · rintro σ H' ⟨y, rfl, rfl⟩
          rw [show (n : Int).toNat = n by omega]
          refine ⟨_, rfl, rfl, _, rfl, ite2 (fun e => ?_) (fun e => ?_)⟩
          · have e : (3 : Int) ^ n = 1 := V.int.inj (of_decide_eq_true e)
            exact q _ _ (Same.refl _) (.inl ⟨e, rfl⟩)
          · have e : ¬ (3 : Int) ^ n = 1 := fun z => e (decide_eq_true (congrArg V.int z))
            exact ⟨_, rfl, by show 2 ≤ sizeLine; decide, fun p np => q _ _ (same_upd np) (.inr ⟨e, p, rfl, .of upd_same⟩)⟩
theorem ok_law_point (D : Df K mg "_law_point" s_law_point p_law_point) (H_law_add : Has P w K mg base CX0 2 "_law_add" p_law_add (spPlus K)) (H_law_height : Has P w K mg base CX0 1 "_law_height" p_law_height (spHeight K)) : Has P w K mg base CX0 3 "_law_point" p_law_point (spPointIn K) := by
  refine D.ok sc_law_point (fun vs H Q E h => ?_) (fun f cdv A outer s H vs Q E hr h => ?_)
  · obtain ⟨p, l, c1, c2, rfl, _⟩ := h
    rfl
  · obtain ⟨p, l, c1, c2, rfl, hs, h0, h15, hc1, hc2, q⟩ := h
    refine ⟨_, (pss_one (ps_ret (pe_tup (pa_cons (pe_h H_law_add (hr.mono (by decide)) pass0 (pa_cons (pe_op op_mulW pe_int (pe_ix ix_tup (pv 0) pe_int (fun _ _ => rfl))) (pa_cons (pe_h H_law_height (hr.mono (by decide)) pass0 (pa_cons (pe_ix ix_tup (pv 0) pe_int (fun _ _ => rfl)) pa_nil)) pa_nil))) (pa_cons (pe_h H_law_height (hr.mono (by decide)) pass0 (pa_cons (pe_ix ix_tup (pv 0) pe_int (fun _ _ => rfl)) pa_nil)) pa_nil))))), ?_⟩
    refine ⟨_, rfl, p, _, 0, _, rfl, rfl, hs, atI_nat (j := 0) rfl, _, _, rfl, rfl, Sz.cmul (n := 10) (m := 10) (by unfold Sz; decide) (by unfold Sz; omega), _, rfl, p, _, 1, _, rfl, rfl, hs, atI_nat (j := 1) rfl, c1, rfl, hc1, fun v1 H1 s1 n1 => ?_⟩
    have z1 := ht_sz hc1
    refine ⟨4 * l, 1, (ht c1).1, (ht c1).2, ⟨_, _, rfl, .int _, n1, by decide, ht_pos _, sz_small (by omega), sz_small (by decide), z1.1.mono (by decide), z1.2.mono (by decide)⟩, fun v2 H2 s2 n2 => ?_⟩
    have e2 : red (4 * l * (ht c1).2 + (ht c1).1 * 1) (1 * (ht c1).2) = px l c1 := by
      rw [Int.mul_one, Int.one_mul]
      exact red_of (px_rd l c1).2
    rw [e2] at n2
    have s12 := s1.trans s2
    refine ⟨_, rfl, p, _, 2, _, rfl, rfl, sqT_same s12 hs, atI_nat (j := 2) rfl, c2, rfl, hc2, fun v3 H3 s3 n3 => ⟨(by show 2 ≤ sizeLine; decide), fun t nt => ?_⟩⟩
    have s4 := same_upd (o := HO.tup [v2, v3]) nt
    exact q t v2 v3 _ (s12.trans (s3.trans s4)) upd_same (n2.same (s3.trans s4)) (n3.same s4)
/-- a stand: contents up to 200 -/
def spFar : Sp := fun vs H Q _ => ∃ (q l : Addr) (ls : List V) (T : Nat), vs = [.ref q, .ref l] ∧ H l = some (.lst ls) ∧ l ≠ q ∧ 1 ≤ ls.length ∧ ls.length ≤ 15 ∧ T ≤ 7000 ∧ QyAt H q T ∧
  ∀ t z c1 c2 H', Kp q H H' → QyAt H' q (T + 10) → H' t = some (.tup [.int z, cv c1, cv c2]) → 0 ≤ z → z < ls.length → (∀ k, c1 = some k → k ≤ 200) → (∀ k, c2 = some k → k ≤ 200) → Q (.ref t) H'
theorem ok_law_far_stand (B : Bz mg) (D : Df K mg "_law_far_stand" s_law_far_stand p_law_far_stand) (H_law_hew : Has P w K mg base CX0 1 "_law_hew" p_law_hew spHew) (H_law_pick : Has P w K mg base CX0 2 "_law_pick" p_law_pick spPick)
    (H_law_contents : Has P w K mg base CX0 3 "_law_contents" p_law_contents spConts) : Has P w K mg base CX0 4 "_law_far_stand" p_law_far_stand spFar := by
  refine D.ok sc_law_far_stand (fun vs H Q E h => ?_) (fun f cdv A outer s H vs Q E hr h => ?_)
  · obtain ⟨q, l, ls, T, rfl, _⟩ := h
    rfl
  · obtain ⟨q, l, ls, T, rfl, hl, hn, l1, l2, hT, Y, k⟩ := h
    refine ⟨_, (pss_cons (ps_set (i := 2) sc_law_far_stand.nd rfl (Or.inl rfl) (pe_lst (pa_cons (pe_h H_law_contents (hr.mono (by decide)) pass0 (pa_cons (pv 0) pa_nil)) (pa_cons (pe_h H_law_contents (hr.mono (by decide)) pass0 (pa_cons (pv 0) pa_nil)) (pa_cons pe_int (pa_cons pe_int (pa_cons (pe_h H_law_hew (hr.mono (by decide)) pass0 (pa_cons (pv 0) (pa_cons pe_int pa_nil))) pa_nil)))))))
      (pss_one (ps_ret (pe_tup (pa_cons (pe_h H_law_hew (hr.mono (by decide)) pass0 (pa_cons (pv 0) (pa_cons (pe_callB call_len_seq (by rfl) B.len (by decide +kernel) (pa_cons (pv 1) pa_nil)) pa_nil))) (pa_cons (pe_h H_law_pick (hr.mono (by decide)) pass0 (pa_cons (pv 0) (pa_cons (pv 2) pa_nil))) (pa_cons (pe_h H_law_pick (hr.mono (by decide)) pass0 (pa_cons (pv 0) (pa_cons (pe_revL (pv 2)) pa_nil))) pa_nil))))))), ?_⟩
    refine ⟨_, rfl, q, T, rfl, by omega, Y, fun x1 H1 hx1 k1 Y1 => ⟨_, rfl, q, T + 3, rfl, by omega, Y1, fun x2 H2 hx2 k2 Y2 => ⟨_, rfl, q, 201, T + 6, rfl, by decide, by decide, by omega, Y2, fun a H3 a0 a1 k3 Y3 => ⟨by show 5 ≤ sizeLine; decide, fun p np => ?_⟩⟩⟩⟩
    have hpq := fresh_ne np Y3
    have k4 := ((k1.trans k2).trans k3).same (same_upd (o := .lst [cv x1, cv x2, .int 200, .int 199, .int a]) np)
    have Y4 := Y3.same (same_upd (o := .lst [cv x1, cv x2, .int 200, .int 199, .int a]) np)
    have all : ∀ v ∈ [cv x1, cv x2, .int 200, .int 199, .int a], ∃ c : Option Nat, v = cv c ∧ ∀ k, c = some k → k ≤ 200 := fun v hv => by
      simp only [List.mem_cons, List.not_mem_nil, or_false] at hv
      rcases hv with rfl | rfl | rfl | rfl | rfl
      · exact ⟨_, rfl, hx1⟩
      · exact ⟨_, rfl, hx2⟩
      · exact cv_int (by decide) (by decide)
      · exact cv_int (by decide) (by decide)
      · exact cv_int a0 (by omega)
    refine ⟨_, rfl, _, rfl, l, ls, rfl, .inl (.of (k4.lst hn hl)), q, ls.length, T + 7, rfl, by omega, by omega, by omega, Y4, fun z H5 z0 z1 k5 Y5 => ?_⟩
    refine ⟨_, rfl, _, rfl, q, p, _, T + 8, rfl, k5.lst hpq upd_same, hpq, by show 0 < 5; decide, by show 5 ≤ 1000; decide, by omega, Y5, fun v H6 hv k6 Y6 => ?_⟩
    obtain ⟨c1, rfl, hc1⟩ := all v hv
    refine ⟨_, rfl, _, rfl, p, _, rfl, .of (k6.lst hpq (k5.lst hpq upd_same)), fun p2 np2 => ?_⟩
    refine ⟨q, p2, _, T + 9, rfl, upd_same, fresh_ne np2 Y6, by show 0 < 5; decide, by show 5 ≤ 1000; decide, by omega, Y6.same (same_upd np2), fun v H7 hv k7 Y7 => ?_⟩
    obtain ⟨c2, rfl, hc2⟩ := all v (List.mem_reverse.mp hv)
    refine ⟨by show 3 ≤ sizeLine; decide, fun t nt => ?_⟩
    exact k t z c1 c2 _ (((((k4.trans k5).trans k6).same (same_upd np2)).trans k7).same (same_upd nt)) (Y7.same (same_upd nt)) upd_same z0 z1 hc1 hc2
/-- the heights by their two numbers -/
theorem isH_cases {a b : Int} (h : IsH a b) : (a = 0 ∧ b = 1) ∨ (a = 3 ∧ b = 1) ∨ (a = 1 ∧ b % 2 = 1) := by
  obtain ⟨c, e⟩ := h
  match c, e with
  | none, e => exact .inl ⟨(congrArg Prod.fst e).symm, (congrArg Prod.snd e).symm⟩
  | some 0, e => exact .inr (.inl ⟨(congrArg Prod.fst e).symm, (congrArg Prod.snd e).symm⟩)
  | some (n + 1), e =>
    refine .inr (.inr ⟨(congrArg Prod.fst e).symm, ?_⟩)
    have eb : (3 : Int) ^ n = b := congrArg Prod.snd e
    rw [← eb]
    clear e eb
    induction n with
    | zero => decide
    | succ n ih => rw [Int.pow_succ]; omega
/-- v is a number that is no height, small -/
def NoH (K : PySem.W.Frag) (H : Hp) (v : V) : Prop := ∃ a b : Int, NumV K H v (a, b) ∧ Rd2 a b ∧ ¬ IsH a b ∧ a.natAbs < 1048576 ∧ b.natAbs < 1048576
theorem Kp.noH {K : PySem.W.Frag} {q : Addr} {H H' : Hp} {v : V} (k : Kp q H H') (h : NoH K H v) : NoH K H' v := by
  obtain ⟨a, b, h1, h2⟩ := h
  exact ⟨a, b, k.num h1, h2⟩
theorem gcd31 (n : Nat) : Int.gcd (3 * 3 ^ n + 1) (9 * 3 ^ n) = 1 := by
  have e : (9 : Int) * 3 ^ n = 3 ^ (n + 2) := by rw [Int.pow_add, Int.mul_comm]; rfl
  have e2 : (3 : Int) * 3 ^ n + 1 = ((3 * 3 ^ n + 1 : Nat) : Int) := by push_cast; rfl
  rw [e, e2]
  show Nat.gcd _ ((3 : Int) ^ (n + 2)).natAbs = 1
  rw [Int.natAbs_pow]
  refine Nat.Coprime.pow_right (n + 2) ?_
  show Nat.gcd (3 * 3 ^ n + 1) 3 = 1
  rw [Nat.gcd_comm, Nat.gcd_rec, Nat.add_comm, Nat.add_mul_mod_self_left]
  simp
theorem gcd23 (n : Nat) : Int.gcd 2 (3 * 3 ^ n) = 1 := by
  have e : (3 : Int) * 3 ^ n = 3 ^ (n + 1) := by rw [Int.pow_succ, Int.mul_comm]
  rw [e]
  exact gcd2_pow3 _
theorem sz9 {b : Int} (h : 0 < b) (k : b < 1048576) : Sz 9000 b := (sz_small (by omega)).mono (by decide)
def spNoH (K : PySem.W.Frag) : Sp := fun vs H Q _ => ∃ (q : Addr) (T : Nat), vs = [.ref q] ∧ T ≤ 8000 ∧ QyAt H q T ∧ ∀ v H', Kp q H H' → QyAt H' q (T + 2) → NoH K H' v → Q v H'
theorem ok_law_no_height (B : Bz mg) (D : Df K mg "_law_no_height" s_law_no_height p_law_no_height) (H_law_hew : Has P w K mg base CX0 1 "_law_hew" p_law_hew spHew) (H_law_pick : Has P w K mg base CX0 2 "_law_pick" p_law_pick spPick)
    (H_law_form : Has P w K mg base CX0 1 "_law_form" p_law_form (spLow K)) : Has P w K mg base CX0 3 "_law_no_height" p_law_no_height (spNoH K) := by
  refine D.ok sc_law_no_height (fun vs H Q E h => ?_) (fun f cdv A outer s H vs Q E hr h => ?_)
  · obtain ⟨q, T, rfl, _⟩ := h
    rfl
  · obtain ⟨q, T, rfl, hT, Y, k⟩ := h
    refine ⟨_, (pss_cons (ps_set (i := 1) sc_law_no_height.nd rfl (Or.inl rfl) pe_int)
      (pss_cons (ps_for PassesOwn.never rfl (pi_range1 rfl B.range (pa_cons (pe_h H_law_hew (hr.mono (by decide)) pass0 (pa_cons (pv 0) (pa_cons pe_int pa_nil))) pa_nil)) (pg_name (i := 2) sc_law_no_height.nd rfl (.inl rfl))
      (pss_one (ps_set (i := 1) sc_law_no_height.nd rfl (Or.inl rfl) (pe_op op_mulW (pv 1) pe_int))))
      (pss_cons (ps_set (i := 3) sc_law_no_height.nd rfl (Or.inl rfl) (pe_lst (pa_cons (pe_tup (pa_cons pe_int (pa_cons pe_int pa_nil))) (pa_cons pe_int (pa_cons (pe_tup (pa_cons pe_int (pa_cons pe_int pa_nil))) (pa_cons (pe_tup (pa_cons pe_int (pa_cons pe_int pa_nil))) (pa_cons (pe_tup (pa_cons pe_int (pa_cons pe_int pa_nil))) (pa_cons (pe_un un_neg pe_int) (pa_cons pe_int (pa_cons pe_int (pa_cons (pe_tup (pa_cons (pe_un un_neg pe_int) (pa_cons pe_int pa_nil))) (pa_cons (pe_tup (pa_cons pe_int (pa_cons pe_int pa_nil))) (pa_cons (pe_h H_law_form (hr.mono (by decide)) pass0 (pa_cons pe_int (pa_cons (pe_op op_mulW pe_int (pv 1)) pa_nil))) (pa_cons (pe_h H_law_form (hr.mono (by decide)) pass0 (pa_cons (pe_op op_add (pe_op op_mulW pe_int (pv 1)) pe_int) (pa_cons (pe_op op_mulW pe_int (pv 1)) pa_nil))) (pa_cons (pe_tup (pa_cons pe_int (pa_cons pe_int pa_nil))) (pa_cons (pe_tup (pa_cons pe_int (pa_cons pe_int pa_nil))) pa_nil))))))))))))))))
      (pss_one (ps_ret (pe_h H_law_pick (hr.mono (by decide)) pass0 (pa_cons (pv 0) (pa_cons (pv 3) pa_nil)))))))), ?_⟩
    refine ⟨_, rfl, q, 9, T, rfl, by decide, by decide, by omega, Y, fun r H1 r0 r1 k1 Y1 => ?_⟩
    obtain ⟨n, rfl⟩ := Int.eq_ofNat_of_zero_le r0
    refine ⟨n, rfl, by omega, by omega, ?_⟩
    refine for_range (lo := 0) (n := (n : Int).toNat) (fun i σ H' => ∃ y, σ = [some (.ref q), some (.int (3 ^ i)), y, none] ∧ H' = H1) ⟨_, rfl, rfl⟩ ?_ ?_
    · rintro i σ H' hi ⟨y, rfl, rfl⟩
      have z1 : Sz 3000 ((3 : Int) ^ i) := sz_pow3 i 3000 (by omega)
      refine ⟨_, rfl, _, _, rfl, rfl, z1.cmul (m := 20) (by unfold Sz; decide), some (.int (0 + (i : Int))), ?_, rfl⟩
      rw [Int.pow_succ]
      rfl
    rintro σ H' ⟨y, rfl, rfl⟩
    rw [show (n : Int).toNat = n by omega]
    have hn : n ≤ 8 := by omega
    have zu : Sz 20 ((3 : Int) ^ n) := sz_pow3 n 20 (by omega)
    have hp := pow3 n
    have hp2 : (3 : Int) ^ n ≤ 6561 := by
      have e : (3 : Int) ^ 8 = 3 ^ n * 3 ^ (8 - n) := by rw [← Int.pow_add]; congr 1; omega
      have h1 := pow3 (8 - n)
      have h2 : (3 : Int) ^ n * 1 ≤ 3 ^ n * 3 ^ (8 - n) := Int.mul_le_mul_of_nonneg_left (by omega) (by omega)
      have h3 : (3 : Int) ^ 8 = 6561 := by decide
      omega
    refine ⟨by show 2 ≤ sizeLine; decide, fun p1 m1 => ?_⟩
    have e1 := same_upd (o := .tup [.int (1), .int (2)]) m1
    refine ⟨by show 2 ≤ sizeLine; decide, fun p2 m2 => ?_⟩
    have e2 := same_upd (o := .tup [.int (5), .int (2)]) m2
    refine ⟨by show 2 ≤ sizeLine; decide, fun p3 m3 => ?_⟩
    have e3 := same_upd (o := .tup [.int (2), .int (9)]) m3
    refine ⟨by show 2 ≤ sizeLine; decide, fun p4 m4 => ?_⟩
    have e4 := same_upd (o := .tup [.int (4), .int (9)]) m4
    refine ⟨1, rfl, ?_⟩
    refine ⟨1, rfl, by show 2 ≤ sizeLine; decide, fun p5 m5 => ?_⟩
    have e5 := same_upd (o := .tup [.int (-1), .int (3)]) m5
    refine ⟨by show 2 ≤ sizeLine; decide, fun p6 m6 => ?_⟩
    have e6 := same_upd (o := .tup [.int (1), .int (6)]) m6
    refine ⟨_, rfl, 3, (3 : Int) ^ n, rfl, rfl, Sz.cmul (n := 10) (m := 30) (by unfold Sz; decide) (zu.mono (by decide)), 2, 3 * (3 : Int) ^ n, rfl, by omega, sz9 (by omega) (by omega), fun u1 F1 g1 h1 => ?_⟩
    refine ⟨_, rfl, 3, (3 : Int) ^ n, rfl, rfl, Sz.cmul (n := 10) (m := 30) (by unfold Sz; decide) (zu.mono (by decide)), _, _, rfl, rfl, _, rfl, 9, (3 : Int) ^ n, rfl, rfl, Sz.cmul (n := 10) (m := 30) (by unfold Sz; decide) (zu.mono (by decide)), 3 * (3 : Int) ^ n + 1, 9 * (3 : Int) ^ n, rfl, by omega, sz9 (by omega) (by omega), fun u2 F2 g2 h2 => ?_⟩
    refine ⟨by show 2 ≤ sizeLine; decide, fun p7 m7 => ?_⟩
    have e7 := same_upd (o := .tup [.int (8), .int (3)]) m7
    refine ⟨by show 2 ≤ sizeLine; decide, fun p8 m8 => ?_⟩
    have e8 := same_upd (o := .tup [.int (3), .int (2)]) m8
    refine ⟨by show 14 ≤ sizeLine; decide, fun pl ml => ?_⟩
    have sl := same_upd (o := .lst [.ref p1, .int (2), .ref p2, .ref p3, .ref p4, .int (-1), .int (4), .int (9), .ref p5, .ref p6, u1, u2, .ref p7, .ref p8]) ml
    have all : ∀ x ∈ ([.ref p1, .int (2), .ref p2, .ref p3, .ref p4, .int (-1), .int (4), .int (9), .ref p5, .ref p6, u1, u2, .ref p7, .ref p8] : List V), NoH K (upd _ pl (.lst [.ref p1, .int (2), .ref p2, .ref p3, .ref p4, .int (-1), .int (4), .int (9), .ref p5, .ref p6, u1, u2, .ref p7, .ref p8])) x := fun x hx => by
      simp only [List.mem_cons, List.not_mem_nil, or_false] at hx
      rcases hx with rfl | rfl | rfl | rfl | rfl | rfl | rfl | rfl | rfl | rfl | rfl | rfl | rfl | rfl
      · exact ⟨1, 2, .inr ⟨by decide, p1, rfl, .of ((((((((((e2.trans e3).trans e4).trans e5).trans e6).trans g1).trans g2).trans e7).trans e8).trans sl) _ _ upd_same)⟩, ⟨by decide, by decide⟩, fun z => (by have := isH_cases z; omega), by decide, by decide⟩
      · exact ⟨2, 1, .int _, ⟨by decide, by decide⟩, fun z => (by have := isH_cases z; omega), by decide, by decide⟩
      · exact ⟨5, 2, .inr ⟨by decide, p2, rfl, .of (((((((((e3.trans e4).trans e5).trans e6).trans g1).trans g2).trans e7).trans e8).trans sl) _ _ upd_same)⟩, ⟨by decide, by decide⟩, fun z => (by have := isH_cases z; omega), by decide, by decide⟩
      · exact ⟨2, 9, .inr ⟨by decide, p3, rfl, .of ((((((((e4.trans e5).trans e6).trans g1).trans g2).trans e7).trans e8).trans sl) _ _ upd_same)⟩, ⟨by decide, by decide⟩, fun z => (by have := isH_cases z; omega), by decide, by decide⟩
      · exact ⟨4, 9, .inr ⟨by decide, p4, rfl, .of (((((((e5.trans e6).trans g1).trans g2).trans e7).trans e8).trans sl) _ _ upd_same)⟩, ⟨by decide, by decide⟩, fun z => (by have := isH_cases z; omega), by decide, by decide⟩
      · exact ⟨-1, 1, .int _, ⟨by decide, by decide⟩, fun z => (by have := isH_cases z; omega), by decide, by decide⟩
      · exact ⟨4, 1, .int _, ⟨by decide, by decide⟩, fun z => (by have := isH_cases z; omega), by decide, by decide⟩
      · exact ⟨9, 1, .int _, ⟨by decide, by decide⟩, fun z => (by have := isH_cases z; omega), by decide, by decide⟩
      · exact ⟨-1, 3, .inr ⟨by decide, p5, rfl, .of ((((((e6.trans g1).trans g2).trans e7).trans e8).trans sl) _ _ upd_same)⟩, ⟨by decide, by decide⟩, fun z => (by have := isH_cases z; omega), by decide, by decide⟩
      · exact ⟨1, 6, .inr ⟨by decide, p6, rfl, .of (((((g1.trans g2).trans e7).trans e8).trans sl) _ _ upd_same)⟩, ⟨by decide, by decide⟩, fun z => (by have := isH_cases z; omega), by decide, by decide⟩
      · exact ⟨2, 3 * 3 ^ n, by rw [red_of (gcd23 n)] at h1; exact h1.same (((g2.trans e7).trans e8).trans sl), ⟨by omega, gcd23 n⟩, fun z => (by have := isH_cases z; omega), by decide, by omega⟩
      · exact ⟨3 * 3 ^ n + 1, 9 * 3 ^ n, by rw [red_of (gcd31 n)] at h2; exact h2.same ((e7.trans e8).trans sl), ⟨by omega, gcd31 n⟩, fun z => (by have := isH_cases z; omega), by omega, by omega⟩
      · exact ⟨8, 3, .inr ⟨by decide, p7, rfl, .of ((e8.trans sl) _ _ upd_same)⟩, ⟨by decide, by decide⟩, fun z => (by have := isH_cases z; omega), by decide, by decide⟩
      · exact ⟨3, 2, .inr ⟨by decide, p8, rfl, .of (sl _ _ upd_same)⟩, ⟨by decide, by decide⟩, fun z => (by have := isH_cases z; omega), by decide, by decide⟩
    have sA := ((((((((((e1.trans e2).trans e3).trans e4).trans e5).trans e6).trans g1).trans g2).trans e7).trans e8).trans sl)
    exact ⟨_, rfl, _, rfl, q, pl, _, T + 1, rfl, upd_same, fresh_ne ml (Y1.same (((((((((e1.trans e2).trans e3).trans e4).trans e5).trans e6).trans g1).trans g2).trans e7).trans e8)), by show 0 < 14; decide, by show 14 ≤ 1000; decide, by omega, Y1.same sA, fun v H2 hv k2 Y2 => k v H2 ((k1.same sA).trans k2) Y2 (k2.noH (all v hv))⟩
end
end TF


set_option Elab.async false
set_option linter.all false
set_option maxRecDepth 100000
set_option maxHeartbeats 4000000
namespace TF
open PySem PySem.Spec PyProof.Rows L2 LamX
/-! ### a lambda with one default: lambda a=0: body -/
abbrev lamObjD (qual : Str) (params : Arguments) (body : Expr) (scope : Scope) (clos : List (Str × Addr)) (dV doc pm : Value) (c' : Addr) (ctv : Value) : Obj := PySem.W.kdv_obj "<lambda>" qual params (.expr body) scope clos dV doc pm c' ctv
section
variable {X : Cx} {pins : List (Addr × Obj)} {σ : L2.St} {H : Hp} {s : Shared}
theorem lam_makeD {T : List (Addr × Str)} {c P : Addr} {params : Arguments} {body : Expr} {scope : Scope} {pos pp : Pos} {kk : Nat} {Q : Value → Shared → Prop} (inv : Inv X pins σ H s) (TB : TabB X.base X.mg c P) (hcode : X.env.code = .ref c)
    (inT : (P, X.env.qual ++ "<lambda>") ∈ T) (oneName : ∀ pr ∈ T, pr.1 = P → pr.2 = X.env.qual ++ "<lambda>") (tabs : Tabs T H) (dfl : params.defaults = [.Constant (.int 0) kk pp]) (kwd : params.kw_defaults = []) (capt : ∀ nm ∈ scope.names, nm.2 = .free → ∃ c, X.env.cells.lookup nm.1 = some c)
    (h : ∀ (f c' T0 : Addr) (tk0 : Tok) (doc pm ctv : Value) (H1 : Hp) (s' : Shared), Inv X pins σ H1 s' → ExtN H H1 → Tabs T H1 →
      s'.heap.get? f = some (lamObjD (X.env.qual ++ "<lambda>") params body scope (cloFrom X.env.cells scope.names []) (.ref T0) doc pm c' ctv) → H1 f = none → f ∉ frs X.stack →
      s'.heap.get? T0 = some (PySem.W.kdv_tup [.int 0 tk0]) → H1 T0 = none → T0 ∉ frs X.stack → H1 c' = some (CodeO c' (X.env.qual ++ "<lambda>")) → Q (.ref f) s') :
    wpAny (model X.prog X.w) X.A (eval (.Lambda params body scope pos) X.env) Q X.xe s := by
  refine PySem.W.kdv_lam (by rw [dfl]; rfl) kwd ?_
  rw [dfl]
  refine PySem.W.kdv_all1 (thn ((pe_int (X := X)).run pins s σ H (fun v H1 => v = .int 0 ∧ H1 = H) inv ⟨rfl, rfl⟩) fun res s1 ⟨v, H1, inv1, relf, w1, w2⟩ => PySem.W.kdv_all0 ?_)
  subst w1 w2
  obtain ⟨tk0, rfl⟩ := relf
  rw [makeFunction_eq]
  simp only [List.zip_nil_right, List.filterMap_nil, List.isEmpty_nil, List.isEmpty_cons, if_true, pure_bind, Bool.false_eq_true, if_false]
  have notFr1 : ∀ f, s1.heap.objs.size ≤ f → f ∉ frs X.stack := fun f fAt zz => by
    rcases List.mem_cons.mp (inv1.stkSub _ zz) with eq1 | eq1
    · have q1 := inv1.lt
      rw [← eq1] at q1
      exact Nat.lt_irrefl _ (Nat.lt_of_lt_of_le q1 fAt)
    · exact inv1.nofs fAt eq1
  refine wpAny_bind (wpAny_newTextTuple ?_)
  have T0n : H1 s1.heap.objs.size = none := inv1.hok.fresh (Nat.le_refl _)
  have T0f := notFr1 _ (Nat.le_refl _)
  have T0h : ({ s1 with heap := s1.heap.push (PySem.W.kdv_tup [.int 0 tk0]) } : Shared).heap.get? s1.heap.objs.size = some (PySem.W.kdv_tup [.int 0 tk0]) := Heap.get?_push_size _ rfl
  have inv2 : Inv X pins σ H1 { s1 with heap := s1.heap.push (PySem.W.kdv_tup [.int 0 tk0]) } := inv1.kept (t' := s1.toks) fun b o eq1 => Heap.get?_push_of_some _ eq1
  have T0lt : s1.heap.objs.size < ({ s1 with heap := s1.heap.push (PySem.W.kdv_tup [.int 0 tk0]) } : Shared).heap.objs.size := by show _ < (s1.heap.push _).objs.size; rw [Heap.size_push]; omega
  show wpAny _ _ (makeTail _ _ _ _ _ _ (.ref s1.heap.objs.size) .none none _ _) _ _ { s1 with heap := s1.heap.push (PySem.W.kdv_tup [.int 0 tk0]) }
  generalize hT0 : s1.heap.objs.size = T0 at T0n T0f T0h T0lt ⊢
  generalize { s1 with heap := s1.heap.push (PySem.W.kdv_tup [.int 0 tk0]) } = s2 at inv2 T0h T0lt ⊢
  obtain ⟨ps, tabAt, trip, amg⟩ := tabs _ inT
  have bP : s2.heap.BuiltinsAt X.mg P := TB.bm.keeps inv2.bk
  have hP' : s2.heap.get? P = some { cls := .none, data := .fields ps } := inv2.hok P _ tabAt
  have notFr : ∀ f, s2.heap.objs.size ≤ f → f ∉ frs X.stack := fun f fAt zz => by
    rcases List.mem_cons.mp (inv2.stkSub _ zz) with eq1 | eq1
    · have q1 := inv2.lt
      rw [← eq1] at q1
      exact Nat.lt_irrefl _ (Nat.lt_of_lt_of_le q1 fAt)
    · exact inv2.nofs fAt eq1
  cases hcod : codeAmong pos ps.toList with
  | none =>
    refine PySem.W.kdv_makeTail (mg := X.mg) (c := c) (P := P) (ps := ps) (closure_ok capt) inv2.ok.glob (inv2.mod.glob.keeps inv2.bk) hcode (TB.code.keeps inv2.bk) hP' trip hcod TB.gP bP fun c' ctv doc h' tk kept0 geN ltN recd tabN => ?_
    obtain ⟨ad2, oc, vs, t, w2, ocAt, dat, v1At⟩ := recd
    cases w2
    have szN : s2.heap.objs.size ≤ h'.objs.size := Nat.le_trans geN (Nat.le_of_lt ltN)
    have frC : H1 c' = none := inv2.hok.fresh geN
    have inv3 := inv_table (t' := tk) (more := #[rawInt pos.line, rawInt pos.col, .ref c']) (h' := h'.push (lamObjD (X.env.qual ++ "<lambda>") params body scope (cloFrom X.env.cells scope.names []) (.ref T0) doc ((X.mg "__name__").getD .none) c' ctv)) inv2 tabAt
      (fun b o atP eq1 => Heap.get?_push_of_some _ (kept0 b o atP eq1)) (Heap.get?_push_of_some _ tabN) geN ⟨oc, vs, t, Heap.get?_push_of_some _ ocAt, dat, v1At⟩
    have extT : ExtN H1 (upd (upd H1 P (.tbl (ps ++ #[rawInt pos.line, rawInt pos.col, .ref c']))) c' (CodeO c' (X.env.qual ++ "<lambda>"))) := fun b o eq1 n => by
      rw [upd_ne (ne_of_none eq1 frC), upd_ne (fun zz => n ps (Option.some.inj (eq1.symm.trans (by rw [zz]; exact tabAt))))]
      exact eq1
    have eqL : (ps ++ #[rawInt pos.line, rawInt pos.col, .ref c']).toList = ps.toList ++ [rawInt pos.line, rawInt pos.col, .ref c'] := by simp
    have neP : T0 ≠ P := fun zz => by rw [zz, tabAt] at T0n; cases T0n
    have neC : T0 ≠ c' := Nat.ne_of_lt (Nat.lt_of_lt_of_le T0lt geN)
    refine h h'.objs.size c' T0 tk0 doc ((X.mg "__name__").getD .none) ctv _ _ inv3 extT (fun pr prIn => ?_) (Heap.get?_push_size _ rfl) ?_ (notFr _ szN) (Heap.get?_push_of_some _ (kept0 _ _ neP T0h)) ?_ T0f upd_same
    · by_cases atP : pr.1 = P
      · rw [oneName pr prIn atP, atP]
        refine ⟨_, by rw [upd_ne (ne_of_none tabAt frC), upd_same], by rw [eqL]; exact PySem.TriplesOk_snoc _ _ _ _ trip, fun p' cod codAt => ?_⟩
        rw [eqL] at codAt
        rcases among_app _ trip codAt with zz | zz
        · obtain ⟨cc0, w1, w2⟩ := amg p' cod zz
          exact ⟨cc0, w1, extT _ _ w2 codeO_ne⟩
        · exact ⟨c', zz, upd_same⟩
      · obtain ⟨ps', b1, b2, b3⟩ := tabs pr prIn
        refine ⟨ps', by rw [upd_ne (ne_of_none b1 frC), upd_ne atP]; exact b1, b2, fun p' cod codAt => ?_⟩
        obtain ⟨cc0, w1, w2⟩ := b3 p' cod codAt
        exact ⟨cc0, w1, extT _ _ w2 codeO_ne⟩
    · have un1 : h'.objs.size ≠ c' := Nat.ne_of_gt ltN
      have un2 : h'.objs.size ≠ P := Nat.ne_of_gt (Nat.lt_of_lt_of_le (Heap.lt_size hP') szN)
      rw [upd_ne un1, upd_ne un2]
      exact inv2.hok.fresh szN
    · rw [upd_ne neC, upd_ne neP]
      exact T0n
  | some cod =>
    obtain ⟨c', eq1, hco⟩ := amg pos cod hcod
    subst eq1
    refine PySem.W.kdv_makeTailHit (mg := X.mg) (c := c) (P := P) (ps := ps) (closure_ok capt) inv2.ok.glob (inv2.mod.glob.keeps inv2.bk) hcode (TB.code.keeps inv2.bk) hP' trip hcod bP fun ctv doc h' tk kept0 szN => ?_
    have inv3 : Inv X pins σ H1 { s2 with heap := h'.push (lamObjD (X.env.qual ++ "<lambda>") params body scope (cloFrom X.env.cells scope.names []) (.ref T0) doc ((X.mg "__name__").getD .none) c' ctv), toks := tk } := inv2.kept fun b o eq1 => Heap.get?_push_of_some _ (kept0 b o eq1)
    exact h h'.objs.size c' T0 tk0 doc ((X.mg "__name__").getD .none) ctv H1 _ inv3 (ExtN.refl H1) tabs (Heap.get?_push_size _ rfl) (inv2.hok.fresh szN) (notFr _ szN) (Heap.get?_push_of_some _ (kept0 _ _ T0h)) T0n T0f hco
end
/-- one parameter of its own, a; captured names and globals -/
structure LamD (N : List Str) (sc scope : Scope) (a : Str) : Prop where
  kind : scope.kind = .function
  co : scope.isCoroutine = false
  gen : scope.isGenerator = false
  own : ∀ nm ∈ scope.names, (nm.2 = .local → nm.1 = a) ∧ nm.2 ≠ .cell
  has : scope.names.lookup a = some .local
  nN : a ∉ N
  free : ∀ nm ∈ scope.names, nm.2 = .free → sc.names.lookup nm.1 = some .cell ∨ sc.names.lookup nm.1 = some .free
def lamDB (N : List Str) (sc scope : Scope) (a : Str) : Bool :=
  decide (scope.kind = .function) && !scope.isCoroutine && !scope.isGenerator && (scope.names.all fun nm => (!decide (nm.2 = .local) || decide (nm.1 = a)) && !decide (nm.2 = .cell) && (!decide (nm.2 = .free) || decide (sc.names.lookup nm.1 = some .cell) || decide (sc.names.lookup nm.1 = some .free))) &&
    decide (scope.names.lookup a = some .local) && decide (a ∉ N)
theorem lamD_by {N : List Str} {sc scope : Scope} {a : Str} (h : lamDB N sc scope a = true) : LamD N sc scope a := by
  unfold lamDB at h
  simp only [Bool.and_eq_true, Bool.or_eq_true, Bool.not_eq_true', decide_eq_true_eq, decide_eq_false_iff_not, List.all_eq_true] at h
  obtain ⟨⟨⟨⟨⟨q1, q2⟩, h3⟩, h4⟩, h5⟩, h6⟩ := h
  refine ⟨q1, q2, h3, fun nm yIn => ⟨fun eq1 => ?_, (h4 nm yIn).1.2⟩, h5, h6, fun nm yIn eq1 => ?_⟩
  · rcases (h4 nm yIn).1.1 with zz | zz
    · exact absurd eq1 zz
    · exact zz
  · rcases (h4 nm yIn).2 with (zz | zz) | zz
    · exact absurd eq1 zz
    · exact .inl zz
    · exact .inr zz
theorem LamD.caps {X : Cx} {N : List Str} {scope : Scope} {a : Str} (L : LamD N X.env.scope scope a) (ok : X.Ok) : ∀ nm ∈ scope.names, nm.2 = .free → ∃ c, X.env.cells.lookup nm.1 = some c := fun nm yIn eq1 => by
  rcases L.free nm yIn eq1 with k | k
  · exact ok.has _ (.inl k)
  · exact ok.has _ (.inr k)
section
variable {X : Cx} {pins : List (Addr × Obj)} {σ : L2.St} {H HZ : Hp} {s s1 : Shared}
theorem lam_startD {A : Around} {outer : List Env} {E : XK} {scope : Scope} {f c' : Addr} {h₁ : Heap} {tk : Nat} {a : Str} {bs : List (Str × Value)} (inv : Inv X pins σ H s) (L : LamD X.N X.env.scope scope a) (e0 : Env0 X.prog X.w X.K X.mg X.base A outer s1 HZ) (dfl : A.handled = none)
    (unch : Un (frs X.stack) [] H HZ s.heap s1.heap) (nsAt : h₁.Ns s1.heap.objs.size fun nm => bs.reverse.lookup nm) (keepAll : ∀ b o, s1.heap.get? b = some o → h₁.get? b = some o) :
    Inv (lamCx X A outer s1 HZ E scope f c') [] σ HZ { s1 with heap := h₁, toks := tk } := by
  have capt := L.caps inv.ok
  have capMap : ∀ {nm c}, (cloFrom X.env.cells scope.names []).lookup nm = some c → X.env.cells.lookup nm = some c := fun {nm c} eq1 => by
    rcases cloFrom_mem (PySem.mem_of_lookup eq1) with inT | ⟨q1, q2⟩
    · cases inT
    · obtain ⟨ad1, hcod⟩ := capt _ q1 rfl
      have hcod : X.env.cells.lookup nm = some ad1 := hcod
      have w2 : c = ad1 := by
        rw [q2, hcod] <;> rfl
      rw [w2]
      exact hcod
  have lookC : ∀ {nm}, scope.names.lookup nm = some .free → ∃ c, (cloFrom X.env.cells scope.names []).lookup nm = some c := fun {nm} look1 => by
    have yIn : (nm, NameKind.free) ∈ scope.names := PySem.mem_of_lookup look1
    exact mem_lookup (cloFrom_has (cells := X.env.cells) (acc := []) yIn)
  have cellKept : ∀ {c : Addr} {v : Option Value}, H c = none → s.heap.IsCell c v → h₁.IsCell c v := fun {c v} n ⟨o, ho, dfl⟩ => by
    obtain ⟨sl, oth⟩ := unch.any ho n (by simp)
    exact ⟨_, keepAll _ _ oth, dfl⟩
  have noEx : ∀ b : Addr, b ∉ (lamCx X A outer s1 HZ E scope f c').ex := fun b zz => absurd (show b ∈ ([] : List Addr) from zz) (by simp)
  refine ⟨⟨e0.mod, L.kind, rfl, rfl, Nat.le_refl _, fun nm zz c w1 w2 => inv.ok.inj nm zz c (capMap w1) (capMap w2), fun nm yIn => ?_, fun nm c zz _ => ?_, fun _ => dfl, Around.frames_deeper e0.frames, .inr ⟨rfl, rfl⟩, fun b zz => absurd zz (noEx b), e0.bs, e0.bsz, fun b _ _ => noEx b,
      fun b zz => absurd zz (noEx b), e0.funs, e0.frf⟩,
    rfl, e0.bare, Un.kept keepAll, ⟨_, nsAt, fun i nm v w1 w2 w3 => ?_⟩, fun nm c eq1 => ?_, e0.hok.fresh (Nat.le_refl _), fun nm c eq1 => ?_, fun oth got => absurd (show oth ∈ ([] : List (Addr × Obj)) ++ [] from got) (by simp), e0.hok.kept keepAll, inv.len⟩
  · have yIn : scope.names.lookup nm = some .cell ∨ scope.names.lookup nm = some .free := yIn
    rcases yIn with yIn | yIn
    · exact absurd rfl (L.own _ (PySem.mem_of_lookup yIn)).2
    · exact lookC yIn
  · have zz : false = true := zz
    cases zz
  · have w3 : Vis scope nm := w3
    rcases w3 with k | k | k
    · have ea := (L.own _ (PySem.mem_of_lookup k)).1 rfl
      have ea : nm = a := ea
      exact absurd (by rw [← ea]; exact List.mem_of_getElem? w1) L.nN
    · exact absurd rfl (L.own _ (PySem.mem_of_lookup k)).2
    · obtain ⟨mAt, hn, look1⟩ := inv.loc
      have visY : Vis X.env.scope nm := (L.free _ (PySem.mem_of_lookup k) rfl).elim (fun k => .inr (.inl k)) (fun k => .inr (.inr k))
      obtain ⟨w', rel1, oth⟩ := look1 i nm v w1 w2 visY
      obtain ⟨ad2, q2⟩ := lookC k
      refine ⟨w', rel1, .inr ⟨.inr k, ad2, q2, ?_⟩⟩
      have ad1 := capMap q2
      rcases oth with ⟨k', _⟩ | ⟨_, ad3, e', zz⟩
      · have k' : X.env.scope.names.lookup nm = some .local := k'
        rcases L.free _ (PySem.mem_of_lookup k) rfl with k2 | k2 <;> rw [show X.env.scope.names.lookup nm = _ from k2] at k' <;> cases k'
      · rw [ad1] at e'
        cases e'
        exact cellKept (inv.freeC nm _ ad1) zz
  · obtain ⟨w', zz⟩ := inv.cell nm c (capMap eq1)
    exact ⟨w', cellKept (inv.freeC nm c (capMap eq1)) zz⟩
  · obtain ⟨v, o, ho, dfl⟩ := inv.cell nm c (capMap eq1)
    exact unch.free c o ho (inv.freeC nm c (capMap eq1)) (by simp)
theorem pe_actD {CXg : CXT} {Eg : XK} {Ng : List Str} {qg : Str} {sg : Scope} {g f c' T0 : Addr} {tk0 : Tok} {cdg doc pm ctv : Value} {params : Arguments} {body : Expr} {scope : Scope} {k i : Nat} {a zz : Str} {pn : List (Addr × Obj)} {xe : Value → Shared → Prop} {W : WX} {E : XK} {tb : TE} {p1 p2 : Pos}
    (inv : Inv X pins σ H s) (L : LamD X.N X.env.scope scope zz) (fAt : s.heap.get? f = some (lamObjD (X.env.qual ++ "<lambda>") params body scope (cloFrom X.env.cells scope.names []) (.ref T0) doc pm c' ctv)) (fNew : H f = none) (fFr : f ∉ frs X.stack)
    (hT0 : s.heap.get? T0 = some (PySem.W.kdv_tup [.int 0 tk0])) (hTn : H T0 = none) (hTf : T0 ∉ frs X.stack)
    (hbind : ∃ kk : Option (Array Value) → Sem (List (Str × Value)), bindArgs (PySem.W.kdv_fn "<lambda>" (X.env.qual ++ "<lambda>") params (.expr body) scope (cloFrom X.env.cells scope.names []) (.ref T0) doc pm (.ref c') ctv) ⟨[], []⟩ = seqItems? (.ref T0) >>= kk ∧ ∀ v, kk (some #[v]) = pure [(zz, v)])
    (tk : Takes ((cxOf CXg X.prog X.w X.K X.mg X.base Ng qg sg g cdg X.A X.stack s H Eg).tr pn xe) W) (hW : ∀ cls d σ' H', E cls d H' → W cls d σ' H') (roomH : Room (k + 1) (X.A.deeper (envOfC qg sg s.heap.objs.size g cdg)))
    (hbody : ∀ (A : Around) (outer : List Env) (s : Shared) (H : Hp), Room k (A.deeper (lamEnv X scope s.heap.objs.size f c')) → PE (lamCx X A outer s H E scope f c') body tb)
    (hN : Ng[i]? = some a) (v1At : Vis sg a) (dfl : (a == ("__debug__" : Str)) = false := by decide) (hcd : (a == ("__classdict__" : Str)) = false := by decide) :
    PE ((cxOf CXg X.prog X.w X.K X.mg X.base Ng qg sg g cdg X.A X.stack s H Eg).tr pn xe) (.Call (.Name a p1) [] [] p2)
      (fun σZ HZ Q => σZ[i]? = some (some (.ref f)) ∧ HZ c' = some (CodeO c' (X.env.qual ++ "<lambda>")) ∧ tb σ HZ Q) := by
  refine ⟨fun pinsZ sZ σZ HZ Q invZ h => ?_⟩
  obtain ⟨hs, hcod, trip⟩ := h
  refine wpAny_Call_Name_kw (thn ((pe_var (pos := p1) (i := i) hN v1At dfl hcd).run pinsZ sZ σZ HZ (fun v H1 => v = .ref f ∧ H1 = HZ) invZ ⟨.ref f, hs, rfl, rfl⟩) fun res s1 ⟨v, H1, inv1, relf, q1⟩ => ?_)
  obtain ⟨ev, eH⟩ := q1
  subst ev
  rw [eH] at inv1
  obtain rfl : res = Value.ref f := relf
  have fnAt : s1.heap.get? f = some (lamObjD (X.env.qual ++ "<lambda>") params body scope (cloFrom X.env.cells scope.names []) (.ref T0) doc pm c' ctv) := inv1.base.keep f _ fAt fNew fFr (fun zz => nomatch (show f ∈ ([] : List Addr) from zz))
  have tupAt : s1.heap.get? T0 = some (PySem.W.kdv_tup [.int 0 tk0]) := inv1.base.keep T0 _ hT0 hTn hTf (fun zz => nomatch (show T0 ∈ ([] : List Addr) from zz))
  refine PySem.W.callWith_F0 ⟨_, _, _, _, fnAt⟩ ?_
  have unch : Un (frs X.stack) [] H HZ s.heap s1.heap := inv1.base
  obtain ⟨⟨oc, vs, t, ocAt, dcAt, vcAt⟩, _, _⟩ := inv1.hok c' _ hcod
  obtain ⟨kk, hb1, hb2⟩ := hbind
  have bindsTo : BindsTo s1 (PySem.W.kdv_fn "<lambda>" (X.env.qual ++ "<lambda>") params (.expr body) scope (cloFrom X.env.cells scope.names []) (.ref T0) doc pm (.ref c') ctv) ⟨[], []⟩ [(zz, .int 0 tk0)] := BindsTo.of_defaults rfl tupAt rfl hb1 (hb2 _)
  have runs : codeAny (model X.prog X.w) (X.A.deeper (envOfC qg sg s.heap.objs.size g cdg)) (.call (.ref f) ⟨[], []⟩) (CR (L2.CX X.prog X.w) (envOfC qg sg s.heap.objs.size g cdg :: X.stack) X.prog X.w HZ s1 Q E) s1 := by
    refine PySem.W.kla_callFunE roomH.depth fnAt rfl L.co L.gen rfl ⟨c', oc, vs, t, rfl, ocAt, dcAt, vcAt⟩ (bindsTo _ _ _ _ ?_)
    refine wpAny_newFunctionEnv (fun nm yIn => (L.own nm yIn).2) (fun nm yIn => ?_) (fun h₁ nsAt hsb => ⟨inv1.nolimit.fresh _ hsb, ?_⟩) L.kind
    · cases List.mem_singleton.mp yIn
      exact L.has
    show codeAny _ _ (.expr body (lamEnv X scope s1.heap.objs.size f c')) _ _
    have keepAll : ∀ b o, s1.heap.get? b = some o → h₁.get? b = some o := fun b o eq1 => hsb.extBut b o (Nat.ne_of_lt (Heap.lt_size eq1)) (Heap.get?_push_of_some _ eq1)
    have inw := lam_startD (E := E) (f := f) (c' := c') (tk := s1.toks + ([(zz, .int 0 tk0)] : List (Str × Value)).length) (A := X.A.deeper (envOfC qg sg s.heap.objs.size g cdg)) (outer := envOfC qg sg s.heap.objs.size g cdg :: X.stack) inv L inv1.env0 roomH.hd unch nsAt keepAll
    refine PySem.W.kla_codeExpr (wpAny_mono ((hbody _ _ s1 HZ (roomH.deeper _)).run [] _ _ HZ Q inw trip) (fun v s' got => ?_) fun eq1 s' got => got)
    obtain ⟨w', H', J', rv, oth⟩ := got
    exact ⟨w', H', J'.os, J'.bare, J'.base, J'.hok, rv, oth⟩
  have kept0 : Passes (L2.CX X.prog X.w) ((cxOf CXg X.prog X.w X.K X.mg X.base Ng qg sg g cdg X.A X.stack s H Eg).tr pn xe) E := passes_call tk hW
  refine wpAny_call (codeAny_mono runs fun rel1 s' got => ?_)
  cases rel1 with
  | error eq1 => exact kept0 pinsZ σZ HZ s1 eq1 s' inv1 got
  | ok flw =>
    cases flw with
    | ret res => exact inv1.after got
    | next => exact False.elim got
    | brk => exact False.elim got
    | cont => exact False.elim got
/-- x(lambda zz=0: body) -/
theorem pe_lamcallD {T : List (Addr × Str)} {TT : (XK → Hp → VK → Prop) → Hp → VK → Prop} {x a zz : Str} {g c P : Addr} {k kk : Nat} {pp : Pos} {pg : Arguments} {bg : List Stmt} {sg : Scope} {dV kV doc pm cdv ct oc : Value} {an od : Option Addr} {osl : Array (Option Value)} {Ng : List Str}
    {params : Arguments} {body : Expr} {scope : Scope} {t : XK → TE} {pr lpos pos : Pos} (hg : Gl X x) (inT : X.mg x = some (.ref g)) (hk : PySem.W.keepIn X.K (.ref g) = true)
    (inK : X.K.lookup g = some ⟨oc, od, .func (PySem.W.fnOf x x pg bg sg dV kV doc pm an cdv ct), osl⟩) (codK : PySem.W.codeIn X.K cdv x = true) (atP : L2.Binds X.K (PySem.W.fnOf x x pg bg sg dV kV doc pm an cdv ct) [a] []) (scG : FnScope Ng [a] sg) (hNg : Ng[0]? = some a) (hva : Vis sg a)
    (hG : GivesTo X Ng x sg g cdv bg a (X.env.qual ++ "<lambda>") TT)
    (TB : TabB X.base X.mg c P) (hcode : X.env.code = .ref c) (hmT : (P, X.env.qual ++ "<lambda>") ∈ T) (oneName : ∀ pr ∈ T, pr.1 = P → pr.2 = X.env.qual ++ "<lambda>") (roomH : Room (k + 2) X.A) (L : LamD X.N X.env.scope scope zz) (hd0 : params.defaults = [.Constant (.int 0) kk pp]) (kwd : params.kw_defaults = [])
    (hbind : ∀ (oth : Str) (cl : List (Str × Addr)) (T0 : Addr) (doc pm cod ctv : Value), ∃ kk : Option (Array Value) → Sem (List (Str × Value)), bindArgs (PySem.W.kdv_fn "<lambda>" oth params (.expr body) scope cl (.ref T0) doc pm cod ctv) ⟨[], []⟩ = seqItems? (.ref T0) >>= kk ∧ ∀ v, kk (some #[v]) = pure [(zz, v)])
    (hbody : ∀ (A : Around) (outer : List Env) (s : Shared) (H : Hp) (E : XK) (f c' : Addr), Room k (A.deeper (lamEnv X scope s.heap.objs.size f c')) → PE (lamCx X A outer s H E scope f c') body (t E))
    (hdb : (x == ("__debug__" : Str)) = false := by decide) (dfl : (a == ("__debug__" : Str)) = false := by decide) (hcd : (a == ("__classdict__" : Str)) = false := by decide) :
    PE X (.Call (.Name x pr) [.Lambda params body scope lpos] [] pos) (tLam T TT t) := by
  refine ⟨fun pins s σ H Q inv h => ?_⟩
  obtain ⟨tabs, h⟩ := h
  refine wpAny_Call_Name_kw (ld_glob inv hg inT ?_ hdb)
  refine PySem.W.callWith_K (h₀ := X.base) inv.ok.mod.kin hk ?_ (by rfl) (by rfl)
  show wpAny _ _ (spliced ((false, eval (.Lambda params body scope lpos) X.env) :: backTo pos (starEach [] X.env))) _ _ s
  refine Calls.spliced_cons (lam_makeD inv TB hcode hmT oneName tabs hd0 kwd (L.caps inv.ok) fun f c' T0 tk0 doc' pm' ctv H1 s' inv1 extH1 tabs1 fAt fNew fFr hT0 hTn hTf hco => ?_)
  refine Calls.spliced_nil ⟨inv1.kIn, ?_⟩
  have runs : codeAny (model X.prog X.w) X.A (.call (.ref g) ⟨[.ref f], []⟩) (CR C8.CX0 X.stack X.prog X.w H1 s' Q C8.E0) s' := by
    refine run_ofS (N := Ng) (ps := [a]) (us := [.ref f]) (vs := [.ref f]) inK codK scG roomH inv1.env0 (atP s' [.ref f] inv1.kIn rfl) (.cons rfl .nil) rfl fun hr' => ?_
    obtain ⟨t', ht', hq'⟩ := hG f c' s' H1 Q (fun E H' Q' => t E σ H' Q') (fun W pn xe E p1 p2 tk hW => pe_actD (i := 0) inv1 L fAt fNew fFr hT0 hTn hTf (hbind _ _ _ _ _ _ _) tk hW hr' (fun A outer s H hr2 => hbody A outer s H E f c' hr2) hNg hva dfl hcd) hco (h H1 extH1 tabs1)
    exact ⟨t', ht'.nox, hq'⟩
  refine wpAny_call (codeAny_mono runs fun rel1 s2 got => ?_)
  cases rel1 with
  | error eq1 => exact (show False from got).elim
  | ok flw =>
    cases flw with
    | ret res => exact inv1.after got
    | next => exact False.elim got
    | brk => exact False.elim got
    | cont => exact False.elim got
end
end TF


set_option Elab.async false
set_option linter.all false
set_option maxRecDepth 100000
set_option maxHeartbeats 4000000
namespace TF
open PySem PySem.Spec PyProof.Rows L2
/-! ### try: body / except x as n: suite, then rest: what was caught stands pinned through rest -/
def wKeep (K : PySem.W.Frag) (len : Nat) (c : Value) (i : Nat) (ts : TS) (tr : Addr → Value → Option Addr → TS) (Wout : WX) (D : Ends) : WX := fun cls d σ H =>
  ∃ b, PySem.W.exmOne K cls c = some b ∧ (b = true → ∀ a, H a = none → σ.length = len → ts { nx := fun σ' H' => tr a cls d D (σ'.set i none) H', rt := fun _ _ => False, bk := fun _ _ => False, ct := fun _ _ => False } (σ.set i (some (.ref a))) H) ∧ (b = false → Wout cls d σ H)
section
variable {X : Cx} {pins : List (Addr × Obj)} {σ : L2.St} {H : Hp} {s : Shared}
theorem keep_in {a : Addr} {ob : Obj} {pn : List (Addr × Obj)} (inv : Inv (X.suite a ((a, ob) :: pn)) [] σ H s) (okX : X.Ok) : Inv (X.tr ((a, ob) :: pn) X.xe) [] σ H s :=
  ⟨okX.toTry _ _, inv.os, inv.bare, inv.base, inv.loc, inv.cell, inv.free, inv.freeC, inv.pin, inv.hok, inv.len⟩
theorem keep_out {p : Addr × Obj} {xe : Value → Shared → Prop} (inv : Inv (X.tr (p :: (X.pn ++ pins)) xe) [] σ H s) (okX : X.Ok) : Inv X pins σ H s :=
  ⟨okX, inv.os, inv.bare, inv.base, inv.loc, inv.cell, inv.free, inv.freeC, fun q endR => inv.pin q (List.mem_append_left _ (List.mem_cons_of_mem _ endR)), inv.hok, inv.len⟩
end
section
variable {X : Cx} {x n : Str} {c : Value} {i : Nat} {body suite rest : List Stmt} {b₀ : Stmt} {np pos pos' : Pos} {tb : WX → TS} {ts : TS} {tr : Addr → Value → Option Addr → TS} {Wout : WX}
theorem pss_try_keep (stkX : X.stack = X.env :: X.outer) (frmX : X.env.frame = some X.env.locals) (dupN : X.N.Nodup) (slotN : X.N[i]? = some n) (locK : X.env.kindOf n = some .local) (nmX : Names X x c) (tkW : Takes X Wout)
    (bodyR : ∀ (W : WX) (pn : List (Addr × Obj)) (xe : Value → Shared → Prop), Takes (X.tr pn xe) W → PassesOwn (model X.prog X.w) X.A X.env xe → PSs (X.tr pn xe) body (tb W))
    (suiteR : ∀ (a : Addr) (ob : Obj) (pn : List (Addr × Obj)), PSs (X.suite a ((a, ob) :: pn)) (b₀ :: suite) ts)
    (restR : ∀ (a : Addr) (ob : Obj) (cls : Value) (d : Option Addr) (pn : List (Addr × Obj)), Zc cls d ob → (∃ vs, ob.data = .fields vs) → PSs (X.tr ((a, ob) :: pn) X.xe) rest (tr a cls d)) :
    PSs X (.Try body [.ExceptHandler (some (.Name x np)) (some n) (b₀ :: suite) pos'] [] [] pos :: rest)
      (fun D σ H => tb (wKeep X.K X.N.length c i ts tr Wout D) { nx := fun _ _ => False, rt := D.rt, bk := fun _ _ => False, ct := fun _ _ => False } σ H) := by
  refine ⟨fun pins s σ H D inv h => ?_⟩
  have okX := inv.ok
  have frX : X.A.frames = some (X.env :: X.outer) := by rw [okX.frames, stkX]
  have locN : Loc X.env.scope n := .inl locK
  obtain ⟨POST, hPOST⟩ : ∃ POST : Flow → Shared → Prop, POST = fun f s' => match f with | .next => wpAny (model X.prog X.w) X.A (execs rest X.env) (SP X pins D) X.xe s' | f => SP X pins D f s' := ⟨_, rfl⟩
  have pN : ∀ s', wpAny (model X.prog X.w) X.A (execs rest X.env) (SP X pins D) X.xe s' → POST .next s' := fun s' q => by rw [hPOST]; exact q
  have pR : ∀ u s', SP X pins D (.ret u) s' → POST (.ret u) s' := fun u s' q => by rw [hPOST]; exact q
  refine wpAny_execs_cons (thn (Q := POST) ?_ fun f s' q => by rw [hPOST] at q; cases f <;> exact q)
  refine wpAny_Try_except ?_
  refine wpAny_mono ((bodyR (wKeep X.K X.N.length c i ts tr Wout D) (X.pn ++ pins) (fun e s₁ => wpAny (model X.prog X.w) X.A (noteFrame e X.env) (fun _ s₂ => wpAny (model X.prog X.w) X.A (setFlight e none) (fun _ s₃ =>
    wpAny (model X.prog X.w) X.A (handleBy e X.env [.ExceptHandler (some (.Name x np)) (some n) (b₀ :: suite) pos']) POST X.xe s₃) X.xe s₂) X.xe s₁) (fun u s' xx => ?_) PassesOwn.looking).run [] s σ H _ (inv.toTry _) h) (fun f s1 endB => ?_) (fun e s1 evR => evR)
  · obtain ⟨a, B, sI, pins', σ', H', cls, d, rfl, J', nbE, grow, skyA, naF, osEq, agE, b, hb1, hyes, noN⟩ := xx
    have invB : Inv X pins σ' H' sI := J'.ofTry okX
    have sky' : Sky B (X.env :: X.outer) a (Zc cls d) X.env.locals s'.heap := by rw [← stkX]; exact skyA
    show wpAny (model X.prog X.w) X.A (noteFrame (.ref a) X.env) _ _ _
    refine Sky.land Zc.steady frX frmX sky' fun hp3 fly3 grow3 => ?_
    have invC : Inv X pins σ' H' { s' with heap := hp3 } := invB.landed nbE fly3.1 (grow.trans grow3) osEq agE
    obtain ⟨ob3, es3, at3, zc3, dat3⟩ := fly3.there
    have offFr : ∀ {h : Heap} {o : Obj} {vs : Array Value}, h.FunFrames B (X.env :: X.outer) → h.get? a = some o → o.data = .fields vs → a ∉ frs (X.env :: X.outer) := fun {h o vs} ff e dd gM => by
      obtain ⟨_, o', e', hnf⟩ := ff.mem gM
      rw [e] at e'; cases e'
      exact hnf _ dd
    have offA := offFr fly3.2.2.1 at3 dat3
    have neL : a ≠ X.env.locals := fun z => offA (List.mem_filterMap.mpr ⟨X.env, List.mem_cons_self, by rw [frmX, z]⟩)
    have ninF : a ∉ X.fs := fun gM => by
      obtain ⟨e, evR, q⟩ := List.mem_filterMap.mp gM
      exact offA (List.mem_filterMap.mpr ⟨e, List.mem_cons_of_mem _ evR, q⟩)
    have inS3 := invC.suite at3 dat3 naF neL ninF
    refine wpAny_handleBy_cons (codeAny_handlers_test ?_) (by intro q; cases q)
    have lookT : PySem.W.Looks (model X.prog X.w) hp3 (typeOf (.ref a)) cls := fun A Q E s k q => wpAny_typeOf_ref (k _ _ at3) (by rw [zc3.1]; exact q)
    have lookM := PySem.W.exm_one (M := model X.prog X.w) (invC.kIn) lookT hb1
    have askT : ∀ {Q : Value → Shared → Prop} {E : Value → Shared → Prop}, Q c { s' with heap := hp3 } → wpAny (model X.prog X.w) (X.A.mark (some (.ref a))) (eval (.Name x np) X.env) Q E { s' with heap := hp3 } := fun {Q E} q => by
      obtain ⟨gN, gD, gM | ⟨gM, gV, gB⟩⟩ := nmX
      · exact ld_glob (X := X.suite a ((a, ob3) :: (X.pn ++ pins))) inS3 gN gM q gD
      · exact ld_blt (X := X.suite a ((a, ob3) :: (X.pn ++ pins))) inS3 gN gM gV q gB gD
    refine askT (lookM.here ?_)
    cases b with
    | true =>
      refine codeAny_handlers_suite_as ?_
      refine HandSPX.lands_againZ fly3 fun hp4 fly4 grow4 => ?_
      have invD : Inv X pins σ' H' { s' with heap := hp4 } := invB.landed nbE fly4.1 ((grow.trans grow3).trans grow4) osEq agE
      obtain ⟨ob4, es4, at4, zc4, dat4⟩ := fly4.there
      have inS4 := invD.suite at4 dat4 naF neL ninF
      refine store_ok (X := X.suite a ((a, ob4) :: (X.pn ++ pins))) (v := .ref a) inS4 dupN slotN locN rfl (fun s5 inS5 => ?_) (.inr locK)
      refine wpAny_mono ((suiteR a ob4 (X.pn ++ pins)).run [] s5 _ H' _ inS5 (hyes rfl a naF invB.len)) (fun f s6 endB => ?_) (fun _ _ z => False.elim z)
      cases f with
      | next =>
        obtain ⟨σ6, H6, inS6, prom6⟩ := endB
        refine gone_ok (X := X.tr ((a, ob4) :: (X.pn ++ pins)) X.xe) (keep_in inS6 okX) dupN slotN locK fun s7 invG => pN _ ?_
        refine wpAny_mono ((restR a ob4 cls d (X.pn ++ pins) zc4 ⟨_, dat4⟩).run [] s7 _ H6 D invG prom6) (fun f s8 endR => ?_) (fun _ _ z => z)
        cases f with
        | next =>
          obtain ⟨σ8, H8, invH, prom8⟩ := endR
          exact ⟨σ8, H8, keep_out invH okX, prom8⟩
        | brk =>
          obtain ⟨σ8, H8, invH, prom8⟩ := endR
          exact ⟨σ8, H8, keep_out invH okX, prom8⟩
        | cont =>
          obtain ⟨σ8, H8, invH, prom8⟩ := endR
          exact ⟨σ8, H8, keep_out invH okX, prom8⟩
        | ret u =>
          obtain ⟨v8, σ8, H8, invH, r8, prom8⟩ := endR
          exact ⟨v8, σ8, H8, keep_out invH okX, r8, prom8⟩
      | brk =>
        obtain ⟨_, _, _, prom6⟩ := endB
        exact prom6.elim
      | cont =>
        obtain ⟨_, _, _, prom6⟩ := endB
        exact prom6.elim
      | ret u =>
        obtain ⟨_, _, _, _, _, prom6⟩ := endB
        exact prom6.elim
    | false =>
      show wpAny _ X.A (handleBy (.ref a) X.env []) _ _ _
      refine wpAny_handleBy_nil ?_
      obtain ⟨k1, k2, k3, ob, vs, XF, oT, ts', evR, zcA, datA, h1, hr1⟩ := id fly3
      unfold PySem.passOn
      refine wpAny_bind (wpAny_field evR datA h1 ?_)
      rw [if_neg (show ¬ ((Value.ref XF == Value.none) = true) from by simp)]
      have finish : wpAny (model X.prog X.w) X.A (setFlight (.ref a) X.env.frame) (fun _ s4 => wpAny (model X.prog X.w) X.A (throw (.ref a) : Sem Flow) POST X.xe s4) X.xe { s' with heap := hp3 } := by
        rw [frmX]
        refine HandSPX.setFlight_upZ fly3 fun hp4 fl44 grow4 => wpAny_throw (tkW _ _ ?_)
        exact ⟨a, B, sI, pins, σ', H', cls, d, rfl, invB, nbE, (grow.trans grow3).trans grow4, .inr (.inr (by rw [stkX]; exact fl44)), naF, osEq, agE, noN rfl⟩
      first
        | exact wpAny_bind (wpAny_pure (wpAny_bind finish))
        | exact wpAny_bind finish
  · cases f with
    | next =>
      obtain ⟨_, _, _, q⟩ := endB
      exact q.elim
    | brk =>
      obtain ⟨_, _, _, q⟩ := endB
      exact q.elim
    | cont =>
      obtain ⟨_, _, _, q⟩ := endB
      exact q.elim
    | ret u =>
      obtain ⟨v, σ', H', J', rels, q⟩ := endB
      exact pR u s1 ⟨v, σ', H', J'.ofTry okX, rels, q⟩
end
/-! ### isinstance and the fields of the pinned exception -/
/-- what an own exception's class must say -/
structure HdC (K : PySem.W.Frag) (D : Addr) : Prop where
  xf : XfC K D
  atA : PySem.W.findIn K (.ref D) "__class__" = some (some (.builtin "object.__class__"))
  hn : PySem.W.specialIn K (.builtin "object.__class__") "__get__" = some (some (.builtin "getset_descriptor.__get__"))
  ht : PySem.W.takesIn K (.builtin "object.__class__") = some true
  gM : PySem.W.mroIn K D (.type "object") = some true
theorem hasDict_isCls {K : PySem.W.Frag} {D : Addr} (h : PySem.W.hasDictIn K D = true) : (PySem.W.clsIn K D).isSome = true := by
  obtain ⟨cd, nmX, _⟩ := PySem.W.any_some h
  rw [nmX]; rfl
def rIsP (K : PySem.W.Frag) (D a dd : Addr) : List V → Hp → VK → Prop := fun xs H Q => ∃ (c : V) (cv : Value) (b : Bool) (fs : List (Str × V)), xs = [.ref a, c] ∧ (∀ u, RelV c u → u = cv) ∧ H dd = some (.xd fs) ∧ PySem.W.kitOne K (.ref D) cv = some b ∧ Q (.bl b) H
theorem call_isP {X : Cx} {a D dd : Addr} {ob : Obj} {pn : List (Addr × Obj)} (C : HdC X.K D) (zcA : Zc (.ref D) (some dd) ob) (frmX : ∃ vs, ob.data = .fields vs) : CallR (X.tr ((a, ob) :: pn) X.xe) (.builtin "isinstance") (rIsP X.K D a dd) := by
  intro pins s σ H xs us Q inv rels h
  obtain ⟨c, cv, b, fs, rfl, onlyC, atDD, e, q⟩ := h
  cases rels with
  | cons relA relR =>
    cases relR with
    | cons rt relR =>
      cases relR
      cases relA
      have eqC := onlyC _ rt
      subst eqC
      obtain ⟨hget, _⟩ := inv.pin (a, ob) (List.mem_append.mpr (.inl List.mem_cons_self))
      obtain ⟨vs, gV⟩ := frmX
      have okD : ObjOk X.prog X.w H s.heap dd (.xd fs) := inv.hok dd _ atDD
      obtain ⟨mA, nsD, _⟩ := okD
      obtain ⟨od, obD, _⟩ := lookIn_ns nsD
      have invB : PySem.W.InstAt s.heap a ob D (some od) := ⟨hget, zcA.1, by unfold PySem.W.notCls; rw [gV] <;> rfl, by rw [zcA.2]; exact obD⟩
      exact PySem.W.kia_one (PySem.W.kitx_exc (hasDict_isCls C.xf.hdC) C.xf.ga C.xf.gg C.xf.exC C.atA C.hn C.ht C.gM) inv.kIn invB e (fun z => nomatch z) fun tkW => ⟨.bl b, H, inv.kept (t' := tkW) fun _ _ z => z, rfl, q⟩
theorem pe_xfP {X : Cx} {a C : Addr} {ob : Obj} {cls : Value} {d : Option Addr} {pn : List (Addr × Obj)} {e : Expr} {te : TE} {pos : Pos} {n : Str} (XF : XfC X.K C) (noN : PySem.W.findIn X.K (.ref C) n = some none)
    (zcA : Zc cls d ob) (frmX : ∃ vs, ob.data = .fields vs) (evR : PE (X.tr ((a, ob) :: pn) X.xe) e te) (bodyR : attributeBase e n X.env (eval e X.env) = eval e X.env := by rfl) :
    PE (X.tr ((a, ob) :: pn) X.xe) (.Attribute e n pos) (tXf a cls d C n te) := by
  refine ⟨fun pins s σ H Q inv h => ?_⟩
  refine attr_of bodyR (thn (evR.run pins s σ H _ inv h) fun u s1 hh => ?_)
  obtain ⟨x, H1, inv1, relA, eqX, eqC, dd, fs, v, eqD, atD, lkV, q⟩ := hh
  subst eqX
  obtain rfl : u = Value.ref a := relA
  subst eqC
  subst eqD
  obtain ⟨atA, _⟩ := inv1.pin (a, ob) (List.mem_append_left _ List.mem_cons_self)
  obtain ⟨vs, datA⟩ := frmX
  have okD : ObjOk X.prog X.w H1 s1.heap dd (.xd fs) := inv1.hok dd _ atD
  obtain ⟨mA, nsD, restR⟩ := okD
  obtain ⟨od, obD, lookD⟩ := lookIn_ns nsD
  obtain ⟨u, valU, relU⟩ := RelO.some_of (v := v) (o := mA n) (by rw [← lkV]; exact restR n)
  have invB : PySem.W.InstAt s1.heap a ob C (some od) := ⟨atA, zcA.1, by unfold PySem.W.notCls; rw [datA] <;> rfl, by rw [zcA.2]; exact obD⟩
  exact HandSPX.exc_get inv1.kIn invB XF.ga XF.gg XF.exC (PySem.W.findObj_own XF.hdC noN rfl (by rw [lookD, valU])) (handed_of relU) ⟨v, H1, inv1.tok _, relU, q⟩
end TF


set_option Elab.async false
set_option linter.all false
set_option maxRecDepth 100000
set_option maxHeartbeats 4000000
namespace TF
open PySem PySem.Spec PyProof.Rows L2 LamX
/-! ### _law_heard: what a lambda's call raises is told -/
structure HeardK (K : PySem.W.Frag) (mg : Str → Option Value) (CG CS CM CT CI : Addr) : Prop where
  gI : mg "TileError" = some (.ref CI)
  gG : mg "BadProgram" = some (.ref CG)
  gS : mg "BadStand" = some (.ref CS)
  gM : mg "TooMany" = some (.ref CM)
  gT : mg "BadPoint" = some (.ref CT)
  eG : PySem.W.exmOne K (.ref CG) (.ref CI) = some true
  eS : PySem.W.exmOne K (.ref CS) (.ref CI) = some true
  eM : PySem.W.exmOne K (.ref CM) (.ref CI) = some true
  eT : PySem.W.exmOne K (.ref CT) (.ref CI) = some true
  hG : HdC K CG
  hS : HdC K CS
  hM : HdC K CM
  hT : HdC K CT
  nG : PySem.W.findIn K (.ref CG) "part" = some none
  nS : PySem.W.findIn K (.ref CS) "part" = some none
  nT : PySem.W.findIn K (.ref CT) "part" = some none
  nW : PySem.W.findIn K (.ref CM) "what" = some none
  nM : PySem.W.findIn K (.ref CM) "most" = some none
  kGG : PySem.W.kitOne K (.ref CG) (.ref CG) = some true
  kSG : PySem.W.kitOne K (.ref CS) (.ref CG) = some false
  kSS : PySem.W.kitOne K (.ref CS) (.ref CS) = some true
  kMG : PySem.W.kitOne K (.ref CM) (.ref CG) = some false
  kMS : PySem.W.kitOne K (.ref CM) (.ref CS) = some false
  kMM : PySem.W.kitOne K (.ref CM) (.ref CM) = some true
  kTG : PySem.W.kitOne K (.ref CT) (.ref CG) = some false
  kTS : PySem.W.kitOne K (.ref CT) (.ref CS) = some false
  kTM : PySem.W.kitOne K (.ref CT) (.ref CM) = some false
  kTT : PySem.W.kitOne K (.ref CT) (.ref CT) = some true
/-- what was raised, and the two words that tell it -/
inductive Kd (CG CS CM CT : Addr) (H : Hp) : Value → Option Addr → V → V → Prop where
  | pg (d : Addr) (y : V) (h : H d = some (.xd [(("part" : Str), y)])) : Kd CG CS CM CT H (.ref CG) (some d) (.str "program") y
  | sd (d : Addr) (y : V) (h : H d = some (.xd [(("part" : Str), y)])) : Kd CG CS CM CT H (.ref CS) (some d) (.str "stand") y
  | mn (d : Addr) (x y : V) (h : H d = some (.xd [(("most" : Str), y), (("what" : Str), x)])) : Kd CG CS CM CT H (.ref CM) (some d) x y
  | pt (d : Addr) (y : V) (h : H d = some (.xd [(("part" : Str), y)])) : Kd CG CS CM CT H (.ref CT) (some d) (.str "point") y
def TTh (CG CS CM CT : Addr) : (XK → Hp → VK → Prop) → Hp → VK → Prop := fun tl H Q =>
  tl (fun cls d H' => ∃ x y : V, Kd CG CS CM CT H' cls d x y ∧ ∀ t H2, Same H' H2 → H2 t = some (.tup [x, y]) → Q (.ref t) H2) H (fun _ _ => False)
theorem look_part (v : V) : List.lookup ("part" : Str) [(("part" : Str), v)] = some v := by simp [List.lookup]
theorem look_most (v u : V) : List.lookup ("most" : Str) [(("most" : Str), v), (("what" : Str), u)] = some v := by simp [List.lookup]
theorem look_what (v u : V) : List.lookup ("what" : Str) [(("most" : Str), v), (("what" : Str), u)] = some u := by
  have e : (("what" : Str) == ("most" : Str)) = false := by decide
  simp [List.lookup, e]
section
variable {X : Cx} {CG CS CM CT CI : Addr}
theorem heard_gives {g : Addr} {cdg : Value} {q : Str} (B : Bz X.mg) (HK : HeardK X.K X.mg CG CS CM CT CI) : GivesTo X n_law_heard "_law_heard" (defScope s_law_heard) g cdg (defBody s_law_heard) "_law_ask" q (TTh CG CS CM CT) := by
  intro f c' s H Q tl act hc h
  refine ⟨_, pss_cons (ps_set (i := 1) sc_law_heard.nd rfl (Or.inl rfl) pe_non)
    (pss_try_keep (X := (cxOf C8.CX0 X.prog X.w X.K X.mg X.base n_law_heard "_law_heard" (defScope s_law_heard) g cdg X.A X.stack s H C8.E0).nox) (i := 2) (c := .ref CI)
      (tb := fun W D σ H => ∃ Ech : XK, (∀ cls d σ' H', Ech cls d H' → W cls d σ' H') ∧ σ[0]? = some (some (.ref f)) ∧ H c' = some (CodeO c' q) ∧ tl Ech H (fun _ H' => D.nx σ H')) (ts := tAsg (tVar 2) (gName 1))
      (tr := fun a cls d E σ H => ∃ x y : V, Kd CG CS CM CT H cls d x y ∧ σ[1]? = some (some (.ref a)) ∧ ∀ t H2, Same H H2 → H2 t = some (.tup [x, y]) → E.rt (.ref t) H2)
      rfl rfl sc_law_heard.nd rfl rfl ⟨by rfl, by decide, .inl HK.gI⟩ L2.takes0 (fun W pn xe tk _ => ?_) (fun a oe pn => pss_one (ps_set (i := 1) sc_law_heard.nd rfl (Or.inl rfl) (pv 2))) (fun a oe cls d pn hz hf => ?_)), ?_⟩
  · refine ⟨fun pins s' σ H' D I h' => ?_⟩
    obtain ⟨Ech, hW, h1, h2, h3⟩ := h'
    exact (pss_one (ps_expr (act W pn xe Ech _ _ tk hW))).run pins s' σ H' D I ⟨h1, h2, h3⟩
  · refine ⟨fun pins s' σ H' D I h' => ?_⟩
    obtain ⟨x, y, kd, h1, k⟩ := h'
    cases kd with
    | pg d y h0 =>
      have HD := HK.hG
      refine PSs.run ((pss_cons (ps_if (pt_val (pe_callB (call_isP (X := (cxOf C8.CX0 X.prog X.w X.K X.mg X.base n_law_heard "_law_heard" (defScope s_law_heard) g cdg X.A X.stack s H C8.E0).nox) HD hz hf) (by rfl) B.isi (by decide +kernel) (pa_cons (pv 1) (pa_cons (pe_glob (v := .ref CG) (by rfl) HK.gG rfl) pa_nil)))) (pss_one (ps_ret (pe_tup (pa_cons pe_str (pa_cons (pe_xfP (X := (cxOf C8.CX0 X.prog X.w X.K X.mg X.base n_law_heard "_law_heard" (defScope s_law_heard) g cdg X.A X.stack s H C8.E0).nox) HK.hG.xf HK.nG hz hf (pv 1)) pa_nil))))) pss_nil)
      (pss_cons (ps_if (pt_val (pe_callB (call_isP (X := (cxOf C8.CX0 X.prog X.w X.K X.mg X.base n_law_heard "_law_heard" (defScope s_law_heard) g cdg X.A X.stack s H C8.E0).nox) HD hz hf) (by rfl) B.isi (by decide +kernel) (pa_cons (pv 1) (pa_cons (pe_glob (v := .ref CS) (by rfl) HK.gS rfl) pa_nil)))) (pss_one (ps_ret (pe_tup (pa_cons pe_str (pa_cons (pe_xfP (X := (cxOf C8.CX0 X.prog X.w X.K X.mg X.base n_law_heard "_law_heard" (defScope s_law_heard) g cdg X.A X.stack s H C8.E0).nox) HK.hS.xf HK.nS hz hf (pv 1)) pa_nil))))) pss_nil)
      (pss_cons (ps_if (pt_val (pe_callB (call_isP (X := (cxOf C8.CX0 X.prog X.w X.K X.mg X.base n_law_heard "_law_heard" (defScope s_law_heard) g cdg X.A X.stack s H C8.E0).nox) HD hz hf) (by rfl) B.isi (by decide +kernel) (pa_cons (pv 1) (pa_cons (pe_glob (v := .ref CM) (by rfl) HK.gM rfl) pa_nil))))
      (pss_one (ps_ret (pe_tup (pa_cons (pe_xfP (X := (cxOf C8.CX0 X.prog X.w X.K X.mg X.base n_law_heard "_law_heard" (defScope s_law_heard) g cdg X.A X.stack s H C8.E0).nox) HK.hM.xf HK.nW hz hf (pv 1)) (pa_cons (pe_xfP (X := (cxOf C8.CX0 X.prog X.w X.K X.mg X.base n_law_heard "_law_heard" (defScope s_law_heard) g cdg X.A X.stack s H C8.E0).nox) HK.hM.xf HK.nM hz hf (pv 1)) pa_nil)))))
      pss_nil)
      (pss_one (ps_ret (pe_ifExp (pt_val (pe_callB (call_isP (X := (cxOf C8.CX0 X.prog X.w X.K X.mg X.base n_law_heard "_law_heard" (defScope s_law_heard) g cdg X.A X.stack s H C8.E0).nox) HD hz hf) (by rfl) B.isi (by decide +kernel) (pa_cons (pv 1) (pa_cons (pe_glob (v := .ref CT) (by rfl) HK.gT rfl) pa_nil)))) (pe_tup (pa_cons pe_str (pa_cons (pe_xfP (X := (cxOf C8.CX0 X.prog X.w X.K X.mg X.base n_law_heard "_law_heard" (defScope s_law_heard) g cdg X.A X.stack s H C8.E0).nox) HK.hT.xf HK.nT hz hf (pv 1)) pa_nil))) (pe_ifExp (pt_cmpR op_isN (pv 1) pe_non (nomark _)) pe_non (pe_tup (pa_cons pe_str (pa_cons pe_non pa_nil))))))))))) pins s' σ H' D I ?_
      exact ⟨_, h1, .ref CG, .ref CG, true, _, rfl, fun u r => r, h0, HK.kGG, _, rfl, iteT ⟨_, h1, rfl, rfl, d, _, _, rfl, h0, look_part _, by show 2 ≤ sizeLine; decide, fun t nt => k t _ (same_upd nt) upd_same⟩⟩
    | sd d y h0 =>
      have HD := HK.hS
      refine PSs.run ((pss_cons (ps_if (pt_val (pe_callB (call_isP (X := (cxOf C8.CX0 X.prog X.w X.K X.mg X.base n_law_heard "_law_heard" (defScope s_law_heard) g cdg X.A X.stack s H C8.E0).nox) HD hz hf) (by rfl) B.isi (by decide +kernel) (pa_cons (pv 1) (pa_cons (pe_glob (v := .ref CG) (by rfl) HK.gG rfl) pa_nil)))) (pss_one (ps_ret (pe_tup (pa_cons pe_str (pa_cons (pe_xfP (X := (cxOf C8.CX0 X.prog X.w X.K X.mg X.base n_law_heard "_law_heard" (defScope s_law_heard) g cdg X.A X.stack s H C8.E0).nox) HK.hG.xf HK.nG hz hf (pv 1)) pa_nil))))) pss_nil)
      (pss_cons (ps_if (pt_val (pe_callB (call_isP (X := (cxOf C8.CX0 X.prog X.w X.K X.mg X.base n_law_heard "_law_heard" (defScope s_law_heard) g cdg X.A X.stack s H C8.E0).nox) HD hz hf) (by rfl) B.isi (by decide +kernel) (pa_cons (pv 1) (pa_cons (pe_glob (v := .ref CS) (by rfl) HK.gS rfl) pa_nil)))) (pss_one (ps_ret (pe_tup (pa_cons pe_str (pa_cons (pe_xfP (X := (cxOf C8.CX0 X.prog X.w X.K X.mg X.base n_law_heard "_law_heard" (defScope s_law_heard) g cdg X.A X.stack s H C8.E0).nox) HK.hS.xf HK.nS hz hf (pv 1)) pa_nil))))) pss_nil)
      (pss_cons (ps_if (pt_val (pe_callB (call_isP (X := (cxOf C8.CX0 X.prog X.w X.K X.mg X.base n_law_heard "_law_heard" (defScope s_law_heard) g cdg X.A X.stack s H C8.E0).nox) HD hz hf) (by rfl) B.isi (by decide +kernel) (pa_cons (pv 1) (pa_cons (pe_glob (v := .ref CM) (by rfl) HK.gM rfl) pa_nil))))
      (pss_one (ps_ret (pe_tup (pa_cons (pe_xfP (X := (cxOf C8.CX0 X.prog X.w X.K X.mg X.base n_law_heard "_law_heard" (defScope s_law_heard) g cdg X.A X.stack s H C8.E0).nox) HK.hM.xf HK.nW hz hf (pv 1)) (pa_cons (pe_xfP (X := (cxOf C8.CX0 X.prog X.w X.K X.mg X.base n_law_heard "_law_heard" (defScope s_law_heard) g cdg X.A X.stack s H C8.E0).nox) HK.hM.xf HK.nM hz hf (pv 1)) pa_nil)))))
      pss_nil)
      (pss_one (ps_ret (pe_ifExp (pt_val (pe_callB (call_isP (X := (cxOf C8.CX0 X.prog X.w X.K X.mg X.base n_law_heard "_law_heard" (defScope s_law_heard) g cdg X.A X.stack s H C8.E0).nox) HD hz hf) (by rfl) B.isi (by decide +kernel) (pa_cons (pv 1) (pa_cons (pe_glob (v := .ref CT) (by rfl) HK.gT rfl) pa_nil)))) (pe_tup (pa_cons pe_str (pa_cons (pe_xfP (X := (cxOf C8.CX0 X.prog X.w X.K X.mg X.base n_law_heard "_law_heard" (defScope s_law_heard) g cdg X.A X.stack s H C8.E0).nox) HK.hT.xf HK.nT hz hf (pv 1)) pa_nil))) (pe_ifExp (pt_cmpR op_isN (pv 1) pe_non (nomark _)) pe_non (pe_tup (pa_cons pe_str (pa_cons pe_non pa_nil))))))))))) pins s' σ H' D I ?_
      exact ⟨_, h1, .ref CG, .ref CG, false, _, rfl, fun u r => r, h0, HK.kSG, _, rfl, iteF ⟨_, h1, .ref CS, .ref CS, true, _, rfl, fun u r => r, h0, HK.kSS, _, rfl, iteT ⟨_, h1, rfl, rfl, d, _, _, rfl, h0, look_part _, by show 2 ≤ sizeLine; decide, fun t nt => k t _ (same_upd nt) upd_same⟩⟩⟩
    | mn d x y h0 =>
      have HD := HK.hM
      refine PSs.run ((pss_cons (ps_if (pt_val (pe_callB (call_isP (X := (cxOf C8.CX0 X.prog X.w X.K X.mg X.base n_law_heard "_law_heard" (defScope s_law_heard) g cdg X.A X.stack s H C8.E0).nox) HD hz hf) (by rfl) B.isi (by decide +kernel) (pa_cons (pv 1) (pa_cons (pe_glob (v := .ref CG) (by rfl) HK.gG rfl) pa_nil)))) (pss_one (ps_ret (pe_tup (pa_cons pe_str (pa_cons (pe_xfP (X := (cxOf C8.CX0 X.prog X.w X.K X.mg X.base n_law_heard "_law_heard" (defScope s_law_heard) g cdg X.A X.stack s H C8.E0).nox) HK.hG.xf HK.nG hz hf (pv 1)) pa_nil))))) pss_nil)
      (pss_cons (ps_if (pt_val (pe_callB (call_isP (X := (cxOf C8.CX0 X.prog X.w X.K X.mg X.base n_law_heard "_law_heard" (defScope s_law_heard) g cdg X.A X.stack s H C8.E0).nox) HD hz hf) (by rfl) B.isi (by decide +kernel) (pa_cons (pv 1) (pa_cons (pe_glob (v := .ref CS) (by rfl) HK.gS rfl) pa_nil)))) (pss_one (ps_ret (pe_tup (pa_cons pe_str (pa_cons (pe_xfP (X := (cxOf C8.CX0 X.prog X.w X.K X.mg X.base n_law_heard "_law_heard" (defScope s_law_heard) g cdg X.A X.stack s H C8.E0).nox) HK.hS.xf HK.nS hz hf (pv 1)) pa_nil))))) pss_nil)
      (pss_cons (ps_if (pt_val (pe_callB (call_isP (X := (cxOf C8.CX0 X.prog X.w X.K X.mg X.base n_law_heard "_law_heard" (defScope s_law_heard) g cdg X.A X.stack s H C8.E0).nox) HD hz hf) (by rfl) B.isi (by decide +kernel) (pa_cons (pv 1) (pa_cons (pe_glob (v := .ref CM) (by rfl) HK.gM rfl) pa_nil))))
      (pss_one (ps_ret (pe_tup (pa_cons (pe_xfP (X := (cxOf C8.CX0 X.prog X.w X.K X.mg X.base n_law_heard "_law_heard" (defScope s_law_heard) g cdg X.A X.stack s H C8.E0).nox) HK.hM.xf HK.nW hz hf (pv 1)) (pa_cons (pe_xfP (X := (cxOf C8.CX0 X.prog X.w X.K X.mg X.base n_law_heard "_law_heard" (defScope s_law_heard) g cdg X.A X.stack s H C8.E0).nox) HK.hM.xf HK.nM hz hf (pv 1)) pa_nil)))))
      pss_nil)
      (pss_one (ps_ret (pe_ifExp (pt_val (pe_callB (call_isP (X := (cxOf C8.CX0 X.prog X.w X.K X.mg X.base n_law_heard "_law_heard" (defScope s_law_heard) g cdg X.A X.stack s H C8.E0).nox) HD hz hf) (by rfl) B.isi (by decide +kernel) (pa_cons (pv 1) (pa_cons (pe_glob (v := .ref CT) (by rfl) HK.gT rfl) pa_nil)))) (pe_tup (pa_cons pe_str (pa_cons (pe_xfP (X := (cxOf C8.CX0 X.prog X.w X.K X.mg X.base n_law_heard "_law_heard" (defScope s_law_heard) g cdg X.A X.stack s H C8.E0).nox) HK.hT.xf HK.nT hz hf (pv 1)) pa_nil))) (pe_ifExp (pt_cmpR op_isN (pv 1) pe_non (nomark _)) pe_non (pe_tup (pa_cons pe_str (pa_cons pe_non pa_nil))))))))))) pins s' σ H' D I ?_
      exact ⟨_, h1, .ref CG, .ref CG, false, _, rfl, fun u r => r, h0, HK.kMG, _, rfl, iteF ⟨_, h1, .ref CS, .ref CS, false, _, rfl, fun u r => r, h0, HK.kMS, _, rfl, iteF ⟨_, h1, .ref CM, .ref CM, true, _, rfl, fun u r => r, h0, HK.kMM, _, rfl, iteT ⟨_, h1, rfl, rfl, d, _, _, rfl, h0, look_what _ _, _, h1, rfl, rfl, d, _, _, rfl, h0, look_most _ _, by show 2 ≤ sizeLine; decide, fun t nt => k t _ (same_upd nt) upd_same⟩⟩⟩⟩
    | pt d y h0 =>
      have HD := HK.hT
      refine PSs.run ((pss_cons (ps_if (pt_val (pe_callB (call_isP (X := (cxOf C8.CX0 X.prog X.w X.K X.mg X.base n_law_heard "_law_heard" (defScope s_law_heard) g cdg X.A X.stack s H C8.E0).nox) HD hz hf) (by rfl) B.isi (by decide +kernel) (pa_cons (pv 1) (pa_cons (pe_glob (v := .ref CG) (by rfl) HK.gG rfl) pa_nil)))) (pss_one (ps_ret (pe_tup (pa_cons pe_str (pa_cons (pe_xfP (X := (cxOf C8.CX0 X.prog X.w X.K X.mg X.base n_law_heard "_law_heard" (defScope s_law_heard) g cdg X.A X.stack s H C8.E0).nox) HK.hG.xf HK.nG hz hf (pv 1)) pa_nil))))) pss_nil)
      (pss_cons (ps_if (pt_val (pe_callB (call_isP (X := (cxOf C8.CX0 X.prog X.w X.K X.mg X.base n_law_heard "_law_heard" (defScope s_law_heard) g cdg X.A X.stack s H C8.E0).nox) HD hz hf) (by rfl) B.isi (by decide +kernel) (pa_cons (pv 1) (pa_cons (pe_glob (v := .ref CS) (by rfl) HK.gS rfl) pa_nil)))) (pss_one (ps_ret (pe_tup (pa_cons pe_str (pa_cons (pe_xfP (X := (cxOf C8.CX0 X.prog X.w X.K X.mg X.base n_law_heard "_law_heard" (defScope s_law_heard) g cdg X.A X.stack s H C8.E0).nox) HK.hS.xf HK.nS hz hf (pv 1)) pa_nil))))) pss_nil)
      (pss_cons (ps_if (pt_val (pe_callB (call_isP (X := (cxOf C8.CX0 X.prog X.w X.K X.mg X.base n_law_heard "_law_heard" (defScope s_law_heard) g cdg X.A X.stack s H C8.E0).nox) HD hz hf) (by rfl) B.isi (by decide +kernel) (pa_cons (pv 1) (pa_cons (pe_glob (v := .ref CM) (by rfl) HK.gM rfl) pa_nil))))
      (pss_one (ps_ret (pe_tup (pa_cons (pe_xfP (X := (cxOf C8.CX0 X.prog X.w X.K X.mg X.base n_law_heard "_law_heard" (defScope s_law_heard) g cdg X.A X.stack s H C8.E0).nox) HK.hM.xf HK.nW hz hf (pv 1)) (pa_cons (pe_xfP (X := (cxOf C8.CX0 X.prog X.w X.K X.mg X.base n_law_heard "_law_heard" (defScope s_law_heard) g cdg X.A X.stack s H C8.E0).nox) HK.hM.xf HK.nM hz hf (pv 1)) pa_nil)))))
      pss_nil)
      (pss_one (ps_ret (pe_ifExp (pt_val (pe_callB (call_isP (X := (cxOf C8.CX0 X.prog X.w X.K X.mg X.base n_law_heard "_law_heard" (defScope s_law_heard) g cdg X.A X.stack s H C8.E0).nox) HD hz hf) (by rfl) B.isi (by decide +kernel) (pa_cons (pv 1) (pa_cons (pe_glob (v := .ref CT) (by rfl) HK.gT rfl) pa_nil)))) (pe_tup (pa_cons pe_str (pa_cons (pe_xfP (X := (cxOf C8.CX0 X.prog X.w X.K X.mg X.base n_law_heard "_law_heard" (defScope s_law_heard) g cdg X.A X.stack s H C8.E0).nox) HK.hT.xf HK.nT hz hf (pv 1)) pa_nil))) (pe_ifExp (pt_cmpR op_isN (pv 1) pe_non (nomark _)) pe_non (pe_tup (pa_cons pe_str (pa_cons pe_non pa_nil))))))))))) pins s' σ H' D I ?_
      exact ⟨_, h1, .ref CG, .ref CG, false, _, rfl, fun u r => r, h0, HK.kTG, _, rfl, iteF ⟨_, h1, .ref CS, .ref CS, false, _, rfl, fun u r => r, h0, HK.kTS, _, rfl, iteF ⟨_, h1, .ref CM, .ref CM, false, _, rfl, fun u r => r, h0, HK.kTM, _, rfl, iteF ⟨_, h1, .ref CT, .ref CT, true, _, rfl, fun u r => r, h0, HK.kTT, _, rfl, iteT ⟨_, h1, rfl, rfl, d, _, _, rfl, h0, look_part _, by show 2 ≤ sizeLine; decide, fun t nt => k t _ (same_upd nt) upd_same⟩⟩⟩⟩⟩
  · refine ⟨fun cls d H' => ∃ x y : V, Kd CG CS CM CT H' cls d x y ∧ ∀ t H2, Same H' H2 → H2 t = some (.tup [x, y]) → Q (.ref t) H2, fun cls d σ' H' ⟨x, y, kd, k⟩ => ⟨true, ?_, fun _ a na hl => ?_, fun z => nomatch z⟩, rfl, hc, h⟩
    · cases kd with
      | pg d y h0 => exact HK.eG
      | sd d y h0 => exact HK.eS
      | mn d x y h0 => exact HK.eM
      | pt d y h0 => exact HK.eT
    · match σ', hl with
      | [s0, s1, s2], _ => exact ⟨_, rfl, x, y, kd, rfl, k⟩
end
end TF


set_option Elab.async false
set_option linter.all false
set_option maxRecDepth 100000
set_option maxHeartbeats 4000000
namespace TF
open PySem PySem.Spec PyProof.Rows L2
theorem passX0 {X : Cx} : Passes (L2.CX X.prog X.w) X E0 := fun _ _ _ _ _ _ _ h => by
  obtain ⟨_, _, _, _, _, _, _, _, _, _, _, _, z⟩ := h
  exact z.elim
/-- lines and a stand of a program of them -/
structure Ls (K : PySem.W.Frag) (H : Hp) (q l st : Addr) (ls : List V) (z : Int) (c1 c2 : Option Nat) : Prop where
  hl : H l = some (.lst ls)
  ne : l ≠ q
  l1 : 1 ≤ ls.length
  l2 : ls.length ≤ 15
  hls : ∀ v ∈ ls, LnAt K H ls.length v
  hs : H st = some (.tup [.int z, cv c1, cv c2])
  z0 : 0 ≤ z
  z1 : z < ls.length
  b1 : ∀ k, c1 = some k → k ≤ 200
  b2 : ∀ k, c2 = some k → k ≤ 200
theorem Ls.kp {K : PySem.W.Frag} {H H' : Hp} {q l st : Addr} {ls : List V} {z : Int} {c1 c2 : Option Nat} (L : Ls K H q l st ls z c1 c2) (k : Kp q H H') : Ls K H' q l st ls z c1 c2 :=
  ⟨k.lst L.ne L.hl, L.ne, L.l1, L.l2, fun v hv => k.ln (L.hls v hv), k.tup L.hs, L.z0, L.z1, L.b1, L.b2⟩
theorem Ls.same {K : PySem.W.Frag} {H H' : Hp} {q l st : Addr} {ls : List V} {z : Int} {c1 c2 : Option Nat} (L : Ls K H q l st ls z c1 c2) (s : Same H H') : Ls K H' q l st ls z c1 c2 :=
  ⟨s _ _ L.hl, L.ne, L.l1, L.l2, fun v hv => (L.hls v hv).same s, s _ _ L.hs, L.z0, L.z1, L.b1, L.b2⟩
theorem cb_of {c : Option Nat} (h : ∀ k, c = some k → k ≤ 200) : CB c := fun k e => by have := h k e; omega
theorem mk_prog {K : PySem.W.Frag} {CP : Addr} {H : Hp} {lt : Addr} {ls : List V} {QD : Addr → Hp → Prop} (hl : SqL K H lt ls) (l1 : 1 ≤ ls.length) (l2 : ls.length ≤ 15) (hls : ∀ v ∈ ls, LnAt K H ls.length v)
    (q : ∀ x H', Same H H' → ProgAt CP H' x ls.length → QD x H') : ∀ x dx, H x = none → H dx = none → dx ≠ x → spProg K CP (.ref x :: ([.ref lt] ++ [])) (upd (upd H dx (.own x)) x (.ins CP dx [])) (fun v H2 => v = .non ∧ QD x H2) E0 := by
  intro x dx nx nd ne
  have s : Same H (upd (upd H dx (.own x)) x (.ins CP dx [])) := fun b o e => by
    rw [upd_ne (ne_of_none e nx), upd_ne (ne_of_none e nd)]
    exact e
  exact ⟨x, dx, lt, ls, rfl, upd_same, s.seq hl, l1, l2, fun v hv => (hls v hv).same s, fun H' tl hk hx htl => ⟨rfl, q x H' (fun b o e => hk b o (ne_of_none e nx) (s b o e)) ⟨dx, tl, ls, hx, htl, rfl⟩⟩⟩
/-- v is a point that stands for no stand of a program of n lines -/
def NoSt (K : PySem.W.Frag) (H : Hp) (n : Nat) (v : V) : Prop := ∃ (t : Addr) (v1 v2 : V) (a b c d : Int), v = .ref t ∧ SqT K H t [v1, v2] ∧ NumV K H v1 (a, b) ∧ Rd2 a b ∧ NumV K H v2 (c, d) ∧ Rd2 c d ∧ Sz 1500 a ∧ Sz 1190 b ∧ Sz 1500 c ∧ Sz 1190 d ∧
  ¬ (0 ≤ a / b / 4 ∧ a / b / 4 < n ∧ IsH (a - 4 * (a / b / 4) * b) b ∧ IsH c d)
theorem NoSt.same {K : PySem.W.Frag} {H H' : Hp} {n : Nat} {v : V} (h : NoSt K H n v) (s : Same H H') : NoSt K H' n v := by
  obtain ⟨t, v1, v2, a, b, c, d, e, h1, h2, h3, h4, h5⟩ := h
  exact ⟨t, v1, v2, a, b, c, d, e, sqT_same s h1, h2.same s, h3, h4.same s, h5⟩
/-! the plain law: what others stand for -/
theorem no_rest {l a b : Int} {n : Nat} (hb : 0 < b) (h1 : -b < a) (h2 : a < 4 * b) (h : ¬ IsH a b) : ¬ (0 ≤ (4 * l * b + a) / b / 4 ∧ (4 * l * b + a) / b / 4 < n ∧ IsH (4 * l * b + a - 4 * ((4 * l * b + a) / b / 4) * b) b) := by
  by_cases h0 : 0 ≤ a
  · rw [div_shift l a b hb h0 h2]
    rintro ⟨_, _, z⟩
    rw [show 4 * l * b + a - 4 * l * b = a by omega] at z
    exact h z
  · have e : (4 * l * b + a) / b / 4 = l - 1 := by
      have := div_shift (l - 1) (a + 4 * b) b hb (by omega) (by omega)
      rw [show 4 * (l - 1) * b + (a + 4 * b) = 4 * l * b + a by rw [Int.mul_sub, Int.sub_mul]; omega] at this
      exact this
    rw [e]
    rintro ⟨_, _, z⟩
    rw [show 4 * l * b + a - 4 * (l - 1) * b = a + 4 * b by rw [Int.mul_sub, Int.sub_mul]; omega] at z
    exact isH_out (.inr (by omega)) z
theorem no_times {c : Option Nat} (h0 : (ht c).1 ≠ 0) : red ((ht c).1 * 7) ((ht c).2 * 5) = ((ht c).1 * 7, (ht c).2 * 5) ∧ Rd2 ((ht c).1 * 7) ((ht c).2 * 5) ∧ ¬ IsH ((ht c).1 * 7) ((ht c).2 * 5) := by
  have hg : Int.gcd ((ht c).1 * 7) ((ht c).2 * 5) = 1 := by
    match c, h0 with
    | none, h0 => exact absurd rfl h0
    | some 0, _ => decide
    | some (n + 1), _ =>
      show Nat.gcd ((1 : Int) * 7).natAbs ((3 : Int) ^ n * 5).natAbs = 1
      rw [Int.natAbs_mul ((3 : Int) ^ n), Int.natAbs_pow]
      exact Nat.Coprime.mul_right (Nat.Coprime.pow_right n (by decide)) (by decide)
  have hp := ht_pos c
  refine ⟨red_of hg, ⟨by omega, hg⟩, fun z => ?_⟩
  have := isH_cases z
  match c, h0 with
  | none, h0 => exact absurd rfl h0
  | some 0, _ => 
    have e : (ht (some 0)).1 = 3 := rfl
    rw [e] at this; omega
  | some (n + 1), _ =>
    have e : (ht (some (n + 1))).1 = 1 := rfl
    rw [e] at this; omega
theorem ht_sz2 {c : Option Nat} (h : ∀ k, c = some k → k ≤ 200) : Sz 1190 (ht c).1 ∧ Sz 1190 (ht c).2 := by
  match c, h with
  | none, _ => exact ⟨Sz.mono (n := 20) (by unfold Sz; decide) (by decide), Sz.mono (n := 20) (by unfold Sz; decide) (by decide)⟩
  | some 0, _ => exact ⟨Sz.mono (n := 20) (by unfold Sz; decide) (by decide), Sz.mono (n := 20) (by unfold Sz; decide) (by decide)⟩
  | some (n + 1), h =>
    have := h _ rfl
    exact ⟨Sz.mono (n := 20) (by unfold Sz; show (1 : Int).natAbs < 2 ^ 20; decide) (by decide), sz_pow3 n 1190 (by omega)⟩
theorem ht_sz5 {c : Option Nat} (h : ∀ k, c = some k → k ≤ 200) : Sz 500 (ht c).2 := by
  match c, h with
  | none, _ => exact Sz.mono (n := 20) (by unfold Sz; decide) (by decide)
  | some 0, _ => exact Sz.mono (n := 20) (by unfold Sz; decide) (by decide)
  | some (n + 1), h =>
    have := h _ rfl
    exact sz_pow3 n 500 (by omega)
theorem px_sz {c : Option Nat} {z : Int} (h : ∀ k, c = some k → k ≤ 200) (hz : z.natAbs ≤ 15) : Sz 1500 (px z c).1 := by
  obtain ⟨h1, h2⟩ := ht_sz2 h
  have e : Sz 20 (4 * z) := by unfold Sz; omega
  exact ((Sz.mul e h2).mono (m := 1300) (by decide) |>.add (h1.mono (by decide))).mono (by decide)
theorem sz_lin {z a b : Int} (ha : a.natAbs < 1048576) (hb : b.natAbs < 1048576) (hz : z.natAbs ≤ 15) : Sz 1500 (4 * z * b + a) := by
  have e : Sz 20 (4 * z) := by unfold Sz; omega
  have hb' : Sz 20 b := by unfold Sz; simpa using hb
  have ha' : Sz 40 a := Sz.mono (n := 20) (by unfold Sz; simpa using ha) (by decide)
  exact ((Sz.mul e hb').add ha').mono (by decide)
theorem sz20 {a : Int} {n : Nat} (h : a.natAbs < 1048576) (hn : 20 ≤ n) : Sz n a := Sz.mono (n := 20) (by unfold Sz; simpa using h) hn
theorem cons_t {t : TE} {u : TA} {σ : L2.St} {H : Hp} {q : List V → Hp → Prop} (h : t σ H fun x H1 => u σ H1 fun xs H2 => q (x :: xs) H2) : tCons t u σ H q := h
/-- the second of the others -/
theorem sec_ok {K : PySem.W.Frag} {H : Hp} {q l st t : Addr} {ls : List V} {z a0 b0 : Int} {c1 c2 : Option Nat} {v v1 v2 : V} {σ : L2.St} {Q : VK} (h2 : σ[2]? = some (some (.ref st))) (h4 : σ[4]? = some (some (.ref t))) (h5 : σ[5]? = some (some v))
    (L : Ls K H q l st ls z c1 c2) (e : H t = some (.tup [v1, v2])) (m1 : NumV K H v1 (px z c1)) (m2 : NumV K H v2 (ht c2)) (hv : NumV K H v (a0, b0)) (r0 : Rd2 a0 b0) (nh : ¬ IsH a0 b0) (za : a0.natAbs < 1048576) (zb : b0.natAbs < 1048576)
    (k : ∀ u H', Same H H' → NoSt K H' ls.length (.ref u) → Q (.ref u) H') :
    tIf (tAnd (tB (tCall (spBelow K) [] E0 (tCons (tUn (rU fun i => V.int (-i)) (tC (V.int 1))) (tCons (tVar 5) tNil))))
          (tAnd (tB (tCall (spBelow K) [] E0 (tCons (tVar 5) (tCons (tC (V.int 4)) tNil)))) (tTest (tOp (rNeD K) (tVar 5) (tUn (rU fun i => V.int (-i)) (tC (V.int 1)))))))
        (tTup (tCons (tCall (spPlus K) [] E0 (tCons (tOp (rI CMulW fun i j => V.int (i * j)) (tC (V.int 4)) (tOp (rIxT K) (tVar 2) (tC (V.int 0)))) (tCons (tVar 5) tNil))) (tCons (tOp (rIxT K) (tVar 4) (tC (V.int 1))) tNil)))
        (tTup (tCons (tOp (rIxT K) (tVar 4) (tC (V.int 0))) (tCons (tTup (tCons (tC (V.int 1)) (tCons (tC (V.int 2)) tNil))) tNil))) σ H Q := by
  have hz : z.natAbs ≤ 15 := by have := L.z0; have := L.z1; have := L.l2; omega
  obtain ⟨q1, q2⟩ := ht_sz2 L.b2
  -- the other way: (.., (1, 2))
  have els : ∀ H', Same H H' → (tTup (tCons (tOp (rIxT K) (tVar 4) (tC (V.int 0))) (tCons (tTup (tCons (tC (V.int 1)) (tCons (tC (V.int 2)) tNil))) tNil))) σ H' Q := fun H' s => by
    refine ⟨_, h4, t, _, 0, _, rfl, rfl, .of (s _ _ e), rfl, by show 2 ≤ sizeLine; decide, fun p np => ⟨by show 2 ≤ sizeLine; decide, fun u nu => ?_⟩⟩
    have sp := same_upd (o := .tup [.int 1, .int 2]) np
    have su := same_upd (o := .tup [v1, .ref p]) nu
    exact k u _ (s.trans (sp.trans su)) ⟨u, v1, .ref p, _, _, 1, 2, rfl, .of upd_same, m1.same (s.trans (sp.trans su)), px_rd z c1, .inr ⟨by decide, p, rfl, .of (su _ _ upd_same)⟩, ⟨by decide, by decide⟩, px_sz L.b1 hz, (ht_sz2 L.b1).2, sz20 (by decide) (by decide), sz20 (by decide) (by decide), fun w => by have := isH_cases w.2.2.2; omega⟩
  refine ⟨1, rfl, _, h5, -1, 1, a0, b0, ⟨_, _, rfl, .int _, hv, by decide, r0.1, sz20 (by decide) (by decide), sz20 (by decide) (by decide), sz20 za (by decide), sz20 zb (by decide)⟩, fun H1 s1 => ⟨_, rfl, ?_⟩⟩
  by_cases g1 : -1 * b0 < a0 * 1
  case neg => rw [decide_eq_false g1]; exact iteF (iteF (els H1 s1))
  rw [decide_eq_true g1]
  refine iteT ⟨_, h5, a0, b0, 4, 1, ⟨_, _, rfl, hv.same s1, .int _, r0.1, by decide, sz20 za (by decide), sz20 zb (by decide), sz20 (by decide) (by decide), sz20 (by decide) (by decide)⟩, fun H2 s2 => ⟨_, rfl, ?_⟩⟩
  by_cases g2 : a0 * 1 < 4 * b0
  case neg => rw [decide_eq_false g2]; exact iteF (iteF (els H2 (s1.trans s2)))
  rw [decide_eq_true g2]
  have s12 := s1.trans s2
  refine iteT ⟨_, h5, 1, rfl, _, _, (hv.same s12).dp, (NumV.int (-1)).dp, numD_shaped _, numD_shaped _, _, rfl, ?_⟩
  rw [numD_eqv]
  by_cases g3 : ((a0, b0) : Q2) = (-1, 1)
  · rw [decide_eq_true g3]; exact iteF (els H2 s12)
  rw [decide_eq_false g3]
  refine iteT ⟨_, h2, st, _, 0, _, rfl, rfl, .of (s12 _ _ L.hs), rfl, 4, z, rfl, rfl, Sz.cmul (n := 10) (m := 10) (by unfold Sz; decide) (by unfold Sz; omega), _, h5, 4 * z, 1, a0, b0,
    ⟨_, _, rfl, .int _, hv.same s12, by decide, r0.1, sz_small (by omega), sz_small (by decide), sz20 za (by decide), sz20 zb (by decide)⟩, fun w H3 s3 nw => ?_⟩
  have e1 : red (4 * z * b0 + a0 * 1) (1 * b0) = (4 * z * b0 + a0, b0) := by
    rw [Int.mul_one, Int.one_mul]
    exact red_of (by rw [gcd_shift]; exact r0.2)
  rw [e1] at nw
  have s13 := s12.trans s3
  refine ⟨_, h4, t, _, 1, _, rfl, rfl, .of (s13 _ _ e), rfl, by show 2 ≤ sizeLine; decide, fun u nu => ?_⟩
  have su := same_upd (o := .tup [w, v2]) nu
  have hno := no_rest (l := z) (n := ls.length) r0.1 (by omega) (by omega) nh
  exact k u _ (s13.trans su) ⟨u, w, v2, _, _, _, _, rfl, .of upd_same, nw.same su, ⟨r0.1, by rw [gcd_shift]; exact r0.2⟩, m2.same (s13.trans su), ht_rd c2, sz_lin za zb hz, sz20 zb (by decide), q1.mono (by decide), q2, fun w => hno ⟨w.1, w.2.1, w.2.2.1⟩⟩
/-- the fifth, where the height is not 0 -/
theorem fifth_ok {K : PySem.W.Frag} {H : Hp} {t o : Addr} {n : Nat} {c : Option Nat} {v1 v2 x1 x2 x3 x4 x5 : V} {σ : L2.St} {Q : VK} (h4 : σ[4]? = some (some (.ref t))) (h6 : σ[6]? = some (some (.ref o))) (e : H t = some (.tup [v1, v2])) (m2 : NumV K H v2 (ht c))
    (ho : H o = some (.lst [x1, x2, x3, x4, x5])) (N : (ht c).1 ≠ 0 → NoSt K H n x5) (k : ∀ p zs H', Same H H' → H' p = some (.lst zs) → zs.length ≤ 1 → (∀ v ∈ zs, NoSt K H' n v) → Q (.ref p) H') :
    tIf (tTest (tOp (rNeD K) (tOp (rIxT K) (tVar 4) (tC (V.int 1))) (tC (V.int 0)))) (L2.tSl (rSlL K) (tVar 6) (tPart (tC (V.int 4))) tNoPart) (tLst tNil) σ H Q := by
  refine ⟨_, h4, t, _, 1, _, rfl, rfl, .of e, rfl, _, _, m2.dp, (NumV.int 0).dp, numD_shaped _, numD_shaped _, _, rfl, ?_⟩
  rw [numD_eqv]
  by_cases h : ht c = (0, 1)
  · rw [decide_eq_true h]
    exact iteF ⟨by show 0 ≤ sizeLine; decide, fun p np => k p [] _ (same_upd np) upd_same (by decide) (fun v hv => by cases hv)⟩
  · rw [decide_eq_false h]
    refine iteT ⟨_, h6, _, rfl, o, _, rfl, .of ho, fun p np => k p [x5] _ (same_upd np) upd_same (Nat.le_refl 1) fun v hv => ?_⟩
    cases List.mem_singleton.mp hv
    refine (N fun z => h ?_).same (same_upd np)
    match c, z with
    | none, _ => rfl
    | some 0, z => exact absurd z (by decide)
    | some (n + 1), z => exact absurd z (by show ¬ (1 : Int) = 0; decide)
section
variable {P : Program} {w : World} {K : PySem.W.Frag} {mg : Str → Option Value} {base : Heap} {CP CT CG CS CM : Addr}
def spOthers (K : PySem.W.Frag) : Sp := fun vs H Q _ => ∃ (q l st : Addr) (ls : List V) (z : Int) (c1 c2 : Option Nat) (T : Nat), vs = [.ref q, .ref l, .ref st] ∧ Ls K H q l st ls z c1 c2 ∧ T ≤ 7000 ∧ QyAt H q T ∧ ∀ H', Kp q H H' → QyAt H' q (T + 2) → Q (.bl true) H'
theorem ok_law_others_right (B : Bz mg) (M : Mc mg) (D : Df K mg "_law_others_right" s_law_others_right p_law_others_right) (H_Program : HasC P w K mg base 4 "Program" CP p_Program_init (spProg K CP)) (H_law_point : Has P w K mg base CX0 3 "_law_point" p_law_point (spPointIn K))
    (H_law_no_height : Has P w K mg base CX0 3 "_law_no_height" p_law_no_height (spNoH K)) (H_law_less : Has P w K mg base CX0 2 "_law_less" p_law_less (spBelow K)) (H_law_add : Has P w K mg base CX0 2 "_law_add" p_law_add (spPlus K))
    (H_law_mul : Has P w K mg base CX0 2 "_law_mul" p_law_mul (spTimes K)) (H_law_height : Has P w K mg base CX0 1 "_law_height" p_law_height (spHeight K)) (H_stand_of : Has P w K mg base (L2.CX P w) 6 "stand_of" p_stand_of (spStandOf K CP CG CT)) :
    Has P w K mg base CX0 7 "_law_others_right" p_law_others_right (spOthers K) := by
  refine D.ok sc_law_others_right (fun vs H Q E h => ?_) (fun f cdv A outer s H vs Q E hr h => ?_)
  · obtain ⟨q, l, st, ls, z, c1, c2, T, rfl, _⟩ := h
    rfl
  · obtain ⟨q, l, st, ls, z, c1, c2, T, rfl, L, hT, Y, k⟩ := h
    refine ⟨_, (pss_cons (ps_par (i := 3) (j := 4) (by rfl) sc_law_others_right.nd rfl rfl (by decide) rfl rfl (pa_cons (pe_hc H_Program (hr.mono (by decide)) (pa_cons (pv 1) pa_nil)) (pa_cons (pe_h H_law_point (hr.mono (by decide)) pass0 (pa_cons (pv 2) pa_nil)) pa_nil)) (by rfl))
      (pss_cons (ps_set (i := 5) sc_law_others_right.nd rfl (Or.inl rfl) (pe_h H_law_no_height (hr.mono (by decide)) pass0 (pa_cons (pv 0) pa_nil)))
      (pss_cons (ps_set (i := 6) sc_law_others_right.nd rfl (Or.inl rfl) (pe_lst (pa_cons (pe_tup (pa_cons (pe_ix ix_tup (pv 4) pe_int (fun _ _ => rfl)) (pa_cons (pv 5) pa_nil))) (pa_cons (pe_ifExp (PW.pt (pw_and (pt_val (pe_h H_law_less (hr.mono (by decide)) pass0 (pa_cons (pe_un un_neg pe_int) (pa_cons (pv 5) pa_nil)))) (pw_and (pt_val (pe_h H_law_less (hr.mono (by decide)) pass0 (pa_cons (pv 5) (pa_cons pe_int pa_nil)))) (pw_and1 (pt_cmpR (op_neD hr.units) (pv 5) (pe_un un_neg pe_int) (nomark _)))))) (pe_tup (pa_cons (pe_h H_law_add (hr.mono (by decide)) pass0 (pa_cons (pe_op op_mulW pe_int (pe_ix ix_tup (pv 2) pe_int (fun _ _ => rfl))) (pa_cons (pv 5) pa_nil))) (pa_cons (pe_ix ix_tup (pv 4) pe_int (fun _ _ => rfl)) pa_nil))) (pe_tup (pa_cons (pe_ix ix_tup (pv 4) pe_int (fun _ _ => rfl)) (pa_cons (pe_tup (pa_cons pe_int (pa_cons pe_int pa_nil))) pa_nil)))) pa_nil))))
      (pss_cons (ps_set (i := 6) sc_law_others_right.nd rfl (Or.inl rfl) (pe_op op_cat (pv 6) (pe_lst (pa_cons (pe_tup (pa_cons (pe_h H_law_add (hr.mono (by decide)) pass0 (pa_cons (pe_op op_mulW pe_int (pe_callB call_len_seq (by rfl) B.len (by decide +kernel) (pa_cons (pv 1) pa_nil))) (pa_cons (pe_h H_law_height (hr.mono (by decide)) pass0 (pa_cons (pe_ix ix_tup (pv 2) pe_int (fun _ _ => rfl)) pa_nil)) pa_nil))) (pa_cons (pe_ix ix_tup (pv 4) pe_int (fun _ _ => rfl)) pa_nil))) (pa_cons (pe_tup (pa_cons (pe_h H_law_add (hr.mono (by decide)) pass0 (pa_cons (pe_un un_neg pe_int) (pa_cons (pe_h H_law_height (hr.mono (by decide)) pass0 (pa_cons (pe_ix ix_tup (pv 2) pe_int (fun _ _ => rfl)) pa_nil)) pa_nil))) (pa_cons (pe_ix ix_tup (pv 4) pe_int (fun _ _ => rfl)) pa_nil))) (pa_cons (pe_tup (pa_cons (pe_ix ix_tup (pv 4) pe_int (fun _ _ => rfl)) (pa_cons (pe_h H_law_mul (hr.mono (by decide)) pass0 (pa_cons (pe_ix ix_tup (pv 4) pe_int (fun _ _ => rfl)) (pa_cons (pe_tup (pa_cons pe_int (pa_cons pe_int pa_nil))) pa_nil))) pa_nil))) pa_nil))))))
      (pss_cons (ps_for PassesOwn.never rfl (pi_list (pe_op op_cat (pe_slice sl_list (pv 6) po_none (po_some pe_int)) (pe_ifExp (pt_cmpR (op_neD hr.units) (pe_ix ix_tup (pv 4) pe_int (fun _ _ => rfl)) pe_int (nomark _)) (pe_slice sl_list (pv 6) (po_some pe_int) po_none) (pe_lst pa_nil)))) (pg_name (i := 7) sc_law_others_right.nd rfl (.inl rfl))
      (pss_one (ps_if (pt_cmpR op_notN (pe_h H_stand_of (hr.mono (by decide)) passX0 (pa_cons (pv 3) (pa_cons (pv 7) pa_nil))) pe_non (nomark _))
        (pss_one (ps_ret pe_bl))
        pss_nil)))
      (pss_one (ps_ret pe_bl))))))), ?_⟩
    have hc1 := cb_of L.b1
    have hc2 := cb_of L.b2
    refine ⟨_, rfl, mk_prog (.of L.hl) L.l1 L.l2 L.hls fun x H1 s1 hp => ?_⟩
    have L1 := L.same s1
    refine ⟨_, rfl, st, z, c1, c2, rfl, .of L1.hs, L1.z0, by have := L1.z1; have := L1.l2; omega, hc1, hc2, fun t v1 v2 H2 s2 e2 n1 n2 => ⟨_, _, rfl, ?_⟩⟩
    have k2 := (Y.kp s1).same s2
    refine ⟨_, rfl, q, T, rfl, by omega, (Y.same s1).same s2, fun v H3 k3 Y3 ⟨a0, b0, hv, r0, nh, za, zb⟩ => ?_⟩
    have L3 := (L1.same s2).kp k3
    have hp3 := k3.prog (hp.same s2)
    have e3 := k3.tup e2
    have m1 := k3.num n1
    have m2 := k3.num n2
    have k03 := k2.trans k3
    clear n1 n2 e2 hp L L1 k2 k3
    refine ⟨_, rfl, t, _, 0, _, rfl, rfl, .of e3, rfl, _, rfl, by show 2 ≤ sizeLine; decide, fun u1 w1 => ?_⟩
    have sU1 := same_upd (o := .tup [v1, v]) w1
    have hz : z.natAbs ≤ 15 := by have := L3.z0; have := L3.z1; have := L3.l2; omega
    have N1 : NoSt K (upd H3 u1 (.tup [v1, v])) ls.length (.ref u1) := ⟨u1, v1, v, _, _, a0, b0, rfl, .of upd_same, m1.same sU1, px_rd z c1, hv.same sU1, r0, px_sz L3.b1 hz, (ht_sz2 L3.b1).2, sz20 za (by decide), sz20 zb (by decide), fun w => nh w.2.2.2⟩
    refine cons_t ?_
    refine sec_ok (v := v) (v1 := v1) (v2 := v2) rfl rfl rfl (L3.same sU1) (sU1 _ _ e3) (m1.same sU1) (m2.same sU1) (hv.same sU1) r0 nh za zb fun u2 H4 s4 N2 => ?_
    refine ⟨by show 2 ≤ sizeLine; decide, fun o1 w2 => ?_⟩
    have sO1 := same_upd (o := .lst [.ref u1, .ref u2]) w2
    have s35 := (sU1.trans s4).trans sO1
    have N1 := N1.same (s4.trans sO1)
    have N2 := N2.same sO1
    have L5 := L3.same s35
    have e5 := s35 _ _ e3
    have m15 := m1.same s35
    have m25 := m2.same s35
    have hp5 := hp3.same s35
    have k5 := k03.same s35
    have Y5 := Y3.same s35
    have hO1 : (upd H4 o1 (.lst [.ref u1, .ref u2])) o1 = some (.lst [.ref u1, .ref u2]) := upd_same
    show tSeq _ _ _ _ (upd H4 o1 (.lst [.ref u1, .ref u2]))
    generalize upd H4 o1 (.lst [.ref u1, .ref u2]) = H5 at N1 N2 L5 e5 m15 m25 hp5 k5 Y5 hO1
    clear s35 sO1 s4 sU1 Y3 k03 m2 m1 e3 hp3 L3 hv
    have hl15 := L5.l2
    obtain ⟨q1, q2⟩ := ht_sz2 L5.b1
    obtain ⟨q3, q4⟩ := ht_sz2 L5.b2
    have z1 := ht_sz hc1
    -- the third: behind the last line
    refine ⟨_, rfl, _, rfl, l, ls, rfl, .inl (.of L5.hl), 4, (ls.length : Int), rfl, rfl, Sz.cmul (n := 10) (m := 10) (by unfold Sz; decide) (by unfold Sz; omega), _, rfl, st, _, 1, _, rfl, rfl, .of L5.hs, rfl, c1, rfl, hc1, fun h1 G1 g1 nh1 => ?_⟩
    refine ⟨4 * ls.length, 1, (ht c1).1, (ht c1).2, ⟨_, _, rfl, .int _, nh1, by decide, ht_pos _, sz_small (by omega), sz_small (by decide), z1.1.mono (by decide), z1.2.mono (by decide)⟩, fun w3 G2 g2 nw3 => ?_⟩
    have eA : red (4 * (ls.length : Int) * (ht c1).2 + (ht c1).1 * 1) (1 * (ht c1).2) = px ls.length c1 := by
      rw [Int.mul_one, Int.one_mul]
      exact red_of (px_rd _ c1).2
    rw [eA] at nw3
    have g12 := g1.trans g2
    refine ⟨_, rfl, t, _, 1, _, rfl, rfl, .of (g12 _ _ e5), rfl, by show 2 ≤ sizeLine; decide, fun u3 x3 => ?_⟩
    have g3 := same_upd (o := .tup [w3, v2]) x3
    have N3 : NoSt K (upd G2 u3 (.tup [w3, v2])) ls.length (.ref u3) := ⟨u3, w3, v2, (px ls.length c1).1, (px ls.length c1).2, _, _, rfl, .of upd_same, nw3.same g3, px_rd _ c1, m25.same (g12.trans g3), ht_rd c2, px_sz L5.b1 (by omega), q2, q3.mono (by decide), q4, fun w => by
      have h := w.2.1
      rw [px_line] at h
      omega⟩
    have g13 := g12.trans g3
    generalize upd G2 u3 (.tup [w3, v2]) = G3 at N3 g13
    -- the fourth: ahead of the first line
    refine ⟨4, rfl, _, rfl, st, _, 1, _, rfl, rfl, .of (g13 _ _ L5.hs), rfl, c1, rfl, hc1, fun h4 G4 g4 nh4 => ?_⟩
    refine ⟨-4, 1, (ht c1).1, (ht c1).2, ⟨_, _, rfl, .int _, nh4, by decide, ht_pos _, sz_small (by decide), sz_small (by decide), z1.1.mono (by decide), z1.2.mono (by decide)⟩, fun w4 G5 g5 nw4 => ?_⟩
    have eB : red (-4 * (ht c1).2 + (ht c1).1 * 1) (1 * (ht c1).2) = px (-1) c1 := by
      rw [Int.mul_one, Int.one_mul]
      rw [show (-4 : Int) = 4 * -1 by decide]
      exact red_of (px_rd (-1) c1).2
    rw [eB] at nw4
    have g15 := g13.trans (g4.trans g5)
    refine ⟨_, rfl, t, _, 1, _, rfl, rfl, .of (g15 _ _ e5), rfl, by show 2 ≤ sizeLine; decide, fun u4 x4 => ?_⟩
    have g6 := same_upd (o := .tup [w4, v2]) x4
    have N4 : NoSt K (upd G5 u4 (.tup [w4, v2])) ls.length (.ref u4) := ⟨u4, w4, v2, (px (-1) c1).1, (px (-1) c1).2, _, _, rfl, .of upd_same, nw4.same g6, px_rd _ c1, m25.same (g15.trans g6), ht_rd c2, px_sz L5.b1 (by decide), q2, q3.mono (by decide), q4, fun w => by
      have h := w.1
      rw [px_line] at h
      omega⟩
    have N3 := N3.same ((g4.trans g5).trans g6)
    have g16 := g15.trans g6
    generalize upd G5 u4 (.tup [w4, v2]) = G6 at N3 N4 g16
    -- the fifth: 7/5 of the height
    refine ⟨_, rfl, t, _, 0, _, rfl, rfl, .of (g16 _ _ e5), rfl, _, rfl, t, _, 1, _, rfl, rfl, .of (g16 _ _ e5), rfl, by show 2 ≤ sizeLine; decide, fun pz xz => ?_⟩
    have g7 := same_upd (o := .tup [.int 7, .int 5]) xz
    have z2 := ht_sz hc2
    refine ⟨(ht c2).1, (ht c2).2, 7, 5, ⟨_, _, rfl, m25.same (g16.trans g7), .inr ⟨by decide, pz, rfl, .of upd_same⟩, ht_pos _, by decide, z2.1.mono (by decide), z2.2.mono (by decide), sz_small (by decide), sz_small (by decide)⟩, fun w5 G8 g8 nw5 => ?_⟩
    refine ⟨by show 2 ≤ sizeLine; decide, fun u5 x5 => ?_⟩
    have g9 := same_upd (o := .tup [v1, w5]) x5
    have g19 := g16.trans ((g7.trans g8).trans g9)
    have N5 : (ht c2).1 ≠ 0 → NoSt K (upd G8 u5 (.tup [v1, w5])) ls.length (.ref u5) := fun h0 => by
      obtain ⟨t1, t2, t3⟩ := no_times h0
      rw [t1] at nw5
      exact ⟨u5, v1, w5, _, _, _, _, rfl, .of upd_same, m15.same g19, px_rd z c1, nw5.same g9, t2, px_sz L5.b1 hz, q2, (q3.mul (m := 20) (by unfold Sz; decide)).mono (by decide), ((ht_sz5 L5.b2).mul (m := 20) (by unfold Sz; decide)).mono (by decide), fun w => t3 w.2.2.2⟩
    have N3 := N3.same ((g7.trans g8).trans g9)
    have N4 := N4.same ((g7.trans g8).trans g9)
    generalize upd G8 u5 (.tup [v1, w5]) = G9 at N3 N4 N5 g19
    refine ⟨by show 3 ≤ sizeLine; decide, fun o2 x6 => ?_⟩
    have g10 := same_upd (o := .lst [.ref u3, .ref u4, .ref u5]) x6
    refine ⟨o1, o2, _, _, rfl, rfl, g10 _ _ (g19 _ _ hO1), upd_same, by show 5 ≤ sizeLine; decide, fun o3 x7 => ?_⟩
    have g11 := same_upd (o := .lst [.ref u1, .ref u2, .ref u3, .ref u4, .ref u5]) x7
    have gE := (g19.trans g10).trans g11
    have hO3 : (upd (upd G9 o2 (.lst [.ref u3, .ref u4, .ref u5])) o3 (.lst [.ref u1, .ref u2, .ref u3, .ref u4, .ref u5])) o3 = some (.lst [.ref u1, .ref u2, .ref u3, .ref u4, .ref u5]) := upd_same
    have N1 := N1.same gE
    have N2 := N2.same gE
    have N3 := N3.same (g10.trans g11)
    have N4 := N4.same (g10.trans g11)
    have N5 := fun h0 => (N5 h0).same (g10.trans g11)
    have hpE := hp5.same gE
    have mE := m25.same gE
    have eE := gE _ _ e5
    have kE := k5.same gE
    have YE := Y5.same gE
    show tSeq _ _ _ _ (upd (upd G9 o2 (.lst [.ref u3, .ref u4, .ref u5])) o3 (.lst [.ref u1, .ref u2, .ref u3, .ref u4, .ref u5]))
    generalize upd (upd G9 o2 (.lst [.ref u3, .ref u4, .ref u5])) o3 (.lst [.ref u1, .ref u2, .ref u3, .ref u4, .ref u5]) = F at N1 N2 N3 N4 N5 hpE mE eE kE YE hO3
    refine ⟨_, rfl, _, rfl, o3, _, rfl, .of hO3, fun p1 y1 => ?_⟩
    have f1 := same_upd (o := .lst [.ref u1, .ref u2, .ref u3, .ref u4]) y1
    refine fifth_ok (n := ls.length) rfl rfl (f1 _ _ eE) (mE.same f1) (f1 _ _ hO3) (fun h0 => (N5 h0).same f1) fun p2 zs F2 f2 hz2 lz hzs => ?_
    refine ⟨p1, p2, _, zs, rfl, rfl, f2 _ _ upd_same, hz2, ?_, fun p3 y3 => ?_⟩
    · show 4 + zs.length ≤ sizeLine
      rw [sizeLine_eq]; omega
    have f3 := same_upd (o := .lst ([.ref u1, .ref u2, .ref u3, .ref u4] ++ zs)) y3
    have fE := (f1.trans f2).trans f3
    have all : ∀ y ∈ [V.ref u1, .ref u2, .ref u3, .ref u4] ++ zs, NoSt K (upd F2 p3 (.lst ([.ref u1, .ref u2, .ref u3, .ref u4] ++ zs))) ls.length y := fun y hy => by
      rcases List.mem_append.mp hy with hy | hy
      · simp only [List.mem_cons, List.not_mem_nil, or_false] at hy
        rcases hy with rfl | rfl | rfl | rfl
        · exact N1.same fE
        · exact N2.same fE
        · exact N3.same fE
        · exact N4.same fE
      · exact (hzs y hy).same f3
    have hP3 : (upd F2 p3 (.lst ([.ref u1, .ref u2, .ref u3, .ref u4] ++ zs))) p3 = some (.lst ([.ref u1, .ref u2, .ref u3, .ref u4] ++ zs)) := upd_same
    have hpF := hpE.same fE
    refine ⟨p3, rfl, ⟨_, .of upd_same⟩, for_list (xs := [.ref u1, .ref u2, .ref u3, .ref u4] ++ zs) (fun i σ H' => Same (upd F2 p3 (.lst ([.ref u1, .ref u2, .ref u3, .ref u4] ++ zs))) H' ∧ ∃ y, σ = [some (.ref q), some (.ref l), some (.ref st), some (.ref x), some (.ref t), some v, some (.ref o3), y]) ⟨.refl _, _, rfl⟩ (fun i σ H' _ p => .of (p.1 _ _ hP3)) ?_ ?_⟩
    · rintro i y σ H' hy ⟨sF, y0, rfl⟩
      obtain ⟨t', w1', w2', a, b, c, d, rfl, i1, i2, i3, i4, i5, i6, i7, i8, i9, ino⟩ := (all y (List.mem_of_getElem? hy)).same sF
      refine ⟨_, rfl, _, rfl, .ref x, .ref t', rfl, .inr ⟨x, ls.length, rfl, hpF.same sF, .inr ⟨w1', w2', a, b, c, d, ⟨t', rfl, .inr i1⟩, i2, i3, i4, i5, i6, i7, i8, i9, fun _ H2 s2 => ⟨rfl, _, rfl, iteF ⟨sF.trans s2, _, rfl⟩⟩, fun d1 d2 _ _ j0 j1 j2 j3 => absurd ⟨j0, j1, ⟨d1, j2⟩, ⟨d2, j3⟩⟩ ino⟩⟩⟩
    · rintro σ H' ⟨sF, y0, rfl⟩
      exact k H' ((kE.same fE).same sF) ((YE.same fE).same sF)
end
end TF


set_option Elab.async false
set_option linter.all false
set_option maxRecDepth 100000
set_option maxHeartbeats 4000000
namespace TF
open PySem PySem.Spec PyProof.Rows L2 LamX
/-! ### all stays but the quarry and the tables -/
structure KN (q : Addr) (H H' : Hp) : Prop where
  l : ∃ c r r', H q = some (.lst (.ref c :: r)) ∧ H' q = some (.lst (.ref c :: r'))
  s : ∀ b o, b ≠ q → (∀ xs, o ≠ .tbl xs) → H b = some o → H' b = some o
theorem Kp.kn {q : Addr} {H H' : Hp} (k : Kp q H H') : KN q H H' := ⟨k.l, fun b o n _ e => k.s b o n e⟩
theorem KN.trans {q : Addr} {H H' H2 : Hp} (a : KN q H H') (b : KN q H' H2) : KN q H H2 := by
  refine ⟨?_, fun c o n x e => b.s c o n x (a.s c o n x e)⟩
  obtain ⟨c, r, r', h1, h2⟩ := a.l
  obtain ⟨c2, r2, r3, h3, h4⟩ := b.l
  rw [h2] at h3
  cases h3
  exact ⟨c, r, r3, h1, h4⟩
theorem QyAt.ext {H H' : Hp} {q : Addr} {T : Nat} (h : QyAt H q T) (e : ExtN H H') : QyAt H' q T := by
  obtain ⟨c, cs, t, l, h, i⟩ := h
  exact ⟨c, cs, t, l, ⟨e _ _ h.hq (fun _ z => by cases z), e _ _ h.hc (fun _ z => by cases z), h.ne, h.len, h.l0, h.t0⟩, i⟩
theorem QyAt.kn {H H' : Hp} {q : Addr} {T : Nat} (h : QyAt H q T) (e : ExtN H H') : KN q H H' := by
  obtain ⟨c, r, hq⟩ := h.lst
  exact ⟨⟨c, r, r, hq, e _ _ hq (fun _ z => by cases z)⟩, fun b o _ x i => e b o i x⟩
theorem KN.sqT {K : PySem.W.Frag} {q a : Addr} {H H' : Hp} {xs : List V} (k : KN q H H') (h : SqT K H a xs) : SqT K H' a xs := by
  obtain ⟨c, r, r', hq, _⟩ := k.l
  rcases h with (h | ⟨o, h⟩) | h
  · exact .inl (.inl (k.s _ _ (fun e => by rw [e, hq] at h; cases h) (fun _ e => by cases e) h))
  · exact .inl (.inr ⟨o, k.s _ _ (fun e => by rw [e, hq] at h; cases h) (fun _ e => by cases e) h⟩)
  · exact .inr h
theorem KN.tup {q a : Addr} {H H' : Hp} {xs : List V} (k : KN q H H') (h : H a = some (.tup xs)) : H' a = some (.tup xs) := by
  obtain ⟨c, r, r', hq, _⟩ := k.l
  exact k.s _ _ (fun e => by rw [e, hq] at h; cases h) (fun _ e => by cases e) h
theorem KN.lst {q a : Addr} {H H' : Hp} {xs : List V} (k : KN q H H') (hn : a ≠ q) (h : H a = some (.lst xs)) : H' a = some (.lst xs) := k.s _ _ hn (fun _ e => by cases e) h
theorem KN.prog {CP : Addr} {q a : Addr} {H H' : Hp} {n : Nat} (k : KN q H H') (h : ProgAt CP H a n) : ProgAt CP H' a n := by
  obtain ⟨c, r, r', hq, _⟩ := k.l
  obtain ⟨dx, lt, xs, h1, h2, h3⟩ := h
  exact ⟨dx, lt, xs, k.s _ _ (fun e => by rw [e, hq] at h1; cases h1) (fun _ e => by cases e) h1, k.tup h2, h3⟩
/-- a value that is no list -/
def It (K : PySem.W.Frag) (H : Hp) (v : V) (n : String) : Prop := VTy K H v n ∧ (n == "list") = false
theorem KN.it {K : PySem.W.Frag} {q : Addr} {H H' : Hp} {v : V} {n : String} (k : KN q H H') (h : It K H v n) : It K H' v n := by
  obtain ⟨h, e⟩ := h
  obtain ⟨c, r, r', hq, _⟩ := k.l
  refine ⟨?_, e⟩
  cases h with
  | non => exact .non
  | bl b => exact .bl b
  | int i => exact .int i
  | str x => exact .str x
  | lst h => cases e
  | tup h => exact .tup (k.sqT h)
  | dK h => exact .dK (k.s _ _ (fun e => by rw [e, hq] at h; cases h) (fun _ e => by cases e) h)
/-- v is a tuple of the values xs -/
def Tp (K : PySem.W.Frag) (H : Hp) (v : V) (xs : List V) : Prop := ∃ a, v = .ref a ∧ SqT K H a xs
theorem Tp.seq {K : PySem.W.Frag} {H : Hp} {v : V} {xs : List V} (h : Tp K H v xs) : Seq K H v xs := let ⟨a, e, h⟩ := h; ⟨a, e, .inr h⟩
theorem KN.tp {K : PySem.W.Frag} {q : Addr} {H H' : Hp} {v : V} {xs : List V} (k : KN q H H') (h : Tp K H v xs) : Tp K H' v xs := let ⟨a, e, h⟩ := h; ⟨a, e, k.sqT h⟩
/-- no program -/
inductive Odd (H : Hp) (q : Addr) : V → Prop where
  | non : Odd H q .non
  | int (i : Int) : Odd H q (.int i)
  | bl (b : Bool) : Odd H q (.bl b)
  | str (x : Str) : Odd H q (.str x)
  | lst {a : Addr} {xs : List V} (n : a ≠ q) (h : H a = some (.lst xs)) : Odd H q (.ref a)
theorem Odd.no {K : PySem.W.Frag} {H : Hp} {q : Addr} {v : V} (h : Odd H q v) : NoProg K H v := by
  cases h with
  | non => exact .non
  | int i => exact .int i
  | bl b => exact .bl b
  | str x => exact .str x
  | lst n h => exact .lst (.of h)
theorem KN.odd {q : Addr} {H H' : Hp} {v : V} (k : KN q H H') (h : Odd H q v) : Odd H' q v := by
  cases h with
  | non => exact .non
  | int i => exact .int i
  | bl b => exact .bl b
  | str x => exact .str x
  | lst n h => exact .lst n (k.lst n h)
/-- no stand -/
def BadSt (K : PySem.W.Frag) (H : Hp) (n : Nat) (v : V) : Prop := (∃ t, It K H v t ∧ (t == "list" || t == "tuple") = false) ∨ (∃ xs, Tp K H v xs ∧ xs.length ≠ 3) ∨
  ∃ (x0 x1 x2 : V) (t0 t1 t2 : String), Tp K H v [x0, x1, x2] ∧ It K H x0 t0 ∧ It K H x1 t1 ∧ It K H x2 t2 ∧ standOk n x0 x1 x2 = false
theorem KN.badSt {K : PySem.W.Frag} {q : Addr} {H H' : Hp} {n : Nat} {v : V} (k : KN q H H') (h : BadSt K H n v) : BadSt K H' n v := by
  rcases h with ⟨t, h, e⟩ | ⟨xs, h, e⟩ | ⟨x0, x1, x2, t0, t1, t2, h, h0, h1, h2, e⟩
  · exact .inl ⟨t, k.it h, e⟩
  · exact .inr (.inl ⟨xs, k.tp h, e⟩)
  · exact .inr (.inr ⟨x0, x1, x2, t0, t1, t2, k.tp h, k.it h0, k.it h1, k.it h2, e⟩)
/-- no point -/
def NumI (K : PySem.W.Frag) (H : Hp) (v : V) (b : Bool) : Prop := (∃ n : String, It K H v n ∧ (n == "list" || n == "tuple") = false ∧ b = (n == "int")) ∨ ∃ (x y : Int), Tp K H v [.int x, .int y] ∧ 2 ≤ y ∧ b = decide (Int.gcd x y = 1)
theorem NumI.t {K : PySem.W.Frag} {H : Hp} {v : V} {b : Bool} (h : NumI K H v b) : NumT K H v b := by
  rcases h with ⟨n, h, e⟩ | ⟨x, y, ⟨a, e1, h⟩, e⟩
  · exact .inl ⟨n, h.1, e⟩
  · exact .inr ⟨a, x, y, e1, h, e⟩
theorem KN.numI {K : PySem.W.Frag} {q : Addr} {H H' : Hp} {v : V} {b : Bool} (k : KN q H H') (h : NumI K H v b) : NumI K H' v b := by
  rcases h with ⟨n, h, e⟩ | ⟨x, y, h, e⟩
  · exact .inl ⟨n, k.it h, e⟩
  · exact .inr ⟨x, y, k.tp h, e⟩
def BadPt (K : PySem.W.Frag) (H : Hp) (v : V) : Prop := (∃ t, It K H v t ∧ (t == "list" || t == "tuple") = false) ∨ (∃ xs, Tp K H v xs ∧ xs.length ≠ 2) ∨ ∃ (x0 x1 : V) (b0 b1 : Bool), Tp K H v [x0, x1] ∧ NumI K H x0 b0 ∧ NumI K H x1 b1 ∧ (b0 && b1) = false
theorem KN.badPt {K : PySem.W.Frag} {q : Addr} {H H' : Hp} {v : V} (k : KN q H H') (h : BadPt K H v) : BadPt K H' v := by
  rcases h with ⟨t, h, e⟩ | ⟨xs, h, e⟩ | ⟨x0, x1, b0, b1, h, h0, h1, e⟩
  · exact .inl ⟨t, k.it h, e⟩
  · exact .inr (.inl ⟨xs, k.tp h, e⟩)
  · exact .inr (.inr ⟨x0, x1, b0, b1, k.tp h, k.numI h0, k.numI h1, e⟩)
/-- a stand with too much -/
def BigSt (K : PySem.W.Frag) (H : Hp) (n : Nat) (v : V) : Prop := ∃ (l : Int) (x1 x2 : V) (t1 t2 : String), Tp K H v [.int l, x1, x2] ∧ 0 ≤ l ∧ l < n ∧ It K H x1 t1 ∧ It K H x2 t2 ∧ isCont x1 = true ∧ isCont x2 = true ∧ (big x1 || big x2) = true
theorem KN.bigSt {K : PySem.W.Frag} {q : Addr} {H H' : Hp} {n : Nat} {v : V} (k : KN q H H') (h : BigSt K H n v) : BigSt K H' n v := by
  obtain ⟨l, x1, x2, t1, t2, h, a, b, h1, h2, e⟩ := h
  exact ⟨l, x1, x2, t1, t2, k.tp h, a, b, k.it h1, k.it h2, e⟩
section
variable {K : PySem.W.Frag} {CP CG CS CM CT : Addr} {T : List (Addr × Str)} {σ : L2.St} {H : Hp} {Q : VK} {i j : Nat} {pz v : V} {q : Addr} {N : Nat}
/-- the readings of the five questions -/
theorem ask_pg (hT : Tabs T H) (Y : QyAt H q N) (hi : σ[i]? = some (some pz)) (hj : σ[j]? = some (some v)) (ho : Odd H q pz) (k : ∀ t H', ExtN H H' → Tabs T H' → H' t = some (.tup [.str "program", .str "program"]) → Q (.ref t) H') :
    tLam T (TTh CG CS CM CT) (fun E => tCall (spPointOf K CP CG CS CM) [] E (tCons (tVar i) (tCons (tVar j) tNil))) σ H Q := by
  refine ⟨hT, fun H1 e T1 => ⟨_, hi, _, hj, pz, v, rfl, .inl ⟨(((Y.kn e)).odd ho).no, fun d hd => ⟨_, _, .pg d _ upd_same, fun t H2 s h => ?_⟩⟩⟩⟩
  exact k t H2 (e.trans (.of ((same_upd hd).trans s))) (T1.ext ((same_upd hd).trans s)) h
theorem ask_pg2 (hT : Tabs T H) (Y : QyAt H q N) (hi : σ[i]? = some (some pz)) (hj : σ[j]? = some (some v)) (ho : Odd H q pz) (k : ∀ t H', ExtN H H' → Tabs T H' → H' t = some (.tup [.str "program", .str "program"]) → Q (.ref t) H') :
    tLam T (TTh CG CS CM CT) (fun E => tCall (spStandOf K CP CG CT) [] E (tCons (tVar i) (tCons (tVar j) tNil))) σ H Q := by
  refine ⟨hT, fun H1 e T1 => ⟨_, hi, _, hj, pz, v, rfl, .inl ⟨((Y.kn e).odd ho).no, fun d hd => ⟨_, _, .pg d _ upd_same, fun t H2 s h => ?_⟩⟩⟩⟩
  exact k t H2 (e.trans (.of ((same_upd hd).trans s))) (T1.ext ((same_upd hd).trans s)) h
theorem ask_sd {pa : Addr} {n : Nat} (hT : Tabs T H) (Y : QyAt H q N) (hi : σ[i]? = some (some (.ref pa))) (hj : σ[j]? = some (some v)) (hp : ProgAt CP H pa n) (hb : BadSt K H n v) (k : ∀ t H', ExtN H H' → Tabs T H' → H' t = some (.tup [.str "stand", .str "stand"]) → Q (.ref t) H') :
    tLam T (TTh CG CS CM CT) (fun E => tCall (spPointOf K CP CG CS CM) [] E (tCons (tVar i) (tCons (tVar j) tNil))) σ H Q := by
  refine ⟨hT, fun H1 e T1 => ⟨_, hi, _, hj, .ref pa, v, rfl, .inr ⟨pa, n, rfl, (Y.kn e).prog hp, .inl ⟨?_, fun d H2 s hd => ⟨_, _, .sd d _ upd_same, fun t H3 s3 h => ?_⟩⟩⟩⟩⟩
  · rcases (Y.kn e).badSt hb with ⟨t, h, e⟩ | ⟨xs, h, e⟩ | ⟨x0, x1, x2, t0, t1, t2, h, h0, h1, h2, e⟩
    · exact .inl ⟨t, h.1, e⟩
    · exact .inr (.inl ⟨xs, h.seq, e⟩)
    · exact .inr (.inr ⟨x0, x1, x2, t0, t1, t2, h.seq, h0.1, h1.1, h2.1, e⟩)
  · exact k t H3 (e.trans (.of (s.trans ((same_upd hd).trans s3)))) (T1.ext (s.trans ((same_upd hd).trans s3))) h
theorem ask_mn {pa : Addr} {n : Nat} (hT : Tabs T H) (Y : QyAt H q N) (hi : σ[i]? = some (some (.ref pa))) (hj : σ[j]? = some (some v)) (hp : ProgAt CP H pa n) (hb : BigSt K H n v) (k : ∀ t H', ExtN H H' → Tabs T H' → H' t = some (.tup [.str "contents", .int 200]) → Q (.ref t) H') :
    tLam T (TTh CG CS CM CT) (fun E => tCall (spPointOf K CP CG CS CM) [] E (tCons (tVar i) (tCons (tVar j) tNil))) σ H Q := by
  refine ⟨hT, fun H1 e T1 => ⟨_, hi, _, hj, .ref pa, v, rfl, .inr ⟨pa, n, rfl, (Y.kn e).prog hp, .inr (.inr ?_)⟩⟩⟩
  obtain ⟨l, x1, x2, t1, t2, h, a, b, h1, h2, c1, c2, c3⟩ := (Y.kn e).bigSt hb
  refine ⟨l, x1, x2, t1, t2, h.seq, a, b, h1.1, h2.1, c1, c2, c3, fun d H2 s hd => ⟨_, _, .mn d _ _ upd_same, fun t H3 s3 h => ?_⟩⟩
  exact k t H3 (e.trans (.of (s.trans ((same_upd hd).trans s3)))) (T1.ext (s.trans ((same_upd hd).trans s3))) h
theorem ask_pt {pa : Addr} {n : Nat} (hT : Tabs T H) (Y : QyAt H q N) (hi : σ[i]? = some (some (.ref pa))) (hj : σ[j]? = some (some v)) (hp : ProgAt CP H pa n) (hb : BadPt K H v) (k : ∀ t H', ExtN H H' → Tabs T H' → H' t = some (.tup [.str "point", .str "point"]) → Q (.ref t) H') :
    tLam T (TTh CG CS CM CT) (fun E => tCall (spStandOf K CP CG CT) [] E (tCons (tVar i) (tCons (tVar j) tNil))) σ H Q := by
  refine ⟨hT, fun H1 e T1 => ⟨_, hi, _, hj, .ref pa, v, rfl, .inr ⟨pa, n, rfl, (Y.kn e).prog hp, .inl ⟨?_, fun d H2 s hd => ⟨_, _, .pt d _ upd_same, fun t H3 s3 h => ?_⟩⟩⟩⟩⟩
  · rcases (Y.kn e).badPt hb with ⟨t, h, e⟩ | ⟨xs, h, e⟩ | ⟨x0, x1, b0, b1, h, h0, h1, e⟩
    · exact .inl ⟨t, h.1, e⟩
    · exact .inr (.inl ⟨xs, h.seq, e⟩)
    · exact .inr (.inr ⟨x0, x1, b0, b1, h.seq, h0.t, h1.t, e⟩)
  · exact k t H3 (e.trans (.of (s.trans ((same_upd hd).trans s3)))) (T1.ext (s.trans ((same_upd hd).trans s3))) h
end
end TF


set_option Elab.async false
set_option linter.all false
set_option maxRecDepth 100000
set_option maxHeartbeats 4000000
namespace TF
open PySem PySem.Spec PyProof.Rows L2 LamX
def qRR : Str := ("_law_refused_right" : Str) ++ ".<locals>." ++ "<lambda>"
/-- a def whose code object is known -/
structure DfC (K : PySem.W.Frag) (mg : Str → Option Value) (x : Str) (st : Stmt) (ps : List Str) (c : Addr) : Prop where
  ex : ∃ (f : Addr) (oc : Value) (od : Option Addr) (kV doc pm : Value) (an : Option Addr) (ct : Value) (osl : Array (Option Value)),
    K.lookup f = some ⟨oc, od, .func (PySem.W.fnOf x x (defArgs st) (defBody st) (defScope st) .none kV doc pm an (.ref c) ct), osl⟩ ∧ PySem.W.codeIn K (.ref c) x = true ∧ PySem.W.keepIn K (.ref f) = true ∧ mg x = some (.ref f) ∧ Binds K (PySem.W.fnOf x x (defArgs st) (defBody st) (defScope st) .none kV doc pm an (.ref c) ct) ps []
section
variable {P : Program} {w : World} {K : PySem.W.Frag} {mg : Str → Option Value} {base : Heap} {CP CT CG CS CM CI : Addr}
theorem DfC.ok {x : Str} {st : Stmt} {N ps : List Str} {k : Nat} {sp : Sp} {c : Addr} (D : DfC K mg x st ps c) (S : FnScope N ps (defScope st)) (len : ∀ vs H Q E, sp vs H Q E → vs.length = ps.length)
    (hbody : ∀ (f : Addr) (A : Around) (outer : List Env) (s : Shared) (H : Hp) (vs : List V) (Q : VK) (E : XK), Room k (A.deeper (envOfC x (defScope st) s.heap.objs.size f (.ref c))) → sp vs H Q E →
      ∃ t, PSs (cxOf CX0 P w K mg base N x (defScope st) f (.ref c) A outer s H E).nox (defBody st) t ∧ t { nx := fun _ H' => Q .non H', rt := Q } (start N vs) H) : Has P w K mg base CX0 (k + 1) x ps sp := by
  obtain ⟨f, oc, od, kV, doc, pm, an, ct, osl, lk, hcd, kp, g, b⟩ := D.ex
  refine ⟨f, _, g, kp, b, fn_of lk hcd S len fun A outer s H vs Q E hr hsp => ?_⟩
  obtain ⟨t, h, q⟩ := hbody f A outer s H vs Q E hr hsp
  exact ⟨t, h.nox, q⟩
theorem seq_lst {ta : TA} {g : TG} {u : TS} {D : Ends} {σ : L2.St} {H : Hp} (h : ta σ H fun xs H1 => xs.length ≤ sizeLine ∧ ∀ p, H1 p = none → g (.ref p) σ (upd H1 p (.lst xs)) fun σ' H' => u D σ' H') : tSeq (tAsg (tLst ta) g) u D σ H := h
theorem seq_cat {ta : TA} {g : TG} {u : TS} {D : Ends} {σ : L2.St} {H : Hp} {i : Nat} {x : V} (hi : σ[i]? = some (some x)) (h : ta σ H fun xs H1 => xs.length ≤ sizeLine ∧ ∀ p, H1 p = none → rCat x (.ref p) (upd H1 p (.lst xs)) fun v H2 => g v σ H2 fun σ' H' => u D σ' H') : tSeq (tAsg (tOp rCat (tVar i) (tLst ta)) g) u D σ H := ⟨x, hi, h⟩
theorem tabs_kp {q : Addr} {H H' : Hp} {T : List (Addr × Str)} (t : Tabs T H) (k : Kp q H H') : Tabs T H' := by
  obtain ⟨c, r, r', hq, _⟩ := k.l
  intro p hp
  obtain ⟨ps, h1, h2, h3⟩ := t p hp
  refine ⟨ps, k.s _ _ (fun e => by rw [e, hq] at h1; cases h1) h1, h2, fun pos cv hc => ?_⟩
  obtain ⟨c2, e1, e2⟩ := h3 pos cv hc
  exact ⟨c2, e1, k.s _ _ (fun e => by rw [e, hq] at e2; unfold CodeO at e2; cases e2) e2⟩
/-- two contents, one too many -/
def Two2 (K : PySem.W.Frag) (H : Hp) (v : V) : Prop := ∃ (a : Addr) (x1 x2 : V) (t1 t2 : String), v = .ref a ∧ SqT K H a [x1, x2] ∧ It K H x1 t1 ∧ It K H x2 t2 ∧ isCont x1 = true ∧ isCont x2 = true ∧ (big x1 || big x2) = true
theorem standBad {n : Nat} {x0 x1 x2 : V} (h : (isCont x1 && isCont x2) = false) : standOk n x0 x1 x2 = false := by
  unfold standOk
  rw [h, Bool.and_false]
/-- what is due -/
def dRR : PyData := .list [.tuple [.str "program", .str "program"], .tuple [.str "program", .str "program"], .tuple [.str "stand", .str "stand"], .tuple [.str "point", .str "point"], .tuple [.str "contents", .int 200]]
theorem dRR_sh : SeqAt.shaped dRR = true := by decide +kernel
theorem dRR_eq : PyData.eqv dRR dRR = true := by decide +kernel
def spRefused (K : PySem.W.Frag) (PT : Addr) : Sp := fun vs H Q _ => ∃ (q l st : Addr) (ls : List V) (z : Int) (c1 c2 : Option Nat) (T : Nat), vs = [.ref q, .ref l, .ref st] ∧ Ls K H q l st ls z c1 c2 ∧ T ≤ 7000 ∧ QyAt H q T ∧ Tabs [(PT, qRR)] H ∧ ∀ H', KN q H H' → Tabs [(PT, qRR)] H' → QyAt H' q (T + 4) → Q (.bl true) H'
theorem ok_law_refused_right {PT cc : Addr} (B : Bz mg) (HK : HeardK K mg CG CS CM CT CI) (TB : TabB base mg cc PT) (D : DfC K mg "_law_refused_right" s_law_refused_right p_law_refused_right cc) (DH : Df K mg "_law_heard" s_law_heard p_law_heard)
    (H_Program : HasC P w K mg base 4 "Program" CP p_Program_init (spProg K CP)) (H_law_pick : Has P w K mg base CX0 2 "_law_pick" p_law_pick spPick) (H_point_of : Has P w K mg base (L2.CX P w) 5 "point_of" p_point_of (spPointOf K CP CG CS CM))
    (H_stand_of : Has P w K mg base (L2.CX P w) 6 "stand_of" p_stand_of (spStandOf K CP CG CT)) : Has P w K mg base CX0 9 "_law_refused_right" p_law_refused_right (spRefused K PT) := by
  obtain ⟨g, fd, FH, hgm, hbh⟩ := DH.ex
  obtain ⟨och, odh, kVh, doch, pmh, anh, cdh, cth, oslh, rfl, lkh, hcdh⟩ := FH.ex
  have hkp := FH.kp
  refine D.ok sc_law_refused_right (fun vs H Q E h => ?_) (fun f A outer s H vs Q E hr h => ?_)
  · obtain ⟨q, l, st, ls, z, c1, c2, T, rfl, _⟩ := h
    rfl
  · obtain ⟨q, l, st, ls, z, c1, c2, T, rfl, L, hT, Y, hTb, k⟩ := h
    refine ⟨_, (pss_cons (ps_asg (pe_tup (pa_cons (pe_hc H_Program (hr.mono (by decide)) (pa_cons (pv 1) pa_nil)) (pa_cons (pe_callB call_len_seq (by rfl) B.len (by decide +kernel) (pa_cons (pv 1) pa_nil)) pa_nil))) (pg_tup (by rfl) (pgs_cons (pg_name (i := 3) sc_law_refused_right.nd rfl (.inr rfl)) (pgs_cons (pg_name (i := 4) sc_law_refused_right.nd rfl (.inl rfl)) pgs_nil))))
      (pss_cons (ps_set (i := 5) sc_law_refused_right.nd rfl (Or.inr rfl) (pe_h H_law_pick (hr.mono (by decide)) pass0 (pa_cons (pv 0) (pa_cons (pe_lst (pa_cons pe_non (pa_cons pe_int (pa_cons (pv 1) (pa_cons pe_str (pa_cons pe_bl pa_nil)))))) pa_nil))))
      (pss_cons (ps_set (i := 6) sc_law_refused_right.nd rfl (Or.inr rfl) (pe_h H_law_pick (hr.mono (by decide)) pass0 (pa_cons (pv 0) (pa_cons (pe_lst (pa_cons pe_non (pa_cons pe_int (pa_cons (pe_op op_catT (pv 2) (pe_tup (pa_cons pe_int pa_nil))) (pa_cons (pe_slice sl_tup (pv 2) po_none (po_some pe_int)) (pa_cons (pe_tup (pa_cons (pv 4) (pa_cons pe_int (pa_cons pe_int pa_nil)))) (pa_cons (pe_tup (pa_cons (pe_un un_neg pe_int) (pa_cons pe_int (pa_cons pe_int pa_nil)))) (pa_cons (pe_tup (pa_cons pe_bl (pa_cons pe_int (pa_cons pe_int pa_nil)))) (pa_cons (pe_tup (pa_cons pe_int (pa_cons (pe_un un_neg pe_int) (pa_cons pe_int pa_nil)))) (pa_cons (pe_tup (pa_cons pe_int (pa_cons pe_int (pa_cons pe_bl pa_nil)))) (pa_cons (pe_tup (pa_cons pe_int (pa_cons pe_str (pa_cons pe_int pa_nil)))) (pa_cons (pe_tup (pa_cons pe_int (pa_cons (pe_tup (pa_cons pe_int (pa_cons pe_int pa_nil))) (pa_cons pe_int pa_nil)))) pa_nil)))))))))))) pa_nil))))
      (pss_cons (ps_set (i := 7) sc_law_refused_right.nd rfl (Or.inr rfl) (pe_h H_law_pick (hr.mono (by decide)) pass0 (pa_cons (pv 0) (pa_cons (pe_lst (pa_cons pe_non (pa_cons pe_int (pa_cons (pe_tup (pa_cons pe_int pa_nil)) (pa_cons (pe_tup (pa_cons pe_int (pa_cons pe_int (pa_cons pe_int pa_nil)))) (pa_cons (pe_tup (pa_cons pe_int (pa_cons (pe_tup (pa_cons pe_int (pa_cons pe_int pa_nil))) pa_nil))) (pa_cons (pe_tup (pa_cons pe_bl (pa_cons pe_int pa_nil))) (pa_cons (pe_tup (pa_cons pe_int (pa_cons pe_non pa_nil))) (pa_cons (pe_tup (pa_cons pe_str (pa_cons pe_int pa_nil))) (pa_cons pe_dnewK (pa_cons pe_str pa_nil))))))))))) pa_nil))))
      (pss_cons (ps_set (i := 8) sc_law_refused_right.nd rfl (Or.inr rfl) (pe_op op_catT (pe_tup (pa_cons (pe_ix ix_tup (pv 2) pe_int (fun _ _ => rfl)) pa_nil)) (pe_h H_law_pick (hr.mono (by decide)) pass0 (pa_cons (pv 0) (pa_cons (pe_lst (pa_cons (pe_tup (pa_cons pe_int (pa_cons pe_int pa_nil))) (pa_cons (pe_tup (pa_cons pe_int (pa_cons pe_int pa_nil))) (pa_cons (pe_tup (pa_cons (pe_op op_pow pe_int pe_int) (pa_cons pe_non pa_nil))) (pa_cons (pe_tup (pa_cons pe_non (pa_cons pe_int pa_nil))) (pa_cons (pe_tup (pa_cons pe_int (pa_cons pe_int pa_nil))) pa_nil)))))) pa_nil)))))
      (pss_cons (ps_set (i := 9) sc_law_refused_right.nd rfl (Or.inl rfl) (pe_lst (pa_cons (pe_lamcall (k := 6) (by rfl) hgm hkp lkh hcdh hbh sc_law_heard rfl (by first | exact Or.inl rfl | exact Or.inr (Or.inl rfl)) (heard_gives B HK) TB rfl (T := [(PT, qRR)]) (List.mem_singleton.mpr rfl) (fun p hp _ => by cases List.mem_singleton.mp hp; rfl) (hr.mono (by decide)) (lamS_by (sc := defScope s_law_refused_right) (by decide +kernel)) rfl (fun _ _ _ _ _ => rfl) (t := fun E => tCall (spPointOf K CP CG CS CM) [] E (tCons (tVar 5) (tCons (tVar 6) tNil))) (fun A outer s H E f c' hr2 => pe_h H_point_of (hr2.mono (by decide)) (passes_call (takes_of rfl rfl rfl rfl) (fun _ _ _ _ z => z)) (pa_cons (pv 5) (pa_cons (pv 6) pa_nil)))) (pa_cons (pe_lamcallD (k := 6) (by rfl) hgm hkp lkh hcdh hbh sc_law_heard rfl (by first | exact Or.inl rfl | exact Or.inr (Or.inl rfl)) (heard_gives B HK) TB rfl (T := [(PT, qRR)]) (List.mem_singleton.mpr rfl) (fun p hp _ => by cases List.mem_singleton.mp hp; rfl) (hr.mono (by decide)) (lamD_by (N := n_law_refused_right) (sc := defScope s_law_refused_right) (a := "_law_a1") (by decide +kernel)) rfl rfl (fun _ _ _ _ _ _ _ => ⟨_, rfl, fun _ => rfl⟩) (t := fun E => tCall (spStandOf K CP CG CT) [] E (tCons (tVar 5) (tCons (tVar 7) tNil))) (fun A outer s H E f c' hr2 => pe_h H_stand_of (hr2.mono (by decide)) (passes_call (takes_of rfl rfl rfl rfl) (fun _ _ _ _ z => z)) (pa_cons (pv 5) (pa_cons (pv 7) pa_nil)))) (pa_cons (pe_lamcallD (k := 6) (by rfl) hgm hkp lkh hcdh hbh sc_law_heard rfl (by first | exact Or.inl rfl | exact Or.inr (Or.inl rfl)) (heard_gives B HK) TB rfl (T := [(PT, qRR)]) (List.mem_singleton.mpr rfl) (fun p hp _ => by cases List.mem_singleton.mp hp; rfl) (hr.mono (by decide)) (lamD_by (N := n_law_refused_right) (sc := defScope s_law_refused_right) (a := "_law_a2") (by decide +kernel)) rfl rfl (fun _ _ _ _ _ _ _ => ⟨_, rfl, fun _ => rfl⟩) (t := fun E => tCall (spPointOf K CP CG CS CM) [] E (tCons (tVar 3) (tCons (tVar 6) tNil))) (fun A outer s H E f c' hr2 => pe_h H_point_of (hr2.mono (by decide)) (passes_call (takes_of rfl rfl rfl rfl) (fun _ _ _ _ z => z)) (pa_cons (pv 3) (pa_cons (pv 6) pa_nil)))) pa_nil)))))
      (pss_cons (ps_set (i := 9) sc_law_refused_right.nd rfl (Or.inl rfl) (pe_op op_cat (pv 9) (pe_lst (pa_cons (pe_lamcall (k := 6) (by rfl) hgm hkp lkh hcdh hbh sc_law_heard rfl (by first | exact Or.inl rfl | exact Or.inr (Or.inl rfl)) (heard_gives B HK) TB rfl (T := [(PT, qRR)]) (List.mem_singleton.mpr rfl) (fun p hp _ => by cases List.mem_singleton.mp hp; rfl) (hr.mono (by decide)) (lamS_by (sc := defScope s_law_refused_right) (by decide +kernel)) rfl (fun _ _ _ _ _ => rfl) (t := fun E => tCall (spStandOf K CP CG CT) [] E (tCons (tVar 3) (tCons (tVar 7) tNil))) (fun A outer s H E f c' hr2 => pe_h H_stand_of (hr2.mono (by decide)) (passes_call (takes_of rfl rfl rfl rfl) (fun _ _ _ _ z => z)) (pa_cons (pv 3) (pa_cons (pv 7) pa_nil)))) (pa_cons (pe_lamcallD (k := 6) (by rfl) hgm hkp lkh hcdh hbh sc_law_heard rfl (by first | exact Or.inl rfl | exact Or.inr (Or.inl rfl)) (heard_gives B HK) TB rfl (T := [(PT, qRR)]) (List.mem_singleton.mpr rfl) (fun p hp _ => by cases List.mem_singleton.mp hp; rfl) (hr.mono (by decide)) (lamD_by (N := n_law_refused_right) (sc := defScope s_law_refused_right) (a := "_law_a1") (by decide +kernel)) rfl rfl (fun _ _ _ _ _ _ _ => ⟨_, rfl, fun _ => rfl⟩) (t := fun E => tCall (spPointOf K CP CG CS CM) [] E (tCons (tVar 3) (tCons (tVar 8) tNil))) (fun A outer s H E f c' hr2 => pe_h H_point_of (hr2.mono (by decide)) (passes_call (takes_of rfl rfl rfl rfl) (fun _ _ _ _ z => z)) (pa_cons (pv 3) (pa_cons (pv 8) pa_nil)))) pa_nil)))))
      (pss_one (ps_ret (pe_cmpR (op_eqD hr.units) (pv 9) (pe_lst (pa_cons (pe_tup (pa_cons pe_str (pa_cons pe_str pa_nil))) (pa_cons (pe_tup (pa_cons pe_str (pa_cons pe_str pa_nil))) (pa_cons (pe_tup (pa_cons pe_str (pa_cons pe_str pa_nil))) (pa_cons (pe_tup (pa_cons pe_str (pa_cons pe_str pa_nil))) (pa_cons (pe_tup (pa_cons pe_str (pa_cons pe_int pa_nil))) pa_nil)))))) (nomark _))))))))))), ?_⟩
    have hl15 := L.l2
    have hl1 := L.l1
    refine ⟨_, rfl, mk_prog (.of L.hl) L.l1 L.l2 L.hls fun x H1 s1 hp => ?_⟩
    have L1 := L.same s1
    refine ⟨_, rfl, l, ls, rfl, .inl (.of L1.hl), by show 2 ≤ sizeLine; decide, fun pt mt => ⟨pt, _, rfl, .of upd_same, rfl, _, _, rfl, _, _, rfl, rfl, ?_⟩⟩
    have s2 := same_upd (o := .tup [.ref x, .int ls.length]) mt
    have L2 := L1.same s2
    have hp2 := hp.same s2
    have Y2 := (Y.same s1).same s2
    have T2 := (hTb.ext s1).ext s2
    have k2 := (Y.kp s1).same s2
    refine ⟨_, rfl, _, rfl, by show 5 ≤ sizeLine; decide, fun p1 n1 => ⟨q, p1, _, T, rfl, upd_same, fresh_ne n1 Y2, by show 0 < 5; decide, by show 5 ≤ 1000; decide, by omega, Y2.same (same_upd n1), fun v1 H3 hv1 j3 Y3 => ?_⟩⟩
    have k23 := (Y2.kp (same_upd n1)).trans j3
    have L3 := L2.kp k23
    have hp3 := k23.prog hp2
    have T3 := tabs_kp T2 k23
    have k3 := k2.trans k23
    have odd3 : Odd H3 q v1 := by
      simp only [List.mem_cons, List.not_mem_nil, or_false] at hv1
      rcases hv1 with rfl | rfl | rfl | rfl | rfl
      · exact .non
      · exact .int 5
      · exact .lst L3.ne L3.hl
      · exact .str _
      · exact .bl _
    clear hv1 j3 L2 hp2 T2 k2 k23
    refine ⟨_, rfl, ?_⟩
    refine ⟨_, rfl, by show 1 ≤ sizeLine; decide, fun b1 c1m => ?_⟩
    have b1s := same_upd (o := .tup [.int 0]) c1m
    refine ⟨st, b1, _, _, rfl, rfl, .of (b1s _ _ L3.hs), .of upd_same, (fun z => nomatch z), by show 4 ≤ sizeLine; decide, (fun z => nomatch z), fun _ b2 c2m => ?_⟩
    have b2s := same_upd (o := .tup ([.int z, cv c1, cv c2] ++ [.int 0])) c2m
    refine ⟨_, rfl, _, rfl, st, _, rfl, .of ((b1s.trans b2s) _ _ L3.hs), by show ¬ (HT.sIx 3 0 none = 0 ∧ HT.sIx 3 3 (some 2) = 3); decide, fun b3 c3m => ?_⟩
    have b3s := same_upd (o := .tup [.int z, cv c1]) c3m
    refine ⟨_, rfl, by show 3 ≤ sizeLine; decide, fun a1 m2 => ?_⟩
    have e3 := same_upd (o := .tup [.int ls.length, .int (0), .int (0)]) m2
    refine ⟨1, rfl, by show 3 ≤ sizeLine; decide, fun a4 m5 => ?_⟩
    have e6 := same_upd (o := .tup [.int (-1), .int (0), .int (0)]) m5
    refine ⟨by show 3 ≤ sizeLine; decide, fun a7 m8 => ?_⟩
    have e9 := same_upd (o := .tup [.bl true, .int (0), .int (0)]) m8
    refine ⟨1, rfl, by show 3 ≤ sizeLine; decide, fun a10 m11 => ?_⟩
    have e12 := same_upd (o := .tup [.int (0), .int (-1), .int (0)]) m11
    refine ⟨by show 3 ≤ sizeLine; decide, fun a13 m14 => ?_⟩
    have e15 := same_upd (o := .tup [.int (0), .int (0), .bl true]) m14
    refine ⟨by show 3 ≤ sizeLine; decide, fun a16 m17 => ?_⟩
    have e18 := same_upd (o := .tup [.int (0), .str "0", .int (0)]) m17
    refine ⟨by show 2 ≤ sizeLine; decide, fun a19 m20 => ?_⟩
    have e21 := same_upd (o := .tup [.int (1), .int (3)]) m20
    refine ⟨by show 3 ≤ sizeLine; decide, fun a22 m23 => ?_⟩
    have e24 := same_upd (o := .tup [.int (0), .ref a19, .int (0)]) m23
    refine ⟨by show 11 ≤ sizeLine; decide, fun plA mlA => ?_⟩
    have slA := same_upd (o := .lst [.non, .int 5, .ref b2, .ref b3, .ref a1, .ref a4, .ref a7, .ref a10, .ref a13, .ref a16, .ref a22]) mlA
    have sA := ((((((((((b1s.trans b2s).trans b3s).trans e3).trans e6).trans e9).trans e12).trans e15).trans e18).trans e21).trans e24)
    have YA := Y3.same (sA.trans slA)
    have allA : ∀ y ∈ ([.non, .int 5, .ref b2, .ref b3, .ref a1, .ref a4, .ref a7, .ref a10, .ref a13, .ref a16, .ref a22] : List V), BadSt K (upd _ plA (.lst [.non, .int 5, .ref b2, .ref b3, .ref a1, .ref a4, .ref a7, .ref a10, .ref a13, .ref a16, .ref a22])) ls.length y := fun y hy => by
      simp only [List.mem_cons, List.not_mem_nil, or_false] at hy
      rcases hy with rfl | rfl | rfl | rfl | rfl | rfl | rfl | rfl | rfl | rfl | rfl
      · exact .inl ⟨_, ⟨.non, rfl⟩, rfl⟩
      · exact .inl ⟨_, ⟨.int 5, rfl⟩, rfl⟩
      · exact .inr (.inl ⟨_, ⟨_, rfl, .of ((((((((((b3s.trans e3).trans e6).trans e9).trans e12).trans e15).trans e18).trans e21).trans e24).trans slA) _ _ upd_same)⟩, by show 4 ≠ 3; decide⟩)
      · exact .inr (.inl ⟨_, ⟨_, rfl, .of (((((((((e3.trans e6).trans e9).trans e12).trans e15).trans e18).trans e21).trans e24).trans slA) _ _ upd_same)⟩, by show 2 ≠ 3; decide⟩)
      · exact .inr (.inr ⟨_, _, _, _, _, _, ⟨_, rfl, .of ((((((((e6.trans e9).trans e12).trans e15).trans e18).trans e21).trans e24).trans slA) _ _ upd_same)⟩, ⟨.int _, rfl⟩, ⟨.int _, rfl⟩, ⟨.int _, rfl⟩, by unfold standOk within; simp; omega⟩)
      · exact .inr (.inr ⟨_, _, _, _, _, _, ⟨_, rfl, .of (((((((e9.trans e12).trans e15).trans e18).trans e21).trans e24).trans slA) _ _ upd_same)⟩, ⟨.int _, rfl⟩, ⟨.int _, rfl⟩, ⟨.int _, rfl⟩, by unfold standOk; rfl⟩)
      · exact .inr (.inr ⟨_, _, _, _, _, _, ⟨_, rfl, .of ((((((e12.trans e15).trans e18).trans e21).trans e24).trans slA) _ _ upd_same)⟩, ⟨.bl _, rfl⟩, ⟨.int _, rfl⟩, ⟨.int _, rfl⟩, by unfold standOk; rfl⟩)
      · exact .inr (.inr ⟨_, _, _, _, _, _, ⟨_, rfl, .of (((((e15.trans e18).trans e21).trans e24).trans slA) _ _ upd_same)⟩, ⟨.int _, rfl⟩, ⟨.int _, rfl⟩, ⟨.int _, rfl⟩, standBad (by rfl)⟩)
      · exact .inr (.inr ⟨_, _, _, _, _, _, ⟨_, rfl, .of ((((e18.trans e21).trans e24).trans slA) _ _ upd_same)⟩, ⟨.int _, rfl⟩, ⟨.int _, rfl⟩, ⟨.bl _, rfl⟩, standBad (by rfl)⟩)
      · exact .inr (.inr ⟨_, _, _, _, _, _, ⟨_, rfl, .of (((e21.trans e24).trans slA) _ _ upd_same)⟩, ⟨.int _, rfl⟩, ⟨.str _, rfl⟩, ⟨.int _, rfl⟩, standBad (by rfl)⟩)
      · exact .inr (.inr ⟨_, _, _, _, _, _, ⟨_, rfl, .of (slA _ _ upd_same)⟩, ⟨.int _, rfl⟩, ⟨.tup (.of ((e24.trans slA) _ _ upd_same)), rfl⟩, ⟨.int _, rfl⟩, standBad (by rfl)⟩)
    refine ⟨q, plA, _, T + 1, rfl, upd_same, fresh_ne mlA (Y3.same sA), by show 0 < 11; decide, by show 11 ≤ 1000; decide, by omega, YA, fun v2 H4 hv2 j4 Y4 => ?_⟩
    have k34 := (Y3.kp (sA.trans slA)).trans j4
    have bad4 := j4.kn.badSt (allA v2 hv2)
    have L4 := L3.kp k34
    have hp4 := k34.prog hp3
    have T4 := tabs_kp T3 k34
    have k4 := k3.trans k34
    have odd4 := k34.kn.odd odd3
    refine ⟨_, rfl, ?_⟩
    refine ⟨by show 1 ≤ sizeLine; decide, fun a25 m26 => ?_⟩
    have e27 := same_upd (o := .tup [.int (0)]) m26
    refine ⟨by show 3 ≤ sizeLine; decide, fun a28 m29 => ?_⟩
    have e30 := same_upd (o := .tup [.int (0), .int (0), .int (0)]) m29
    refine ⟨by show 2 ≤ sizeLine; decide, fun a31 m32 => ?_⟩
    have e33 := same_upd (o := .tup [.int (2), .int (4)]) m32
    refine ⟨by show 2 ≤ sizeLine; decide, fun a34 m35 => ?_⟩
    have e36 := same_upd (o := .tup [.int (0), .ref a31]) m35
    refine ⟨by show 2 ≤ sizeLine; decide, fun a37 m38 => ?_⟩
    have e39 := same_upd (o := .tup [.bl true, .int (0)]) m38
    refine ⟨by show 2 ≤ sizeLine; decide, fun a40 m41 => ?_⟩
    have e42 := same_upd (o := .tup [.int (0), .non]) m41
    refine ⟨by show 2 ≤ sizeLine; decide, fun a43 m44 => ?_⟩
    have e45 := same_upd (o := .tup [.str "0", .int (0)]) m44
    intro dB nB
    have eB := same_upd (o := .dK []) nB
    refine ⟨by show 10 ≤ sizeLine; decide, fun plB mlB => ?_⟩
    have slB := same_upd (o := .lst [.non, .int 5, .ref a25, .ref a28, .ref a34, .ref a37, .ref a40, .ref a43, .ref dB, .str "00"]) mlB
    have sB := (((((((e27.trans e30).trans e33).trans e36).trans e39).trans e42).trans e45).trans eB)
    have YB := Y4.same (sB.trans slB)
    have allB : ∀ y ∈ ([.non, .int 5, .ref a25, .ref a28, .ref a34, .ref a37, .ref a40, .ref a43, .ref dB, .str "00"] : List V), BadPt K (upd _ plB (.lst [.non, .int 5, .ref a25, .ref a28, .ref a34, .ref a37, .ref a40, .ref a43, .ref dB, .str "00"])) y := fun y hy => by
      simp only [List.mem_cons, List.not_mem_nil, or_false] at hy
      rcases hy with rfl | rfl | rfl | rfl | rfl | rfl | rfl | rfl | rfl | rfl
      · exact .inl ⟨_, ⟨.non, rfl⟩, rfl⟩
      · exact .inl ⟨_, ⟨.int 5, rfl⟩, rfl⟩
      · exact .inr (.inl ⟨_, ⟨_, rfl, .of ((((((((e30.trans e33).trans e36).trans e39).trans e42).trans e45).trans eB).trans slB) _ _ upd_same)⟩, by show 1 ≠ 2; decide⟩)
      · exact .inr (.inl ⟨_, ⟨_, rfl, .of (((((((e33.trans e36).trans e39).trans e42).trans e45).trans eB).trans slB) _ _ upd_same)⟩, by show 3 ≠ 2; decide⟩)
      · exact .inr (.inr ⟨_, _, _, _, ⟨_, rfl, .of (((((e39.trans e42).trans e45).trans eB).trans slB) _ _ upd_same)⟩, .inl ⟨_, ⟨.int _, rfl⟩, rfl, rfl⟩, .inr ⟨2, 4, ⟨_, rfl, .of ((((((e36.trans e39).trans e42).trans e45).trans eB).trans slB) _ _ upd_same)⟩, by decide, rfl⟩, by decide⟩)
      · exact .inr (.inr ⟨_, _, _, _, ⟨_, rfl, .of ((((e42.trans e45).trans eB).trans slB) _ _ upd_same)⟩, .inl ⟨_, ⟨.bl _, rfl⟩, rfl, rfl⟩, .inl ⟨_, ⟨.int _, rfl⟩, rfl, rfl⟩, by decide⟩)
      · exact .inr (.inr ⟨_, _, _, _, ⟨_, rfl, .of (((e45.trans eB).trans slB) _ _ upd_same)⟩, .inl ⟨_, ⟨.int _, rfl⟩, rfl, rfl⟩, .inl ⟨_, ⟨.non, rfl⟩, rfl, rfl⟩, by decide⟩)
      · exact .inr (.inr ⟨_, _, _, _, ⟨_, rfl, .of ((eB.trans slB) _ _ upd_same)⟩, .inl ⟨_, ⟨.str _, rfl⟩, rfl, rfl⟩, .inl ⟨_, ⟨.int _, rfl⟩, rfl, rfl⟩, by decide⟩)
      · exact .inl ⟨_, ⟨.dK (slB _ _ upd_same), rfl⟩, rfl⟩
      · exact .inl ⟨_, ⟨.str _, rfl⟩, rfl⟩
    refine ⟨q, plB, _, T + 2, rfl, upd_same, fresh_ne mlB (Y4.same sB), by show 0 < 10; decide, by show 10 ≤ 1000; decide, by omega, YB, fun v3 H5 hv3 j5 Y5 => ?_⟩
    have k45 := (Y4.kp (sB.trans slB)).trans j5
    have pt5 := j5.kn.badPt (allB v3 hv3)
    have L5 := L4.kp k45
    have hp5 := k45.prog hp4
    have T5 := tabs_kp T4 k45
    have k5 := k4.trans k45
    have odd5 := k45.kn.odd odd4
    have bad5 := k45.kn.badSt bad4
    refine ⟨_, rfl, st, _, 0, _, rfl, rfl, .of L5.hs, rfl, by show 1 ≤ sizeLine; decide, fun g1 h1m => ?_⟩
    have g1s := same_upd (o := .tup [.int z]) h1m
    refine ⟨_, rfl, ?_⟩
    refine ⟨by show 2 ≤ sizeLine; decide, fun a46 m47 => ?_⟩
    have e48 := same_upd (o := .tup [.int (201), .int (0)]) m47
    refine ⟨by show 2 ≤ sizeLine; decide, fun a49 m50 => ?_⟩
    have e51 := same_upd (o := .tup [.int (0), .int (201)]) m50
    refine ⟨10, 20, rfl, rfl, ⟨by decide, by decide, by decide⟩, by show 2 ≤ sizeLine; decide, fun a52 m53 => ?_⟩
    have e54 := same_upd (o := .tup [.int ((10 : Int) ^ (20 : Int).toNat), .non]) m53
    refine ⟨by show 2 ≤ sizeLine; decide, fun a55 m56 => ?_⟩
    have e57 := same_upd (o := .tup [.non, .int (201)]) m56
    refine ⟨by show 2 ≤ sizeLine; decide, fun a58 m59 => ?_⟩
    have e60 := same_upd (o := .tup [.int (201), .int (201)]) m59
    refine ⟨by show 5 ≤ sizeLine; decide, fun plC mlC => ?_⟩
    have slC := same_upd (o := .lst [.ref a46, .ref a49, .ref a52, .ref a55, .ref a58]) mlC
    have sC := (((((g1s.trans e48).trans e51).trans e54).trans e57).trans e60)
    have YC := Y5.same (sC.trans slC)
    have allC : ∀ y ∈ ([.ref a46, .ref a49, .ref a52, .ref a55, .ref a58] : List V), Two2 K (upd _ plC (.lst [.ref a46, .ref a49, .ref a52, .ref a55, .ref a58])) y := fun y hy => by
      simp only [List.mem_cons, List.not_mem_nil, or_false] at hy
      rcases hy with rfl | rfl | rfl | rfl | rfl
      · exact ⟨_, _, _, _, _, rfl, .of (((((e51.trans e54).trans e57).trans e60).trans slC) _ _ upd_same), ⟨.int _, rfl⟩, ⟨.int _, rfl⟩, rfl, rfl, rfl⟩
      · exact ⟨_, _, _, _, _, rfl, .of ((((e54.trans e57).trans e60).trans slC) _ _ upd_same), ⟨.int _, rfl⟩, ⟨.int _, rfl⟩, rfl, rfl, rfl⟩
      · exact ⟨_, _, _, _, _, rfl, .of (((e57.trans e60).trans slC) _ _ upd_same), ⟨.int _, rfl⟩, ⟨.non, rfl⟩, rfl, rfl, rfl⟩
      · exact ⟨_, _, _, _, _, rfl, .of ((e60.trans slC) _ _ upd_same), ⟨.non, rfl⟩, ⟨.int _, rfl⟩, rfl, rfl, rfl⟩
      · exact ⟨_, _, _, _, _, rfl, .of (slC _ _ upd_same), ⟨.int _, rfl⟩, ⟨.int _, rfl⟩, rfl, rfl, rfl⟩
    refine ⟨q, plC, _, T + 3, rfl, upd_same, fresh_ne mlC (Y5.same sC), by show 0 < 5; decide, by show 5 ≤ 1000; decide, by omega, YC, fun v4 H6 hv4 j6 Y6 => ?_⟩
    have k56 := (Y5.kp (sC.trans slC)).trans j6
    obtain ⟨lb, x1, x2, ta, tb, rfl, hlb, i1, i2, w1, w2, w3⟩ := allC v4 hv4
    have hg1 : SqT K H6 g1 [.int z] := j6.sqT (.of ((((((e48.trans e51).trans e54).trans e57).trans e60).trans slC) _ _ upd_same))
    refine ⟨g1, lb, [.int z], [x1, x2], rfl, rfl, hg1, j6.sqT hlb, (fun z => nomatch z), by show 3 ≤ sizeLine; decide, (fun z => nomatch z), fun _ lg mg7 => ?_⟩
    have s7 := same_upd (o := .tup ([.int z] ++ [x1, x2])) mg7
    have Y7 := Y6.same s7
    have k57 := k56.same s7
    have k7 := k5.trans k57
    have T7 := tabs_kp T5 k57
    have hp7 := k57.prog hp5
    have odd7 := k57.kn.odd odd5
    have bad7 := k57.kn.badSt bad5
    have pt7 := k57.kn.badPt pt5
    have j67 := j6.same s7
    have big7 : BigSt K (upd H6 lg (.tup ([.int z] ++ [x1, x2]))) ls.length (.ref lg) := ⟨z, x1, x2, ta, tb, ⟨lg, rfl, .of upd_same⟩, L5.z0, L5.z1, j67.kn.it i1, j67.kn.it i2, w1, w2, w3⟩
    show tSeq _ _ _ _ (upd H6 lg (.tup ([.int z] ++ [x1, x2])))
    generalize upd H6 lg (.tup ([.int z] ++ [x1, x2])) = G0 at Y7 k7 T7 hp7 odd7 bad7 pt7 big7
    refine seq_lst (cons_t (ask_pg T7 Y7 rfl rfl odd7 fun t1 G1 e1 TT1 r1 => ?_))
    have n1 := Y7.kn e1
    have YY1 := Y7.ext e1
    refine cons_t (ask_pg2 TT1 YY1 rfl rfl (n1.odd odd7) fun t2 G2 e2 TT2 r2 => ?_)
    have n2 := n1.trans (YY1.kn e2)
    have YY2 := YY1.ext e2
    refine cons_t (ask_sd TT2 YY2 rfl rfl (n2.prog hp7) (n2.badSt bad7) fun t3 G3 e3 TT3 r3 => ?_)
    have n3 := n2.trans (YY2.kn e3)
    have YY3 := YY2.ext e3
    refine ⟨by show 3 ≤ sizeLine; decide, fun o1 w1 => ?_⟩
    have u1 := same_upd (o := .lst [.ref t1, .ref t2, .ref t3]) w1
    have TT4 := TT3.ext u1
    have YY4 := YY3.same u1
    have n4 := n3.trans (YY3.kp u1).kn
    have q1 := u1 _ _ (e3 _ _ (e2 _ _ r1 (fun _ z => by cases z)) (fun _ z => by cases z))
    have q2 := u1 _ _ (e3 _ _ r2 (fun _ z => by cases z))
    have q3 := u1 _ _ r3
    have ho1 : (upd G3 o1 (.lst [.ref t1, .ref t2, .ref t3])) o1 = some (.lst [.ref t1, .ref t2, .ref t3]) := upd_same
    refine seq_cat rfl (cons_t (ask_pt TT4 YY4 rfl rfl (n4.prog hp7) (n4.badPt pt7) fun t4 G4 e4 TT5 r4 => ?_))
    have n5 := n4.trans (YY4.kn e4)
    have YY5 := YY4.ext e4
    refine cons_t (ask_mn TT5 YY5 rfl rfl (n5.prog hp7) (n5.bigSt big7) fun t5 G5 e5 TT6 r5 => ?_)
    have n6 := n5.trans (YY5.kn e5)
    have YY6 := YY5.ext e5
    have e45 : ∀ {a : Addr} {xs : List V}, (upd G3 o1 (.lst [.ref t1, .ref t2, .ref t3])) a = some (.tup xs) → G5 a = some (.tup xs) := fun h => e5 _ _ (e4 _ _ h (fun _ z => by cases z)) (fun _ z => by cases z)
    refine ⟨by show 2 ≤ sizeLine; decide, fun o2 w2 => ?_⟩
    have u2 := same_upd (o := .lst [.ref t4, .ref t5]) w2
    refine ⟨o1, o2, _, _, rfl, rfl, u2 _ _ (e5 _ _ (e4 _ _ ho1 (fun _ z => by cases z)) (fun _ z => by cases z)), upd_same, by show 5 ≤ sizeLine; decide, fun o3 w3 => ?_⟩
    have u3 := same_upd (o := .lst ([.ref t1, .ref t2, .ref t3] ++ [.ref t4, .ref t5])) w3
    have u23 := u2.trans u3
    refine ⟨_, rfl, ?_⟩
    refine ⟨by show 2 ≤ sizeLine; decide, fun a61 m62 => ?_⟩
    have e63 := same_upd (o := .tup [.str "program", .str "program"]) m62
    refine ⟨by show 2 ≤ sizeLine; decide, fun a64 m65 => ?_⟩
    have e66 := same_upd (o := .tup [.str "program", .str "program"]) m65
    refine ⟨by show 2 ≤ sizeLine; decide, fun a67 m68 => ?_⟩
    have e69 := same_upd (o := .tup [.str "stand", .str "stand"]) m68
    refine ⟨by show 2 ≤ sizeLine; decide, fun a70 m71 => ?_⟩
    have e72 := same_upd (o := .tup [.str "point", .str "point"]) m71
    refine ⟨by show 2 ≤ sizeLine; decide, fun a73 m74 => ?_⟩
    have e75 := same_upd (o := .tup [.str "contents", .int (200)]) m74
    refine ⟨by show 5 ≤ sizeLine; decide, fun plD mlD => ?_⟩
    have slD := same_upd (o := .lst [.ref a61, .ref a64, .ref a67, .ref a70, .ref a73]) mlD
    have sD := (((((e63.trans e66).trans e69).trans e72).trans e75).trans slD)
    refine ⟨dRR, dRR, .lst (.of (sD _ _ upd_same)) (.cons (.tup (.of (sD _ _ (u23 _ _ (e45 q1)))) (.cons (.str _) (.cons (.str _) .nil))) (.cons (.tup (.of (sD _ _ (u23 _ _ (e45 q2)))) (.cons (.str _) (.cons (.str _) .nil))) (.cons (.tup (.of (sD _ _ (u23 _ _ (e45 q3)))) (.cons (.str _) (.cons (.str _) .nil))) (.cons (.tup (.of (sD _ _ (u23 _ _ (e5 _ _ r4 (fun _ z => by cases z))))) (.cons (.str _) (.cons (.str _) .nil))) (.cons (.tup (.of (sD _ _ (u23 _ _ (r5)))) (.cons (.str _) (.cons (.int _) .nil))) .nil))))), .lst (.of upd_same) (.cons (.tup (.of (((((e66.trans e69).trans e72).trans e75).trans slD) _ _ upd_same)) (.cons (.str _) (.cons (.str _) .nil))) (.cons (.tup (.of ((((e69.trans e72).trans e75).trans slD) _ _ upd_same)) (.cons (.str _) (.cons (.str _) .nil))) (.cons (.tup (.of (((e72.trans e75).trans slD) _ _ upd_same)) (.cons (.str _) (.cons (.str _) .nil))) (.cons (.tup (.of ((e75.trans slD) _ _ upd_same)) (.cons (.str _) (.cons (.str _) .nil))) (.cons (.tup (.of (slD _ _ upd_same)) (.cons (.str _) (.cons (.int _) .nil))) .nil))))), dRR_sh, dRR_sh, ?_⟩
    rw [dRR_eq]
    have nE := n6.trans ((YY6.kp (u23.trans sD)).kn)
    exact k _ (k7.kn.trans nE) (TT6.ext (u23.trans sD)) ((YY6.same (u23.trans sD)).mono (by omega))
end
end TF


set_option Elab.async false
set_option linter.all false
set_option maxRecDepth 100000
set_option maxHeartbeats 4000000
namespace TF
open PySem PySem.Spec PyProof.Rows L2 TL
/-! ### data that is shown -/
structure Gd (d : PyData) (dep len : Nat) : Prop where
  show_ : d.showable = true
  lay : d.canLay0 = true
  dep_ : d.depth ≤ dep
  len_ : d.shown.length ≤ len
theorem tl_int (n : Nat) : tl (PyData.shown (.int (n : Int))) = numL n := by
  simp only [PyData.shown]
  exact tl_num n
theorem tl_tup2 (a b : Str) : tl (tupleText [a, b]) = 40 :: (tl a ++ 44 :: 32 :: (tl b ++ [41])) := by
  show tl (("(" : Str) ++ Str.join ", " [a, b] ++ (")" : Str)) = _
  rw [tl_append, tl_append]
  show [40] ++ tl (a ++ (", " : Str) ++ b) ++ [41] = _
  rw [tl_append, tl_append]
  show [40] ++ (tl a ++ [44, 32] ++ tl b) ++ [41] = _
  simp
theorem tl_tup3 (a b c : Str) : tl (tupleText [a, b, c]) = 40 :: (tl a ++ 44 :: 32 :: (tl b ++ 44 :: 32 :: (tl c ++ [41]))) := by
  show tl (("(" : Str) ++ Str.join ", " [a, b, c] ++ (")" : Str)) = _
  rw [tl_append, tl_append]
  show [40] ++ tl (a ++ (", " : Str) ++ (b ++ (", " : Str) ++ c)) ++ [41] = _
  rw [tl_append, tl_append, tl_append, tl_append]
  show [40] ++ (tl a ++ [44, 32] ++ (tl b ++ [44, 32] ++ tl c)) ++ [41] = _
  simp
theorem tl_lst2 (a b : Str) : tl (listText [a, b]) = 91 :: (tl a ++ 44 :: 32 :: (tl b ++ [93])) := by
  show tl ((("[" : Str) ++ ("" : Str) ++ a) ++ (", " : Str) ++ b ++ ("]" : Str)) = _
  rw [tl_append, tl_append, tl_append, tl_append, tl_append]
  show [91] ++ [] ++ tl a ++ [44, 32] ++ tl b ++ [93] = _
  simp
theorem two_ten (n : Nat) : 2 ^ n ≤ 10 ^ n := Nat.pow_le_pow_left (by decide) n
theorem Gd.int {n : Nat} (h : n < 2 ^ 1500) : Gd (.int (n : Int)) 0 1500 := by
  refine ⟨?_, rfl, Nat.le_refl _, ?_⟩
  · simp only [PyData.showable]
    refine decide_eq_true ?_
    rw [Int.natAbs_natCast]
    by_cases h0 : n = 0
    · subst h0; decide
    · exact Nat.lt_of_lt_of_le ((Nat.log2_lt h0).mpr h) (by decide)
  · rw [len_tl, tl_int]
    exact numL_len (by decide) (Nat.lt_of_lt_of_le h (two_ten 1500))
theorem Gd.none : Gd .none 0 1500 := ⟨rfl, rfl, Nat.le_refl _, by decide⟩
theorem Gd.tup2 {a b : PyData} {p l m : Nat} (ha : Gd a p l) (hb : Gd b p m) : Gd (.tuple [a, b]) (p + 1) (l + m + 4) := by
  refine ⟨?_, ?_, ?_, ?_⟩
  · simp [PyData.showable, PyData.showableAll, ha.show_, hb.show_]
  · simp [PyData.canLay0, PyData.canLayAll0, ha.lay, hb.lay]
  · have := ha.dep_; have := hb.dep_
    simp [PyData.depth, PyData.depthAll]
    omega
  · have h1 := ha.len_; have h2 := hb.len_
    rw [len_tl] at h1 h2 ⊢
    simp only [PyData.shown, PyData.shownAll]
    rw [tl_tup2]
    simp only [List.length_cons, List.length_append, List.length_nil]
    omega
theorem Gd.tup3 {a b c : PyData} {p l m n : Nat} (ha : Gd a p l) (hb : Gd b p m) (hc : Gd c p n) : Gd (.tuple [a, b, c]) (p + 1) (l + m + n + 6) := by
  refine ⟨?_, ?_, ?_, ?_⟩
  · simp [PyData.showable, PyData.showableAll, ha.show_, hb.show_, hc.show_]
  · simp [PyData.canLay0, PyData.canLayAll0, ha.lay, hb.lay, hc.lay]
  · have := ha.dep_; have := hb.dep_; have := hc.dep_
    simp [PyData.depth, PyData.depthAll]
    omega
  · have h1 := ha.len_; have h2 := hb.len_; have h3 := hc.len_
    rw [len_tl] at h1 h2 h3 ⊢
    simp only [PyData.shown, PyData.shownAll]
    rw [tl_tup3]
    simp only [List.length_cons, List.length_append, List.length_nil]
    omega
theorem Gd.lst2 {a b : PyData} {p l m : Nat} (ha : Gd a p l) (hb : Gd b p m) : Gd (.list [a, b]) (p + 1) (l + m + 4) := by
  refine ⟨?_, ?_, ?_, ?_⟩
  · simp [PyData.showable, PyData.showableAll, ha.show_, hb.show_]
  · simp [PyData.canLay0, PyData.canLayAll0, ha.lay, hb.lay]
  · have := ha.dep_; have := hb.dep_
    simp [PyData.depth, PyData.depthAll]
    omega
  · have h1 := ha.len_; have h2 := hb.len_
    rw [len_tl] at h1 h2 ⊢
    simp only [PyData.shown, PyData.shownAll]
    rw [tl_lst2]
    simp only [List.length_cons, List.length_append, List.length_nil]
    omega
/-! ### repr -/
def rRepr (K : PySem.W.Frag) : List V → Hp → VK → Prop := fun xs H Q => ∃ (a : Addr) (d : PyData) (p l : Nat), xs = [.ref a] ∧ Dp K H (.ref a) d ∧ Gd d p l ∧ p ≤ 60 ∧ l ≤ 1000000 ∧ Q (.str d.shown) H
theorem call_reprD {X : Cx} (hg : X.A.guards = some []) (hu : X.A.units + 64 < cLine) : CallR X (.builtin "repr") (rRepr X.K) := by
  intro pins s σ H xs us Q I r h
  obtain ⟨a, d, p, l, rfl, hd, g, hp, hl, q⟩ := h
  obtain ⟨u, rfl, ru⟩ := vals1 r
  obtain ⟨as, rd⟩ := Dp.reads I d _ u hd ru
  cases ru
  refine repr_of_reads' rd g.show_ (PyData.noDict_hsm (PyData.hasDict_of_canLay d g.lay)) hg (by have := g.dep_; omega) (fun _ _ e => e) (fun h' u tk hk => ⟨.str d.shown, H, I.kept hk, ⟨_, rfl⟩, q⟩) ?_
  have := g.len_
  rw [sizeLine_eq]
  omega
/-! ### the texts of points tell the points -/
theorem split_at {s : Nat} : ∀ {u v x y : List Nat}, s ∉ u → s ∉ v → u ++ s :: x = v ++ s :: y → u = v ∧ x = y
  | [], [], x, y, _, _, e => ⟨rfl, by simpa using e⟩
  | [], b :: v, x, y, _, hv, e => by
    have e1 : s = b := (List.cons.inj e).1
    exact absurd (by rw [e1]; exact List.mem_cons_self) hv
  | a :: u, [], x, y, hu, _, e => by
    have e1 : a = s := (List.cons.inj e).1
    exact absurd (by rw [← e1]; exact List.mem_cons_self) hu
  | a :: u, b :: v, x, y, hu, hv, e => by
    obtain ⟨e1, e2⟩ := List.cons.inj e
    obtain ⟨h1, h2⟩ := split_at (fun z => hu (List.mem_cons_of_mem _ z)) (fun z => hv (List.mem_cons_of_mem _ z)) e2
    exact ⟨by rw [e1, h1], h2⟩
def numtl (m k : Nat) : List Nat := if k = 1 then numL m else 40 :: (numL m ++ 44 :: 32 :: (numL k ++ [41]))
theorem tl_numD (m k : Nat) : tl (PyData.shown (numD ((m : Int), (k : Int)))) = numtl m k := by
  unfold numD numtl
  by_cases h : k = 1
  · subst h
    rw [if_pos (show ((m : Int), ((1 : Nat) : Int)).2 = 1 from rfl), if_pos rfl]
    exact tl_int m
  · rw [if_neg (show ¬ ((m : Int), (k : Int)).2 = 1 from fun z => h (by have : (k : Int) = 1 := z; omega)), if_neg h]
    simp only [PyData.shown, PyData.shownAll]
    rw [tl_tup2]
    have e1 := tl_num m
    have e2 := tl_num k
    show 40 :: (tl (Str.ofString (toString ((m : Nat) : Int))) ++ 44 :: 32 :: (tl (Str.ofString (toString ((k : Nat) : Int))) ++ [41])) = _
    rw [e1, e2]
theorem numL_40 (m : Nat) {x y : List Nat} (e : numL m ++ x = 40 :: y) : False := by
  cases h : numL m with
  | nil => exact numL_ne m h
  | cons c r =>
    rw [h] at e
    have e1 : c = 40 := (List.cons.inj e).1
    exact numL_free (n := m) (s := 40) (.inl (by decide)) (by rw [h, e1]; exact List.mem_cons_self)
theorem numtl_inj {m k m' k' : Nat} {x y : List Nat} (e : numtl m k ++ 44 :: x = numtl m' k' ++ 44 :: y) : m = m' ∧ k = k' ∧ x = y := by
  have f44 : ∀ n, 44 ∉ numL n := fun n => numL_free (.inl (by decide))
  have f41 : ∀ n, 41 ∉ numL n := fun n => numL_free (.inl (by decide))
  unfold numtl at e
  by_cases h : k = 1
  · by_cases h' : k' = 1
    · rw [if_pos h, if_pos h'] at e
      obtain ⟨e1, e2⟩ := split_at (f44 m) (f44 m') e
      exact ⟨numL_inj e1, by omega, e2⟩
    · rw [if_pos h, if_neg h'] at e
      exact (numL_40 m e).elim
  · by_cases h' : k' = 1
    · rw [if_neg h, if_pos h'] at e
      exact (numL_40 m' e.symm).elim
    · rw [if_neg h, if_neg h'] at e
      simp only [List.cons_append, List.append_assoc, List.cons.injEq, true_and] at e
      obtain ⟨e1, e2⟩ := split_at (f44 m) (f44 m') e
      simp only [List.cons.injEq, true_and, List.nil_append] at e2
      obtain ⟨e3, e4⟩ := split_at (f41 k) (f41 k') e2
      simp only [List.cons.injEq, true_and] at e4
      exact ⟨numL_inj e1, numL_inj e3, e4⟩
/-- a point's data -/
def ptD (q r : Q2) : PyData := .tuple [numD q, numD r]
theorem ptD_inj {a b c d a' b' c' d' : Nat} (e : (ptD ((a : Int), (b : Int)) ((c : Int), (d : Int))).shown = (ptD ((a' : Int), (b' : Int)) ((c' : Int), (d' : Int))).shown) : (a = a' ∧ b = b') ∧ c = c' ∧ d = d' := by
  have h := congrArg tl e
  unfold ptD at h
  simp only [PyData.shown, PyData.shownAll] at h
  rw [tl_tup2, tl_tup2, tl_numD, tl_numD, tl_numD, tl_numD] at h
  have h1 := (List.cons.inj h).2
  obtain ⟨e1, e2, e3⟩ := numtl_inj h1
  have h2 := (List.cons.inj e3).2
  have h3 : numtl c d = numtl c' d' := List.append_cancel_right h2
  obtain ⟨e4, e5, _⟩ := numtl_inj (m := c) (k := d) (m' := c') (k' := d') (x := []) (y := []) (by rw [h3])
  exact ⟨⟨e1, e2⟩, e4, e5⟩
theorem ptD_inj' {q r q' r' : Q2} (h1 : 0 ≤ q.1 ∧ 0 ≤ q.2) (h2 : 0 ≤ r.1 ∧ 0 ≤ r.2) (h3 : 0 ≤ q'.1 ∧ 0 ≤ q'.2) (h4 : 0 ≤ r'.1 ∧ 0 ≤ r'.2) (e : (ptD q r).shown = (ptD q' r').shown) : q = q' ∧ r = r' := by
  obtain ⟨a, b⟩ := q
  obtain ⟨c, d⟩ := r
  obtain ⟨a', b'⟩ := q'
  obtain ⟨c', d'⟩ := r'
  dsimp only at h1 h2 h3 h4
  obtain ⟨a, rfl⟩ := Int.eq_ofNat_of_zero_le h1.1
  obtain ⟨b, rfl⟩ := Int.eq_ofNat_of_zero_le h1.2
  obtain ⟨c, rfl⟩ := Int.eq_ofNat_of_zero_le h2.1
  obtain ⟨d, rfl⟩ := Int.eq_ofNat_of_zero_le h2.2
  obtain ⟨a', rfl⟩ := Int.eq_ofNat_of_zero_le h3.1
  obtain ⟨b', rfl⟩ := Int.eq_ofNat_of_zero_le h3.2
  obtain ⟨c', rfl⟩ := Int.eq_ofNat_of_zero_le h4.1
  obtain ⟨d', rfl⟩ := Int.eq_ofNat_of_zero_le h4.2
  obtain ⟨⟨e1, e2⟩, e3, e4⟩ := ptD_inj e
  rw [e1, e2, e3, e4]
  exact ⟨rfl, rfl⟩
theorem px_nn {z : Int} (h : 0 ≤ z) (c : Option Nat) : 0 ≤ (px z c).1 ∧ 0 ≤ (px z c).2 := by
  have h1 := ht_pos c
  have h2 := ht_lo c
  refine ⟨?_, by show 0 ≤ (ht c).2; omega⟩
  have : 0 ≤ 4 * z * (ht c).2 := Int.mul_nonneg (by omega) (by omega)
  show 0 ≤ 4 * z * (ht c).2 + (ht c).1
  omega
theorem ht_nn (c : Option Nat) : 0 ≤ (ht c).1 ∧ 0 ≤ (ht c).2 := ⟨ht_lo c, by have := ht_pos c; omega⟩
theorem Gd.num {q : Q2} (h : 0 ≤ q.1 ∧ 0 ≤ q.2) (h1 : Sz 1500 q.1) (h2 : Sz 1500 q.2) : Gd (numD q) 1 3004 := by
  obtain ⟨a, b⟩ := q
  dsimp only at h h1 h2
  obtain ⟨a, rfl⟩ := Int.eq_ofNat_of_zero_le h.1
  obtain ⟨b, rfl⟩ := Int.eq_ofNat_of_zero_le h.2
  have ga : Gd (.int (a : Int)) 0 1500 := .int (by unfold Sz at h1; rw [Int.natAbs_natCast] at h1; exact h1)
  have gb : Gd (.int (b : Int)) 0 1500 := .int (by unfold Sz at h2; rw [Int.natAbs_natCast] at h2; exact h2)
  unfold numD
  split
  · exact ⟨ga.show_, ga.lay, Nat.le_trans ga.dep_ (by decide), Nat.le_trans ga.len_ (by decide)⟩
  · exact ga.tup2 gb
/-- a stand's data -/
def cD : Option Nat → PyData
  | none => .none
  | some k => .int (k : Nat)
def sD (z : Int) (c1 c2 : Option Nat) : PyData := .tuple [.int z, cD c1, cD c2]
theorem Gd.cont {c : Option Nat} (h : ∀ k, c = some k → k ≤ 1400) : Gd (cD c) 0 1500 := by
  cases c with
  | none => exact Gd.none
  | some k =>
    refine Gd.int (Nat.lt_of_le_of_lt (h k rfl) ?_)
    exact Nat.lt_of_lt_of_le (show 1400 < 2 ^ 11 by decide) (Nat.pow_le_pow_right (by decide) (by decide))
theorem Gd.stand {z : Int} {c1 c2 : Option Nat} (h0 : 0 ≤ z) (h1 : z ≤ 15) (b1 : ∀ k, c1 = some k → k ≤ 1400) (b2 : ∀ k, c2 = some k → k ≤ 1400) : Gd (sD z c1 c2) 1 4506 := by
  obtain ⟨n, rfl⟩ := Int.eq_ofNat_of_zero_le h0
  exact (Gd.int (Nat.lt_of_lt_of_le (show n < 2 ^ 4 by omega) (Nat.pow_le_pow_right (by decide) (by decide)))).tup3 (.cont b1) (.cont b2)
theorem cv_dp {K : PySem.W.Frag} {H : Hp} (c : Option Nat) : Dp K H (cv c) (cD c) := by
  cases c with
  | none => exact .non
  | some k => exact .int _
theorem stand_dp {K : PySem.W.Frag} {H : Hp} {st : Addr} {z : Int} {c1 c2 : Option Nat} (h : SqT K H st [.int z, cv c1, cv c2]) : Dp K H (.ref st) (sD z c1 c2) := .tup h (.cons (.int z) (.cons (cv_dp c1) (.cons (cv_dp c2) .nil)))
theorem cD_eqv (c : Option Nat) : PyData.eqv (cD c) (cD c) = true := by
  cases c with
  | none => rfl
  | some k => simp [cD, PyData.eqv]
theorem sD_eqv (z : Int) (c1 c2 : Option Nat) : PyData.eqv (sD z c1 c2) (sD z c1 c2) = true := by
  unfold sD
  simp [PyData.eqv, PyData.eqvAll, cD_eqv]
theorem Gd.shaped {d : PyData} {p l : Nat} (g : Gd d p l) (h : p ≤ 64) : SeqAt.shaped d = true := by
  unfold SeqAt.shaped
  rw [g.lay, decide_eq_true (Nat.le_trans g.dep_ h)]
  rfl
theorem Gd.point {z : Int} {c1 c2 : Option Nat} (h0 : 0 ≤ z) (h1 : z ≤ 15) (b1 : ∀ k, c1 = some k → k ≤ 200) (b2 : ∀ k, c2 = some k → k ≤ 200) : Gd (ptD (px z c1) (ht c2)) 2 6012 :=
  (Gd.num (px_nn h0 c1) (px_sz b1 (by omega)) ((ht_sz2 b1).2.mono (by decide))).tup2 (Gd.num (ht_nn c2) ((ht_sz2 b2).1.mono (by decide)) ((ht_sz2 b2).2.mono (by decide)))
/-! ### a call by keywords alone -/
section
variable {X : Cx} {CX : CXT} {k : Nat} {ps ks : List Str} {sp : Sp} {E : XK} {x : Str} {st : Stmt} {p pos : Pos} {kws : List Keyword} {tk : TA} {g : List Value → List Value → List Value} {gV : List V → List V → List V}
def tCallK0 (sp : Sp) (gV : List V → List V → List V) (E : XK) (tk : TA) : TE := fun σ H Q => tk σ H fun zs H2 => sp (gV [] zs) H2 Q E
theorem pe_hk0 (h : HasF X.prog X.w X.K X.mg X.base CX k x st ps sp) (hr : Room k X.A) (hg : Gl X x) (hb : ∀ f fd, Fun X.K x x st f fd → KBinds X.K fd ps ks g gV) (hx : Passes CX X E)
    (hkw : PK X kws tk) (hall : (backToKw pos (keywordEach kws X.env)).all (·.1.isSome) = true := by rfl) (hks : (backToKw pos (keywordEach kws X.env)).filterMap (·.1) = ks := by rfl)
    (hdb : (x == ("__debug__" : Str)) = false := by decide)
    (hpl : ((backTo pos (starEach [] X.env)).any (·.1) || (backToKw pos (keywordEach kws X.env)).any (·.1.isNone)) = false := by rfl) :
    PE X (.Call (.Name x p) [] kws pos) (tCallK0 sp gV E tk) := by
  obtain ⟨f, fd, F, hm, b, o⟩ := h
  refine ⟨fun pins s σ H Q I h => ?_⟩
  refine wpAny_Call_Name_kw (ld_glob I hg hm ?_ hdb)
  refine PySem.W.callWith_KW0 (h₀ := X.base) I.ok.mod.kin F.kp hall ?_ hpl
  refine thn (hkw.run pos pins s σ H _ I h) fun ws s2 ⟨zs, H2, I2, rz, q2⟩ => ⟨I2.kIn, ?_⟩
  rw [hks]
  exact run_fnk (us := []) (vs := []) o hr (hb f fd F) hx I2 .nil rz q2
end
end TF


set_option Elab.async false
set_option linter.all false
set_option maxRecDepth 100000
set_option maxHeartbeats 8000000
namespace TF
open PySem PySem.Spec PyProof.Rows L2 LamX
def kwG (us ws : List Value) : List Value := match us, ws with | [], [a, b] => [b, a] | _, _ => []
def kwV (vs zs : List V) : List V := match vs, zs with | [], [a, b] => [b, a] | _, _ => []
theorem kw_rel {vs : List V} {us : List Value} {zs : List V} {ws : List Value} (r : Vals vs us) (rz : Vals zs ws) : Vals (kwV vs zs) (kwG us ws) := by
  cases r with
  | cons _ _ => exact .nil
  | nil =>
    cases rz with
    | nil => exact .nil
    | cons r1 rz =>
      cases rz with
      | nil => exact .nil
      | cons r2 rz =>
        cases rz with
        | nil => exact .cons r2 (.cons r1 .nil)
        | cons _ _ => exact .nil
theorem kb_point {K : PySem.W.Frag} : ∀ (f : Addr) (fd : FuncData), Fun K "point_of" "point_of" s_point_of f fd → KBinds K fd p_point_of ["stand", "program"] kwG kwV := fun f fd F => by
  obtain ⟨oc, od, kV, doc, pm, an, cdv, ct, osl, rfl, lk, hcd⟩ := F.ex
  exact ⟨fun s us ws _ hl => match us, ws, hl with | [], [a, b], _ => .of_eq rfl, fun r rz => kw_rel r rz⟩
theorem kb_stand {K : PySem.W.Frag} : ∀ (f : Addr) (fd : FuncData), Fun K "stand_of" "stand_of" s_stand_of f fd → KBinds K fd p_stand_of ["point", "program"] kwG kwV := fun f fd F => by
  obtain ⟨oc, od, kV, doc, pm, an, cdv, ct, osl, rfl, lk, hcd⟩ := F.ex
  exact ⟨fun s us ws _ hl => match us, ws, hl with | [], [a, b], _ => .of_eq rfl, fun r rz => kw_rel r rz⟩
theorem ht_sz6 {c : Option Nat} (h : ∀ k, c = some k → k ≤ 580) : Sz 1190 (ht c).1 ∧ Sz 1190 (ht c).2 := by
  match c, h with
  | none, _ => exact ⟨Sz.mono (n := 20) (by unfold Sz; decide) (by decide), Sz.mono (n := 20) (by unfold Sz; decide) (by decide)⟩
  | some 0, _ => exact ⟨Sz.mono (n := 20) (by unfold Sz; decide) (by decide), Sz.mono (n := 20) (by unfold Sz; decide) (by decide)⟩
  | some (n + 1), h =>
    have := h _ rfl
    exact ⟨Sz.mono (n := 20) (by unfold Sz; show (1 : Int).natAbs < 2 ^ 20; decide) (by decide), sz_pow3 n 1190 (by omega)⟩
theorem px_sz6 {c : Option Nat} {z : Int} (h : ∀ k, c = some k → k ≤ 580) (hz : z.natAbs ≤ 15) : Sz 1500 (px z c).1 := by
  obtain ⟨h1, h2⟩ := ht_sz6 h
  have e : Sz 20 (4 * z) := by unfold Sz; omega
  exact ((Sz.mul e h2).mono (m := 1300) (by decide) |>.add (h1.mono (by decide))).mono (by decide)
/-- what stand_of tells of a stand's point -/
theorem stand_back {K : PySem.W.Frag} {H : Hp} {CP CG CT x : Addr} {n : Nat} {v : V} {z : Int} {c1 c2 : Option Nat} {v1 v2 : V} {Q : VK} (hp : ProgAt CP H x n) (hsq : Seq K H v [v1, v2]) (n1 : NumV K H v1 (px z c1)) (n2 : NumV K H v2 (ht c2)) (z0 : 0 ≤ z) (z1 : z < n) (hn : n ≤ 15)
    (b1 : ∀ k, c1 = some k → k ≤ 580) (b2 : ∀ k, c2 = some k → k ≤ 580) (q : ∀ t H', Same H H' → H' t = some (.tup [.int z, cv c1, cv c2]) → Q (.ref t) H') : spStandOf K CP CG CT [.ref x, v] H Q E0 := by
  have e1 : (px z c1).1 / (px z c1).2 / 4 = z := px_line z c1
  refine ⟨.ref x, v, rfl, .inr ⟨x, n, rfl, hp, .inr ⟨v1, v2, (px z c1).1, (px z c1).2, (ht c2).1, (ht c2).2, hsq, n1, px_rd z c1, n2, ht_rd c2, px_sz6 b1 (by omega), (ht_sz6 b1).2, (ht_sz6 b2).1.mono (by decide), (ht_sz6 b2).2, fun hno => ?_, fun d1 d2 t' H' j0 j1 j2 j3 s' e' => ?_⟩⟩⟩
  · rw [e1] at hno
    exact absurd ⟨z0, z1, ⟨c1, (px_rest z c1).symm⟩, ⟨c2, rfl⟩⟩ hno
  · rw [e1] at j2 e'
    have k1 : d1 = c1 := ht_inj (j2.trans (px_rest z c1))
    have k2 : d2 = c2 := ht_inj j3
    rw [k1, k2] at e'
    exact q t' H' s' e'
/-- what point_of tells of a stand -/
theorem point_there {K : PySem.W.Frag} {H : Hp} {CP CG CS CM x : Addr} {n : Nat} {v : V} {z : Int} {c1 c2 : Option Nat} {Q : VK} (hp : ProgAt CP H x n) (hsq : Seq K H v [.int z, cv c1, cv c2]) (z0 : 0 ≤ z) (z1 : z < n) (hn : n ≤ 15)
    (b1 : ∀ k, c1 = some k → k ≤ 200) (b2 : ∀ k, c2 = some k → k ≤ 200) (q : ∀ t H', Same H H' → Dp K H' (.ref t) (ptD (px z c1) (ht c2)) → Q (.ref t) H') : spPointOf K CP CG CS CM [.ref x, v] H Q E0 :=
  ⟨.ref x, v, rfl, .inr ⟨x, n, rfl, hp, .inr (.inl ⟨z, c1, c2, hsq, z0, z1, hn, b1, b2, fun t H' v1 v2 s ht n1 n2 => q t H' s (.tup ht (.cons n1.dp (.cons n2.dp .nil)))⟩)⟩⟩
mutual
theorem Dp.same {K : PySem.W.Frag} {H H' : Hp} (s : Same H H') : ∀ {v : V} {d : PyData}, Dp K H v d → Dp K H' v d
  | _, _, .non => .non
  | _, _, .bl b => .bl b
  | _, _, .int i => .int i
  | _, _, .str x => .str x
  | _, _, .lst h hs => .lst (s.seq h) (DpAll.same s hs)
  | _, _, .tup h hs => .tup (sqT_same s h) (DpAll.same s hs)
theorem DpAll.same {K : PySem.W.Frag} {H H' : Hp} (s : Same H H') : ∀ {vs : List V} {ds : List PyData}, DpAll K H vs ds → DpAll K H' vs ds
  | _, _, .nil => .nil
  | _, _, .cons h hs => .cons (Dp.same s h) (DpAll.same s hs)
end
/-- the lines of this turn -/
structure Lq (K : PySem.W.Frag) (H : Hp) (q l : Addr) (ls : List V) : Prop where
  hl : H l = some (.lst ls)
  ne : l ≠ q
  l1 : 1 ≤ ls.length
  l2 : ls.length ≤ 15
  hls : ∀ v ∈ ls, LnAt K H ls.length v
theorem Lq.kp {K : PySem.W.Frag} {H H' : Hp} {q l : Addr} {ls : List V} (L : Lq K H q l ls) (k : Kp q H H') : Lq K H' q l ls := ⟨k.lst L.ne L.hl, L.ne, L.l1, L.l2, fun v hv => k.ln (L.hls v hv)⟩
theorem Lq.same {K : PySem.W.Frag} {H H' : Hp} {q l : Addr} {ls : List V} (L : Lq K H q l ls) (s : Same H H') : Lq K H' q l ls := ⟨s _ _ L.hl, L.ne, L.l1, L.l2, fun v hv => (L.hls v hv).same s⟩
/-- the points met this turn: each text with the stand it was met at -/
def Met1 (H : Hp) (d : Addr) (kvs : List (Key × V)) : Prop := H d = some (.dK kvs) ∧ ∀ (key : Str) (v : V), valV kvs (.inr key) = some v → ∃ (z : Int) (c1 c2 : Option Nat) (st : Addr), v = .ref st ∧ H st = some (.tup [.int z, cv c1, cv c2]) ∧ key = (ptD (px z c1) (ht c2)).shown ∧ 0 ≤ z
theorem Met1.kp {H H' : Hp} {q d : Addr} {kvs : List (Key × V)} (h : Met1 H d kvs) (k : Kp q H H') : Met1 H' d kvs := by
  obtain ⟨h1, h2⟩ := h
  obtain ⟨ys, hq⟩ := k.l0
  refine ⟨k.s _ _ (fun e => by rw [e, hq] at h1; cases h1) h1, fun key v hv => ?_⟩
  obtain ⟨z, c1, c2, st, e, a, b, c⟩ := h2 key v hv
  exact ⟨z, c1, c2, st, e, k.tup a, b, c⟩
theorem Met1.same {H H' : Hp} {d : Addr} {kvs : List (Key × V)} (h : Met1 H d kvs) (s : Same H H') : Met1 H' d kvs := by
  obtain ⟨h1, h2⟩ := h
  refine ⟨s _ _ h1, fun key v hv => ?_⟩
  obtain ⟨z, c1, c2, st, e, a, b, c⟩ := h2 key v hv
  exact ⟨z, c1, c2, st, e, s _ _ a, b, c⟩
/-- all stays but the dicts -/
def Dk (H H' : Hp) : Prop := ∀ b o, H b = some o → (∀ kvs, o ≠ .dK kvs) → H' b = some o
theorem dk_put {H : Hp} {d : Addr} {kvs kvs' : List (Key × V)} (h : H d = some (.dK kvs)) : Dk H (upd H d (.dK kvs')) := fun b o e n => by
  rw [upd_ne (fun z => by rw [z, h] at e; cases e; exact n _ rfl)]
  exact e
theorem sqT_dk {K : PySem.W.Frag} {H H' : Hp} {a : Addr} {xs : List V} (k : Dk H H') (h : SqT K H a xs) : SqT K H' a xs := by
  rcases h with (h | ⟨o, h⟩) | h
  · exact .inl (.inl (k _ _ h (fun _ z => by cases z)))
  · exact .inl (.inr ⟨o, k _ _ h (fun _ z => by cases z)⟩)
  · exact .inr h
theorem qy_dk {H H' : Hp} {q : Addr} {T : Nat} (Y : QyAt H q T) (k : Dk H H') : QyAt H' q T := by
  obtain ⟨c, cs, t, l, h, i⟩ := Y
  exact ⟨c, cs, t, l, ⟨k _ _ h.hq (fun _ z => by cases z), k _ _ h.hc (fun _ z => by cases z), h.ne, h.len, h.l0, h.t0⟩, i⟩
theorem tabs_dk {H H' : Hp} {T : List (Addr × Str)} (t : Tabs T H) (k : Dk H H') : Tabs T H' := by
  intro p hp
  obtain ⟨ps, h1, h2, h3⟩ := t p hp
  refine ⟨ps, k _ _ h1 (fun _ z => by cases z), h2, fun pos cv hc => ?_⟩
  obtain ⟨c2, e1, e2⟩ := h3 pos cv hc
  exact ⟨c2, e1, k _ _ e2 (fun _ z => by unfold CodeO at z; cases z)⟩
theorem lq_dk {K : PySem.W.Frag} {H H' : Hp} {q l : Addr} {ls : List V} (L : Lq K H q l ls) (k : Dk H H') : Lq K H' q l ls :=
  ⟨k _ _ L.hl (fun _ z => by cases z), L.ne, L.l1, L.l2, fun v hv => by
    obtain ⟨a, xs, e, h1, h2⟩ := L.hls v hv
    exact ⟨a, xs, e, sqT_dk k h1, h2⟩⟩
theorem prog_dk {CP : Addr} {H H' : Hp} {a : Addr} {n : Nat} (h : ProgAt CP H a n) (k : Dk H H') : ProgAt CP H' a n := by
  obtain ⟨dx, lt, xs, h1, h2, h3⟩ := h
  exact ⟨dx, lt, xs, k _ _ h1 (fun _ z => by cases z), k _ _ h2 (fun _ z => by cases z), h3⟩
theorem ne_false {X : Str} : V.bl (!decide (V.str X = V.str X)) = V.bl false := by simp
section
variable {P : Program} {w : World} {K : PySem.W.Frag} {mg : Str → Option Value} {base : Heap} {CP CT CG CS CM CI : Addr}
theorem law_body {PT f : Addr} {cdv : Value} {outer : List Env} {s : Shared} {H : Hp} {Q : VK} {E : XK} {a : Addr} {ns : List Int} (B : Bz mg)
    (H_Program : HasC P w K mg base 4 "Program" CP p_Program_init (spProg K CP)) (H_law_quarry : Has P w K mg base CX0 1 "_law_quarry" p_law_quarry (spQuarry K)) (H_law_lines : Has P w K mg base CX0 4 "_law_lines" p_law_lines (spLines K))
    (H_law_far_stand : Has P w K mg base CX0 4 "_law_far_stand" p_law_far_stand spFar) (H_law_point : Has P w K mg base CX0 3 "_law_point" p_law_point (spPointIn K)) (H_law_pick : Has P w K mg base CX0 2 "_law_pick" p_law_pick spPick)
    (H_law_others_right : Has P w K mg base CX0 7 "_law_others_right" p_law_others_right (spOthers K)) (H_law_refused_right : Has P w K mg base CX0 9 "_law_refused_right" p_law_refused_right (spRefused K PT))
    (H_point_of : HasF P w K mg base (L2.CX P w) 5 "point_of" s_point_of p_point_of (spPointOf K CP CG CS CM)) (H_stand_of : HasF P w K mg base (L2.CX P w) 6 "stand_of" s_stand_of p_stand_of (spStandOf K CP CG CT))
    (hr : Room 9 (callerA.deeper (envOfC "law" (defScope s_law) s.heap.objs.size f cdv))) (hs : SqL K H a (ns.map V.int)) (hT : Tabs [(PT, qRR)] H) (q : ∀ H', Q (.bl true) H') :
    ∃ t, PSs (cxOf CX0 P w K mg base n_law "law" (defScope s_law) f cdv callerA outer s H E).nox (defBody s_law) t ∧ t { nx := fun _ H' => Q .non H', rt := Q } (start n_law [.ref a]) H := by
  have hgd : (cxOf CX0 P w K mg base n_law "law" (defScope s_law) f cdv callerA outer s H E).nox.A.guards = some [] := rfl
  have hu1 : (cxOf CX0 P w K mg base n_law "law" (defScope s_law) f cdv callerA outer s H E).nox.A.units + 1 < cLine := Nat.lt_of_le_of_lt (Nat.add_le_add_left (by decide : 1 ≤ 64) _) hr.units
  refine ⟨_, (pss_cons (ps_set (i := 1) sc_law.nd rfl (Or.inl rfl) (pe_h H_law_quarry (hr.mono (by decide)) pass0 (pa_cons (pv 0) pa_nil)))
      (pss_cons (ps_for PassesOwn.never rfl (pi_range1 rfl B.range (pa_cons pe_int pa_nil)) (pg_name (i := 2) sc_law.nd rfl (.inl rfl))
      (pss_cons (ps_par (i := 3) (j := 4) (by rfl) sc_law.nd rfl rfl (by decide) rfl rfl (pa_cons (pe_h H_law_lines (hr.mono (by decide)) pass0 (pa_cons (pv 1) (pa_cons pe_int pa_nil))) (pa_cons pe_dnewK pa_nil)) (by rfl))
        (pss_cons (ps_set (i := 5) sc_law.nd rfl (Or.inl rfl) (pe_hc H_Program (hr.mono (by decide)) (pa_cons (pv 3) pa_nil)))
        (pss_cons (ps_for PassesOwn.never rfl (pi_range1 rfl B.range (pa_cons pe_int pa_nil)) (pg_name (i := 6) sc_law.nd rfl (.inl rfl))
        (pss_cons (ps_set (i := 7) sc_law.nd rfl (Or.inl rfl) (pe_h H_law_far_stand (hr.mono (by decide)) pass0 (pa_cons (pv 1) (pa_cons (pv 3) pa_nil))))
          (pss_cons (ps_set (i := 8) sc_law.nd rfl (Or.inl rfl) (pe_h H_law_point (hr.mono (by decide)) pass0 (pa_cons (pv 7) pa_nil)))
          (pss_cons (ps_if (pt_cmpR op_ne (pe_callB (call_reprD hgd hr.units) (by rfl) B.repr (by decide +kernel) (pa_cons (pe_lst (pa_cons (pe_h H_point_of.has (hr.mono (by decide)) passX0 (pa_cons (pv 5) (pa_cons (pv 7) pa_nil))) (pa_cons (pe_hk0 H_point_of (hr.mono (by decide)) (by rfl) kb_point passX0 (pk_cons (pe_callTy call_list_of (by rfl) B.list (by decide +kernel) (pa_cons (pv 7) pa_nil)) (pk_cons (pv 5) pk_nil))) pa_nil))) pa_nil)) (pe_callB (call_reprD hgd hr.units) (by rfl) B.repr (by decide +kernel) (pa_cons (pe_lst (pa_cons (pv 8) (pa_cons (pv 8) pa_nil))) pa_nil)) (nomark _))
          (pss_one (ps_ret pe_bl))
          pss_nil)
          (pss_cons (ps_if (pt_cmpR op_ne (pe_callB (call_reprD hgd hr.units) (by rfl) B.repr (by decide +kernel) (pa_cons (pe_lst (pa_cons (pe_h H_stand_of.has (hr.mono (by decide)) passX0 (pa_cons (pv 5) (pa_cons (pv 8) pa_nil))) (pa_cons (pe_hk0 H_stand_of (hr.mono (by decide)) (by rfl) kb_stand passX0 (pk_cons (pe_callTy call_list_of (by rfl) B.list (by decide +kernel) (pa_cons (pv 8) pa_nil)) (pk_cons (pv 5) pk_nil))) pa_nil))) pa_nil)) (pe_callB (call_reprD hgd hr.units) (by rfl) B.repr (by decide +kernel) (pa_cons (pe_lst (pa_cons (pv 7) (pa_cons (pv 7) pa_nil))) pa_nil)) (nomark _))
          (pss_one (ps_ret pe_bl))
          pss_nil)
          (pss_cons (ps_if (PW.pt (pw_or (pt_cmpR (op_neD hr.units) (pe_dget2 hu1 (pv 4) (pe_callB (call_reprD hgd hr.units) (by rfl) B.repr (by decide +kernel) (pa_cons (pv 8) pa_nil)) (pv 7) ⟨by rfl, by rfl, by rfl, by rfl⟩) (pv 7) (nomark _)) (pw_or1 (pt_not (pt_val (pe_h H_law_others_right (hr.mono (by decide)) pass0 (pa_cons (pv 1) (pa_cons (pv 3) (pa_cons (pv 7) pa_nil)))))))))
          (pss_one (ps_ret pe_bl))
          pss_nil)
          (pss_one (ps_dput hu1 (pv 4) (pe_callB (call_reprD hgd hr.units) (by rfl) B.repr (by decide +kernel) (pa_cons (pv 8) pa_nil)) (pv 7) rfl))))))))
        (pss_cons (ps_if (pt_not (pt_val (pe_h H_law_refused_right (hr.mono (by decide)) pass0 (pa_cons (pv 1) (pa_cons (pv 3) (pa_cons (pv 7) pa_nil))))))
        (pss_one (ps_ret pe_bl))
        pss_nil)
        (pss_cons (ps_set (i := 9) sc_law.nd rfl (Or.inl rfl) (pe_tup (pa_cons (pe_ix ix_tup (pv 7) pe_int (fun _ _ => rfl)) (pa_cons (pe_h H_law_pick (hr.mono (by decide)) pass0 (pa_cons (pv 1) (pa_cons (pe_lst (pa_cons pe_int (pa_cons pe_int (pa_cons pe_int (pa_cons pe_non pa_nil))))) pa_nil))) (pa_cons (pe_h H_law_pick (hr.mono (by decide)) pass0 (pa_cons (pv 1) (pa_cons (pe_lst (pa_cons pe_int (pa_cons pe_int (pa_cons pe_int pa_nil)))) pa_nil))) pa_nil)))))
        (pss_one (ps_if (pt_cmpR op_ne (pe_callB (call_reprD hgd hr.units) (by rfl) B.repr (by decide +kernel) (pa_cons (pe_h H_stand_of.has (hr.mono (by decide)) passX0 (pa_cons (pv 5) (pa_cons (pe_h H_law_point (hr.mono (by decide)) pass0 (pa_cons (pv 9) pa_nil)) pa_nil))) pa_nil)) (pe_callB (call_reprD hgd hr.units) (by rfl) B.repr (by decide +kernel) (pa_cons (pv 9) pa_nil)) (nomark _))
        (pss_one (ps_ret pe_bl))
        pss_nil))))))))
      (pss_one (ps_ret pe_bl)))), ?_⟩
  refine ⟨_, rfl, a, ns, rfl, hs, fun qa H0 s0 nq Y0 => ?_⟩
  have T0 := hT.ext s0
  refine ⟨3, rfl, by decide, by decide, ?_⟩
  refine for_range (lo := 0) (n := (3 : Int).toNat) (fun i σ H' => (∃ x2 x3 x4 x5 x6 x7 x8 x9 : Option V, σ = [some (.ref a), some (.ref qa), x2, x3, x4, x5, x6, x7, x8, x9]) ∧ QyAt H' qa (115 * i) ∧ Tabs [(PT, qRR)] H') ⟨⟨_, _, _, _, _, _, _, _, rfl⟩, Y0, T0⟩ ?_ ?_
  case refine_2 =>
    rintro σ H' ⟨⟨x2, x3, x4, x5, x6, x7, x8, x9, rfl⟩, _, _⟩
    exact q H'
  rintro i σ H1 hi ⟨⟨x2, x3, x4, x5, x6, x7, x8, x9, rfl⟩, Y1, T1⟩
  have hi3 : i < 3 := hi
  -- the lines, the dict, the program
  refine ⟨_, rfl, qa, 115 * i, rfl, by omega, Y1, fun l ls H2 k2 Y2 hl2 hne hl1 hl15 hls => ?_⟩
  intro dct nd
  have sd := same_upd (o := .dK []) nd
  refine ⟨_, _, rfl, ?_⟩
  have Lq2 : Lq K H2 qa l ls := ⟨hl2, hne, hl1, hl15, hls⟩
  have Lq3 := Lq2.same sd
  have Y3 := Y2.same sd
  have T3 := (tabs_kp T1 k2).ext sd
  have M3 : Met1 (upd H2 dct (.dK [])) dct [] := ⟨upd_same, fun key v hv => by cases hv⟩
  refine ⟨_, rfl, mk_prog (.of Lq3.hl) Lq3.l1 Lq3.l2 Lq3.hls fun x H4 s4 hp4 => ?_⟩
  have Lq4 := Lq3.same s4
  have Y4 := Y3.same s4
  have T4 := T3.ext s4
  have M4 := M3.same s4
  refine ⟨4, rfl, by decide, by decide, ?_⟩
  refine for_range (lo := 0) (n := (4 : Int).toNat) (fun j σ H' => ∃ (y2 x6 x7 x8 x9 : Option V) (kvs : List (Key × V)), σ = [some (.ref a), some (.ref qa), y2, some (.ref l), some (.ref dct), some (.ref x), x6, x7, x8, x9] ∧ QyAt H' qa (115 * i + 61 + 12 * j) ∧ Tabs [(PT, qRR)] H' ∧ Lq K H' qa l ls ∧ ProgAt CP H' x ls.length ∧ Met1 H' dct kvs ∧ kvs.length ≤ j ∧
    (0 < j → ∃ (st : Addr) (z : Int) (c1 c2 : Option Nat), x7 = some (.ref st) ∧ Ls K H' qa l st ls z c1 c2)) ⟨_, _, _, _, _, [], rfl, Y4, T4, Lq4, hp4, M4, Nat.le_refl _, fun z => absurd z (by decide)⟩ ?_ ?_
  · rintro j σ H5 hj ⟨y2, x6, x7, x8, x9, kvs, rfl, Y5, T5, Lq5, hp5, M5, hk5, _⟩
    have hj4 : j < 4 := hj
    have hl15 := Lq5.l2
    refine ⟨_, rfl, _, rfl, qa, l, ls, 115 * i + 61 + 12 * j, rfl, Lq5.hl, Lq5.ne, Lq5.l1, Lq5.l2, by omega, Y5, fun st z c1 c2 H6 k6 Y6 hst6 z0 z1 b1 b2 => ?_⟩
    refine ⟨_, rfl, st, z, c1, c2, rfl, .of hst6, z0, by omega, cb_of b1, cb_of b2, fun t v1 v2 H7 s7 ht7 n1 n2 => ?_⟩
    have T7 := (tabs_kp T5 k6).ext s7
    have Lq7 := (Lq5.kp k6).same s7
    have hp7 := (k6.prog hp5).same s7
    have M7 := (M5.kp k6).same s7
    have Y7 := Y6.same s7
    have hst7 := s7 _ _ hst6
    have gp : Gd (ptD (px z c1) (ht c2)) 2 6012 := .point z0 (by omega) b1 b2
    have gs : Gd (sD z c1 c2) 1 4506 := .stand z0 (by omega) (fun k e => by have := b1 k e; omega) (fun k e => by have := b2 k e; omega)
    have due7 : Dp K H7 (.ref t) (ptD (px z c1) (ht c2)) := .tup (.of ht7) (.cons n1.dp (.cons n2.dp .nil))
    clear k6 hst6 Y6 T5 Lq5 hp5 M5 Y5 s7
    -- point_of leads there
    refine ⟨_, rfl, _, rfl, ?_⟩
    dsimp only [tNil]
    refine point_there hp7 ⟨st, rfl, .inr (.of hst7)⟩ z0 z1 hl15 b1 b2 fun ta H8 s8 da => ?_
    refine ⟨_, rfl, st, _, rfl, .inr (.of (s8 _ _ hst7)), fun w2 m2 => ⟨_, rfl, ?_⟩⟩
    have s9 := same_upd (o := .lst [.int z, cv c1, cv c2]) m2
    dsimp only [tNil, kwV]
    refine point_there ((hp7.same s8).same s9) ⟨w2, rfl, .inl (.of upd_same)⟩ z0 z1 hl15 b1 b2 fun tb H10 s10 db => ?_
    refine ⟨by show 2 ≤ sizeLine; decide, fun p1 m1 => ?_⟩
    have s11 := same_upd (o := .lst [.ref ta, .ref tb]) m1
    refine ⟨p1, .list [ptD (px z c1) (ht c2), ptD (px z c1) (ht c2)], 3, 12028, rfl, .lst (.of upd_same) (.cons (Dp.same ((s9.trans s10).trans s11) da) (.cons (Dp.same s11 db) .nil)), gp.lst2 gp, by decide, by decide, ?_⟩
    have s7b := s8.trans ((s9.trans s10).trans s11)
    refine ⟨_, rfl, _, rfl, by show 2 ≤ sizeLine; decide, fun p2 mm2 => ?_⟩
    have s12 := same_upd (o := .lst [.ref t, .ref t]) mm2
    refine ⟨p2, .list [ptD (px z c1) (ht c2), ptD (px z c1) (ht c2)], 3, 12028, rfl, .lst (.of upd_same) (.cons (Dp.same (s7b.trans s12) due7) (.cons (Dp.same (s7b.trans s12) due7) .nil)), gp.lst2 gp, by decide, by decide, rfl, false, ne_false, iteF ?_⟩
    have sA := s7b.trans s12
    have T8 := T7.ext sA
    have Lq8 := Lq7.same sA
    have hp8 := hp7.same sA
    have M8 := M7.same sA
    have Y8 := Y7.same sA
    have hst8 := sA _ _ hst7
    have ht8 := sA _ _ ht7
    have due8 := Dp.same sA due7
    have n18 := n1.same sA
    have n28 := n2.same sA
    show tSeq _ _ _ _ (upd (upd H10 p1 (.lst [.ref ta, .ref tb])) p2 (.lst [.ref t, .ref t]))
    generalize upd (upd H10 p1 (.lst [.ref ta, .ref tb])) p2 (.lst [.ref t, .ref t]) = G0 at T8 Lq8 hp8 M8 Y8 hst8 ht8 due8 n18 n28
    clear sA s12 s7b s11 s10 s9 s8 da db T7 Lq7 hp7 M7 Y7 hst7 ht7 due7 n1 n2
    have c1' : ∀ k, c1 = some k → k ≤ 580 := fun k e => by have := b1 k e; omega
    have c2' : ∀ k, c2 = some k → k ≤ 580 := fun k e => by have := b2 k e; omega
    -- stand_of leads back
    refine ⟨_, rfl, _, rfl, ?_⟩
    dsimp only [tNil]
    refine stand_back hp8 ⟨t, rfl, .inr (.of ht8)⟩ n18 n28 z0 z1 hl15 c1' c2' fun ta H8 s8 hta => ?_
    refine ⟨_, rfl, t, _, rfl, .inr (.of (s8 _ _ ht8)), fun w2 m2 => ⟨_, rfl, ?_⟩⟩
    have s9 := same_upd (o := .lst [v1, v2]) m2
    dsimp only [tNil, kwV]
    refine stand_back ((hp8.same s8).same s9) ⟨w2, rfl, .inl (.of upd_same)⟩ (n18.same (s8.trans s9)) (n28.same (s8.trans s9)) z0 z1 hl15 c1' c2' fun tb H10 s10 htb => ?_
    refine ⟨by show 2 ≤ sizeLine; decide, fun p1 m1 => ?_⟩
    have s11 := same_upd (o := .lst [.ref ta, .ref tb]) m1
    refine ⟨p1, .list [sD z c1 c2, sD z c1 c2], 2, 9016, rfl, .lst (.of upd_same) (.cons (stand_dp (.of (((s9.trans s10).trans s11) _ _ hta))) (.cons (stand_dp (.of (s11 _ _ htb))) .nil)), gs.lst2 gs, by decide, by decide, ?_⟩
    have s7b := s8.trans ((s9.trans s10).trans s11)
    refine ⟨_, rfl, _, rfl, by show 2 ≤ sizeLine; decide, fun p2 mm2 => ?_⟩
    have s12 := same_upd (o := .lst [.ref st, .ref st]) mm2
    have hstE := (s7b.trans s12) _ _ hst8
    refine ⟨p2, .list [sD z c1 c2, sD z c1 c2], 2, 9016, rfl, .lst (.of upd_same) (.cons (stand_dp (.of hstE)) (.cons (stand_dp (.of hstE)) .nil)), gs.lst2 gs, by decide, by decide, rfl, false, ne_false, iteF ?_⟩
    have sA := s7b.trans s12
    have T9 := T8.ext sA
    have Lq9 := Lq8.same sA
    have hp9 := hp8.same sA
    have M9 := M8.same sA
    have Y9 := Y8.same sA
    have due9 := Dp.same sA due8
    have ht9 := sA _ _ ht8
    have n19 := n18.same sA
    have n29 := n28.same sA
    show tSeq _ _ _ _ (upd (upd H10 p1 (.lst [.ref ta, .ref tb])) p2 (.lst [.ref st, .ref st]))
    generalize upd (upd H10 p1 (.lst [.ref ta, .ref tb])) p2 (.lst [.ref st, .ref st]) = G1 at T9 Lq9 hp9 M9 Y9 due9 hstE ht9 n19 n29
    clear sA s12 s7b s11 s10 s9 s8 hta htb T8 Lq8 hp8 M8 Y8 hst8 ht8 due8 n18 n28
    -- no two stands share a point
    refine ⟨_, rfl, dct, rfl, .inl ⟨kvs, .of M9.1⟩, _, rfl, t, ptD (px z c1) (ht c2), 2, 6012, rfl, due9, gp, by decide, by decide, _, rfl, valV kvs (.inr (ptD (px z c1) (ht c2)).shown), DGet.k (k := .inr (ptD (px z c1) (ht c2)).shown) M9.1, ?_⟩
    have hget : ∃ st', (valV kvs (.inr (ptD (px z c1) (ht c2)).shown)).getD (.ref st) = .ref st' ∧ SqT K G1 st' [.int z, cv c1, cv c2] := by
      cases hv : valV kvs (.inr (ptD (px z c1) (ht c2)).shown) with
      | none => exact ⟨st, rfl, .of hstE⟩
      | some v =>
        obtain ⟨z', d1, d2, st', rfl, h', ek, z0'⟩ := M9.2 _ v hv
        obtain ⟨e1, e2⟩ := ptD_inj' (px_nn z0 c1) (ht_nn c2) (px_nn z0' d1) (ht_nn d2) ek
        obtain ⟨rfl, rfl⟩ := px_inj e1
        have := ht_inj e2
        subst this
        exact ⟨st', rfl, .of h'⟩
    obtain ⟨st', e', hst'⟩ := hget
    refine ⟨_, rfl, sD z c1 c2, sD z c1 c2, by rw [e']; exact stand_dp hst', stand_dp (.of hstE), gs.shaped (by decide), gs.shaped (by decide), false, by rw [sD_eqv]; rfl, iteF ?_⟩
    have L9 : Ls K G1 qa l st ls z c1 c2 := ⟨Lq9.hl, Lq9.ne, Lq9.l1, Lq9.l2, Lq9.hls, hstE, z0, z1, b1, b2⟩
    refine ⟨_, rfl, _, rfl, _, rfl, qa, l, st, ls, z, c1, c2, 115 * i + 61 + 12 * j + 10, rfl, L9, by omega, Y9, fun G2 g2 YG => ⟨_, rfl, iteF ?_⟩⟩
    have MG := M9.kp g2
    have LG := L9.kp g2
    -- the point is kept
    have dG : Dp K G2 (.ref t) (ptD (px z c1) (ht c2)) := .tup (.of (g2.tup ht9)) (.cons (g2.num n19).dp (.cons (g2.num n29).dp .nil))
    refine ⟨_, rfl, _, rfl, _, rfl, t, ptD (px z c1) (ht c2), 2, 6012, rfl, dG, gp, by decide, by decide, dct, _, rfl, DPut.k (k := .inr (ptD (px z c1) (ht c2)).shown) MG.1 (by rw [sizeLine_eq]; omega), ?_⟩
    have dk := dk_put (kvs' := putK kvs (.inr (ptD (px z c1) (ht c2)).shown) (.ref st)) MG.1
    refine ⟨_, _, _, _, _, putK kvs (.inr (ptD (px z c1) (ht c2)).shown) (.ref st), rfl, (qy_dk YG dk).mono (by omega), tabs_dk (tabs_kp T9 g2) dk, lq_dk (Lq9.kp g2) dk, prog_dk (g2.prog hp9) dk, ⟨upd_same, fun ky v hv => ?_⟩, by have := length_putK kvs (.inr (ptD (px z c1) (ht c2)).shown : Key) (V.ref st); omega, fun _ => ⟨st, z, c1, c2, rfl, ?_⟩⟩
    · rw [valV_put] at hv
      by_cases hk : (Sum.inr ky : Key) = .inr (ptD (px z c1) (ht c2)).shown
      · rw [if_pos hk] at hv
        cases hv
        exact ⟨z, c1, c2, st, rfl, dk _ _ LG.hs (fun _ z => by cases z), Sum.inr.inj hk, z0⟩
      · rw [if_neg hk] at hv
        obtain ⟨z', d1, d2, st2, e2, h2, ek, z0'⟩ := MG.2 ky v hv
        exact ⟨z', d1, d2, st2, e2, dk _ _ h2 (fun _ z => by cases z), ek, z0'⟩
    · have LD := lq_dk (Lq9.kp g2) dk
      exact ⟨LD.hl, LD.ne, LD.l1, LD.l2, LD.hls, dk _ _ LG.hs (fun _ z => by cases z), z0, z1, b1, b2⟩
  · rintro σ H5 ⟨y2, x6, x7, x8, x9, kvs, rfl, Y5, T5, Lq5, hp5, M5, hk5, hst⟩
    obtain ⟨st, z, c1, c2, rfl, L5⟩ := hst (by decide)
    have hl15 := L5.l2
    have z0 := L5.z0
    have z1 := L5.z1
    have Y5 : QyAt H5 qa (115 * i + 109) := Y5.mono (by show 115 * i + 61 + 12 * 4 ≤ _; omega)
    refine ⟨_, rfl, _, rfl, _, rfl, qa, l, st, ls, z, c1, c2, 115 * i + 109, rfl, L5, by omega, Y5, T5, fun H6 k6 T6 Y6 => ⟨_, rfl, iteF ?_⟩⟩
    have hst6 := k6.tup L5.hs
    have hp6 := k6.prog hp5
    refine ⟨_, rfl, st, _, 0, _, rfl, rfl, .of hst6, rfl, _, rfl, by show 4 ≤ sizeLine; decide, fun p1 m1 => ⟨qa, p1, _, 115 * i + 113, rfl, upd_same, fresh_ne m1 Y6, by show 0 < 4; decide, by show 4 ≤ 1000; decide, by omega, Y6.same (same_upd m1), fun u1 H7 hu1 k7 Y7 => ?_⟩⟩
    have kA := (Y6.kp (same_upd m1)).trans k7
    refine ⟨_, rfl, by show 3 ≤ sizeLine; decide, fun p2 m2 => ⟨qa, p2, _, 115 * i + 114, rfl, upd_same, fresh_ne m2 Y7, by show 0 < 3; decide, by show 3 ≤ 1000; decide, by omega, Y7.same (same_upd m2), fun u2 H8 hu2 k8 Y8 => ⟨by show 3 ≤ sizeLine; decide, fun tf mf => ?_⟩⟩⟩
    have kB := kA.trans ((Y7.kp (same_upd m2)).trans k8)
    have hd1 : ∃ c : Option Nat, u1 = cv c ∧ ∀ k, c = some k → k ≤ 580 := by
      simp only [List.mem_cons, List.not_mem_nil, or_false] at hu1
      rcases hu1 with rfl | rfl | rfl | rfl
      · exact ⟨some 201, rfl, fun k e => by cases e; decide⟩
      · exact ⟨some 300, rfl, fun k e => by cases e; decide⟩
      · exact ⟨some 580, rfl, fun k e => by cases e; decide⟩
      · exact ⟨none, rfl, fun k e => by cases e⟩
    have hd2 : ∃ c : Option Nat, u2 = cv c ∧ ∀ k, c = some k → k ≤ 580 := by
      simp only [List.mem_cons, List.not_mem_nil, or_false] at hu2
      rcases hu2 with rfl | rfl | rfl
      · exact ⟨some 201, rfl, fun k e => by cases e; decide⟩
      · exact ⟨some 450, rfl, fun k e => by cases e; decide⟩
      · exact ⟨some 0, rfl, fun k e => by cases e; decide⟩
    obtain ⟨d1, rfl, hd1⟩ := hd1
    obtain ⟨d2, rfl, hd2⟩ := hd2
    have sf := same_upd (o := .tup [.int z, cv d1, cv d2]) mf
    have hpF := (kB.prog hp6).same sf
    have TF1 := (tabs_kp T6 kB).ext sf
    have YF := Y8.same sf
    have gs : Gd (sD z d1 d2) 1 4506 := .stand z0 (by omega) (fun k e => by have := hd1 k e; omega) (fun k e => by have := hd2 k e; omega)
    refine ⟨_, rfl, _, rfl, tf, z, d1, d2, rfl, .of upd_same, z0, by omega, (fun k e => by have := hd1 k e; omega), (fun k e => by have := hd2 k e; omega), fun t w1 w2 H9 s9 ht9 n1 n2 => ?_⟩
    dsimp only [tNil]
    refine stand_back (hpF.same s9) ⟨t, rfl, .inr (.of ht9)⟩ n1 n2 z0 z1 hl15 hd1 hd2 fun ts H10 s10 hts => ?_
    refine ⟨ts, sD z d1 d2, 1, 4506, rfl, stand_dp (.of hts), gs, by decide, by decide, ?_⟩
    refine ⟨_, rfl, tf, sD z d1 d2, 1, 4506, rfl, stand_dp (.of (s10 _ _ (s9 _ _ upd_same))), gs, by decide, by decide, rfl, false, ne_false, iteF ?_⟩
    exact ⟨⟨_, _, _, _, _, _, _, _, rfl⟩, ((YF.same s9).same s10).mono (by omega), (TF1.ext s9).ext s10⟩
end
end TF


set_option Elab.async false
set_option linter.all false
set_option maxRecDepth 100000
set_option maxHeartbeats 4000000
namespace TF
open PySem PySem.Spec PyProof.Rows L2 LamX
/-! ### the law called by the claim's caller: its promise is asked there alone -/
/-- what is tracked at the start: the table, and the script where K does not hold it -/
def H00 (PT a : Addr) (oh : Option HO) : Hp := fun b => if b = PT then some (.tbl #[]) else if b = a then oh else none
theorem law_end {P : Program} {w : World} {K : PySem.W.Frag} {mg mb : Str → Option Value} {fa a cc PT : Addr} {s₁ : Shared} {vs : List Value} {ns : List Int}
    (kIn : K.In s₁.heap) (nsG : s₁.heap.Ns mainGlobals mg) (nsB : s₁.heap.Ns builtinsNs mb) (bltB : ∀ x : Str, x ≠ "__name__" → mb x = bootBuiltins x) (limB : s₁.heap.NoLimit) (genE : s₁.gens = #[])
    (tabE : s₁.heap.get? PT = some { cls := .none, data := .fields #[] }) (tabK : K.lookup PT = none) (hdC : PySem.W.CodeHd s₁.heap cc PT)
    (modB : ∃ (mB : Addr) (obj : Obj), mg "__builtins__" = some (.ref mB) ∧ mB ≠ builtinsNs ∧ s₁.heap.get? mB = some obj ∧ obj.cls = .type "module" ∧ obj.dict = some builtinsNs ∧ obj.data = .plain)
    (lstA : s₁.heap.get? a = some { cls := .type "list", data := .seq vs.toArray }) (intsV : IntsAre vs ns) (shortL : ns.length ≤ sizeLine)
    (runF : ∀ (base : Heap) (H : Hp), K.In base → base.Ns mainGlobals mg → TabB base mg cc PT → Env0 P w K mg base callerA [] s₁ H → H PT = some (.tbl #[]) → SqL K H a (ns.map V.int) →
      codeAny (model P w) callerA (.call (.ref fa) ⟨[.ref a], []⟩) (CR CX0 [] P w H s₁ (fun v _ => v = .bl true) E0) s₁) :
    codeAny (model P w) callerA (.call (.ref fa) ⟨[.ref a], []⟩) (fun row s' => row = .ok (.ret (.bool true)) ∧ OldK s₁.heap s'.heap ∧ s'.os = s₁.os ∧ AllBare s'.gens) s₁ := by
  have relVs := vals_ints intsV
  have lenEq := intsV.length
  have neT : a ≠ PT := fun zq => by
    rw [zq, tabE] at lstA
    have z' : Data.fields #[] = Data.seq vs.toArray _ := congrArg Obj.data (Option.some.inj lstA)
    cases z'
  have main0 : ∀ oh : Option HO, (∀ val, oh = some val → (∃ obj, val = .frz obj (.lst (ns.map V.int))) ∧ K.lookup a = none) → SqL K (H00 PT a oh) a (ns.map V.int) → HOk P w (H00 PT a oh) s₁.heap →
      codeAny (model P w) callerA (.call (.ref fa) ⟨[.ref a], []⟩) (fun row s' => row = .ok (.ret (.bool true)) ∧ OldK s₁.heap s'.heap ∧ s'.os = s₁.os ∧ AllBare s'.gens) s₁ := by
    intro oh ho hS okH
    generalize eqH : H00 PT a oh = H at hS okH
    have tabH : H PT = some (.tbl #[]) := by rw [← eqH]; exact if_pos rfl
    have only2 : ∀ b val, H b = some val → b = PT ∨ (b = a ∧ ∃ obj, val = .frz obj (.lst (ns.map V.int))) := fun b val atb => by
      rw [← eqH] at atb
      unfold H00 at atb
      by_cases h1 : b = PT
      · exact .inl h1
      · rw [if_neg h1] at atb
        by_cases h2 : b = a
        · rw [if_pos h2] at atb
          exact .inr ⟨h2, (ho val atb).1⟩
        · rw [if_neg h2] at atb
          cases atb
    have ninK : H a ≠ none → K.lookup a = none := fun n => by
      rw [← eqH] at n
      unfold H00 at n
      rw [if_neg neT, if_pos rfl] at n
      cases oh with
      | none => exact absurd rfl n
      | some val => exact (ho val rfl).2
    -- what is neither the table nor a list is not tracked
    have untr : ∀ {b : Addr} {obj : Obj}, s₁.heap.get? b = some obj → (∀ xs n, obj.data ≠ .seq xs n) → obj.data ≠ .fields #[] → H b = none := fun {b obj} atb n1 n2 => by
      cases eqq : H b with
      | none => rfl
      | some val =>
        rcases only2 b val eqq with rfl | ⟨rfl, _⟩
        · rw [tabE] at atb; cases atb; exact (n2 rfl).elim
        · rw [lstA] at atb; cases atb; exact (n1 _ _ rfl).elim
    have seen : ∀ {b : Addr} {obj : Obj}, s₁.heap.get? b = some obj → H b = none → (hidT s₁.heap H).get? b = some obj := fun atb n => hidT_get atb n
    have dictU : ∀ {b : Addr} {obj : Obj} {es : Array DictEntry} {ep : Nat}, s₁.heap.get? b = some obj → obj.data = .dict es ep → H b = none := fun {b obj es ep} atb d =>
      untr atb (fun xs n zq => by rw [d] at zq; cases zq) (fun zq => by rw [d] at zq; cases zq)
    have nsK : ∀ {b : Addr} {m : Str → Option Value}, s₁.heap.Ns b m → (hidT s₁.heap H).Ns b m := fun {b m} ⟨obj, es, ep, atb, d, row⟩ => ⟨obj, es, ep, seen atb (dictU atb d), d, row⟩
    have kHid : K.In (hidT s₁.heap H) := fun b obj atb => seen (kIn b obj atb) (by
      cases eqq : H b with
      | none => rfl
      | some val =>
        rcases only2 b val eqq with rfl | ⟨rfl, _⟩
        · rw [tabK] at atb; cases atb
        · rw [ninK (by rw [eqq]; simp)] at atb; cases atb)
    have modM : L2.Mod K mg (hidT s₁.heap H) := ⟨kHid, nsK nsG, ⟨mb, nsK nsB, bltB⟩, let ⟨mc, h1, h2⟩ := limB; ⟨mc, nsK h1, h2⟩⟩
    have tbB : TabB (hidT s₁.heap H) mg cc PT := by
      refine ⟨?_, ?_, fun zq => ?_⟩
      · obtain ⟨obj, us, file, tf, flags, tg, inF, text, tt, e1, r1, r2, r3, r4, r5, r6, r7, r8, hne⟩ := hdC
        refine ⟨obj, us, file, tf, flags, tg, inF, text, tt, seen e1 (untr e1 (fun xs n zq => ?_) fun zq => ?_), r1, r2, r3, r4, r5, r6, r7, r8, hne⟩
        · rw [r2] at zq; cases zq
        · rw [r2] at zq
          cases zq
          simp at r3
      · obtain ⟨mB, obj, m1, m2, m3, m4, m5, m6⟩ := modB
        have neG : mB ≠ mainGlobals := fun eqq => by
          obtain ⟨o2, es, ep, atb, hd, _⟩ := nsG
          rw [eqq, atb] at m3; cases m3
          rw [hd] at m6; cases m6
        have nePT : mB ≠ PT := fun eqq => by
          rw [eqq, tabE] at m3; cases m3; cases m6
        exact ⟨mB, obj, m1, m2, neG, nePT, seen m3 (untr m3 (fun xs n zq => by rw [m6] at zq; cases zq) (fun zq => by rw [m6] at zq; cases zq)), m4, m5, m6⟩
      · obtain ⟨o2, es, ep, atb, hd, _⟩ := nsG
        rw [zq, tabE] at atb; cases atb; cases hd
    have envA : Env0 P w K mg (hidT s₁.heap H) callerA [] s₁ H := ⟨rfl, modM, fun b oh atb => of_hidT atb, Nat.le_of_eq (hidT_size _ _), trivial, fun b nsB => absurd (show b ∈ ([] : List Addr) from nsB) (by simp), okH, .of_eq genE⟩
    refine codeAny_mono (runF _ H kHid (nsK nsG) tbB envA tabH hS) fun row s' got => ?_
    cases row with
    | error atb => exact (show False from got).elim
    | ok flw =>
      cases flw with
      | next => exact False.elim got
      | brk => exact False.elim got
      | cont => exact False.elim got
      | ret val =>
        obtain ⟨v, H', osE, barE, unch, hok', r', eqq⟩ := got
        have q' : v = .bl true := eqq
        subst q'
        obtain rfl : val = Value.bool true := r'
        have same0 : ∀ b obj, b ≠ PT → s₁.heap.get? b = some obj → s'.heap.get? b = some obj := fun b obj nb atb => by
          cases eqq : H b with
          | none => exact unch.keep b obj atb eqq (by intro zq; exact absurd (show b ∈ ([] : List Addr) from zq) (by simp)) (by simp)
          | some val =>
            rcases only2 b val eqq with zq | ⟨_, ob2, zq⟩
            · exact absurd zq nb
            · rw [zq] at eqq
              have z2 := unch.frzs b ob2 _ eqq
              obtain ⟨e1, _⟩ := okH b _ eqq
              obtain ⟨e2, _⟩ := hok' b _ z2
              rw [atb] at e1; cases e1
              exact e2
        obtain ⟨extra, tab2⟩ : ∃ extra : Array Value, s'.heap.get? PT = some { cls := .none, data := .fields extra } := by
          obtain ⟨extra, zq⟩ := unch.tbls PT #[] tabH
          exact ⟨_, hok' PT _ zq⟩
        refine ⟨rfl, ⟨fun b obj atb => ?_, fun b obj atb => ?_⟩, osE, barE⟩
        · by_cases nsB : b = PT
          · rw [nsB] at atb ⊢
            rw [tabE] at atb
            cases atb
            exact .inr (.inl ⟨(hdC.tab tabE).isCodeTable, rfl, #[], extra, rfl, by rw [Array.empty_append]; exact tab2⟩)
          · exact .inl (same0 b obj nsB atb)
        · by_cases nsB : b = PT
          · rw [nsB]
            exact ⟨_, tab2⟩
          · exact ⟨obj, same0 b obj nsB atb⟩
  have okTab : ∀ {oh : Option HO} {b : Addr} {val : HO}, b = PT → H00 PT a oh b = some val → ObjOk P w (H00 PT a oh) s₁.heap b val := fun {oh b val} nsB zq => by
    subst nsB
    have z' := (if_pos rfl : H00 b a oh b = _).symm.trans zq
    cases z'
    exact tabE
  cases inKa : K.lookup a with
  | some oh =>
    have atb := kIn a oh inKa
    rw [lstA] at atb
    cases atb
    refine main0 none (fun val zq => by cases zq) (.inr ⟨_, vs.toArray, _, inKa, rfl, rfl, rfl, by rw [List.size_toArray, lenEq]; exact shortL, by simpa using relVs⟩) (fun b val zq => ?_)
    by_cases nsB : b = PT
    · exact okTab nsB zq
    · unfold H00 at zq
      rw [if_neg nsB] at zq
      split at zq <;> cases zq
  | none =>
    have atHa : H00 PT a (some (.frz { cls := .type "list", data := .seq vs.toArray } (.lst (ns.map V.int)))) a = some (.frz { cls := .type "list", data := .seq vs.toArray } (.lst (ns.map V.int))) := by
      unfold H00
      rw [if_neg neT, if_pos rfl]
    refine main0 (some (.frz { cls := .type "list", data := .seq vs.toArray } (.lst (ns.map V.int)))) (fun val zq => by cases zq; exact ⟨⟨_, rfl⟩, inKa⟩) (.inl (.inr ⟨_, atHa⟩)) (fun b val zq => ?_)
    by_cases nsB : b = PT
    · exact okTab nsB zq
    · by_cases hb2 : b = a
      · rw [hb2] at zq ⊢
        rw [atHa] at zq
        cases zq
        exact ⟨lstA, by rw [List.length_map]; exact shortL, vs, _, relVs, lstA⟩
      · unfold H00 at zq
        rw [if_neg nsB, if_neg hb2] at zq
        cases zq
end TF


set_option Elab.async false
set_option linter.all false
set_option maxRecDepth 100000
set_option maxHeartbeats 4000000
namespace TF
open PySem PySem.Spec PyProof.Rows L2 LamX
/-! ### what the top has left, turned to the structures above -/
theorem bd_is_integer : ∀ (kV dc pm : Value) (an : Option Addr) (cd ct : Value) (us : List Value), us.length = p_is_integer.length → bindArgs (PySem.W.fnOf "is_integer" "is_integer" (defArgs s_is_integer) (defBody s_is_integer) (defScope s_is_integer) .none kV dc pm an cd ct) ⟨us, []⟩ = pure (p_is_integer.zip us) := fun _ _ _ _ _ _ us hl => match us, hl with | [_], _ => rfl
theorem bd_is_within : ∀ (kV dc pm : Value) (an : Option Addr) (cd ct : Value) (us : List Value), us.length = p_is_within.length → bindArgs (PySem.W.fnOf "is_within" "is_within" (defArgs s_is_within) (defBody s_is_within) (defScope s_is_within) .none kV dc pm an cd ct) ⟨us, []⟩ = pure (p_is_within.zip us) := fun _ _ _ _ _ _ us hl => match us, hl with | [_, _, _], _ => rfl
theorem bd_is_list : ∀ (kV dc pm : Value) (an : Option Addr) (cd ct : Value) (us : List Value), us.length = p_is_list.length → bindArgs (PySem.W.fnOf "is_list" "is_list" (defArgs s_is_list) (defBody s_is_list) (defScope s_is_list) .none kV dc pm an cd ct) ⟨us, []⟩ = pure (p_is_list.zip us) := fun _ _ _ _ _ _ us hl => match us, hl with | [_], _ => rfl
theorem bd_halves : ∀ (kV dc pm : Value) (an : Option Addr) (cd ct : Value) (us : List Value), us.length = p_halves.length → bindArgs (PySem.W.fnOf "halves" "halves" (defArgs s_halves) (defBody s_halves) (defScope s_halves) .none kV dc pm an cd ct) ⟨us, []⟩ = pure (p_halves.zip us) := fun _ _ _ _ _ _ us hl => match us, hl with | [_], _ => rfl
theorem bd_common : ∀ (kV dc pm : Value) (an : Option Addr) (cd ct : Value) (us : List Value), us.length = p_common.length → bindArgs (PySem.W.fnOf "common" "common" (defArgs s_common) (defBody s_common) (defScope s_common) .none kV dc pm an cd ct) ⟨us, []⟩ = pure (p_common.zip us) := fun _ _ _ _ _ _ us hl => match us, hl with | [_, _], _ => rfl
theorem bd_lowest_in : ∀ (kV dc pm : Value) (an : Option Addr) (cd ct : Value) (us : List Value), us.length = p_lowest_in.length → bindArgs (PySem.W.fnOf "lowest_in" "lowest_in" (defArgs s_lowest_in) (defBody s_lowest_in) (defScope s_lowest_in) .none kV dc pm an cd ct) ⟨us, []⟩ = pure (p_lowest_in.zip us) := fun _ _ _ _ _ _ us hl => match us, hl with | [_, _], _ => rfl
theorem bd_plus_in : ∀ (kV dc pm : Value) (an : Option Addr) (cd ct : Value) (us : List Value), us.length = p_plus_in.length → bindArgs (PySem.W.fnOf "plus_in" "plus_in" (defArgs s_plus_in) (defBody s_plus_in) (defScope s_plus_in) .none kV dc pm an cd ct) ⟨us, []⟩ = pure (p_plus_in.zip us) := fun _ _ _ _ _ _ us hl => match us, hl with | [_, _], _ => rfl
theorem bd_times_in : ∀ (kV dc pm : Value) (an : Option Addr) (cd ct : Value) (us : List Value), us.length = p_times_in.length → bindArgs (PySem.W.fnOf "times_in" "times_in" (defArgs s_times_in) (defBody s_times_in) (defScope s_times_in) .none kV dc pm an cd ct) ⟨us, []⟩ = pure (p_times_in.zip us) := fun _ _ _ _ _ _ us hl => match us, hl with | [_, _], _ => rfl
theorem bd_minus_in : ∀ (kV dc pm : Value) (an : Option Addr) (cd ct : Value) (us : List Value), us.length = p_minus_in.length → bindArgs (PySem.W.fnOf "minus_in" "minus_in" (defArgs s_minus_in) (defBody s_minus_in) (defScope s_minus_in) .none kV dc pm an cd ct) ⟨us, []⟩ = pure (p_minus_in.zip us) := fun _ _ _ _ _ _ us hl => match us, hl with | [_, _], _ => rfl
theorem bd_below_in : ∀ (kV dc pm : Value) (an : Option Addr) (cd ct : Value) (us : List Value), us.length = p_below_in.length → bindArgs (PySem.W.fnOf "below_in" "below_in" (defArgs s_below_in) (defBody s_below_in) (defScope s_below_in) .none kV dc pm an cd ct) ⟨us, []⟩ = pure (p_below_in.zip us) := fun _ _ _ _ _ _ us hl => match us, hl with | [_, _], _ => rfl
theorem bd_whole_in : ∀ (kV dc pm : Value) (an : Option Addr) (cd ct : Value) (us : List Value), us.length = p_whole_in.length → bindArgs (PySem.W.fnOf "whole_in" "whole_in" (defArgs s_whole_in) (defBody s_whole_in) (defScope s_whole_in) .none kV dc pm an cd ct) ⟨us, []⟩ = pure (p_whole_in.zip us) := fun _ _ _ _ _ _ us hl => match us, hl with | [_], _ => rfl
theorem bd_is_number : ∀ (kV dc pm : Value) (an : Option Addr) (cd ct : Value) (us : List Value), us.length = p_is_number.length → bindArgs (PySem.W.fnOf "is_number" "is_number" (defArgs s_is_number) (defBody s_is_number) (defScope s_is_number) .none kV dc pm an cd ct) ⟨us, []⟩ = pure (p_is_number.zip us) := fun _ _ _ _ _ _ us hl => match us, hl with | [_], _ => rfl
theorem bd_kept_number : ∀ (kV dc pm : Value) (an : Option Addr) (cd ct : Value) (us : List Value), us.length = p_kept_number.length → bindArgs (PySem.W.fnOf "kept_number" "kept_number" (defArgs s_kept_number) (defBody s_kept_number) (defScope s_kept_number) .none kV dc pm an cd ct) ⟨us, []⟩ = pure (p_kept_number.zip us) := fun _ _ _ _ _ _ us hl => match us, hl with | [_], _ => rfl
theorem bd_is_line : ∀ (kV dc pm : Value) (an : Option Addr) (cd ct : Value) (us : List Value), us.length = p_is_line.length → bindArgs (PySem.W.fnOf "is_line" "is_line" (defArgs s_is_line) (defBody s_is_line) (defScope s_is_line) .none kV dc pm an cd ct) ⟨us, []⟩ = pure (p_is_line.zip us) := fun _ _ _ _ _ _ us hl => match us, hl with | [_, _], _ => rfl
theorem bd_is_contents : ∀ (kV dc pm : Value) (an : Option Addr) (cd ct : Value) (us : List Value), us.length = p_is_contents.length → bindArgs (PySem.W.fnOf "is_contents" "is_contents" (defArgs s_is_contents) (defBody s_is_contents) (defScope s_is_contents) .none kV dc pm an cd ct) ⟨us, []⟩ = pure (p_is_contents.zip us) := fun _ _ _ _ _ _ us hl => match us, hl with | [_], _ => rfl
theorem bd_need_stand : ∀ (kV dc pm : Value) (an : Option Addr) (cd ct : Value) (us : List Value), us.length = p_need_stand.length → bindArgs (PySem.W.fnOf "need_stand" "need_stand" (defArgs s_need_stand) (defBody s_need_stand) (defScope s_need_stand) .none kV dc pm an cd ct) ⟨us, []⟩ = pure (p_need_stand.zip us) := fun _ _ _ _ _ _ us hl => match us, hl with | [_, _], _ => rfl
theorem bd_height_in : ∀ (kV dc pm : Value) (an : Option Addr) (cd ct : Value) (us : List Value), us.length = p_height_in.length → bindArgs (PySem.W.fnOf "height_in" "height_in" (defArgs s_height_in) (defBody s_height_in) (defScope s_height_in) .none kV dc pm an cd ct) ⟨us, []⟩ = pure (p_height_in.zip us) := fun _ _ _ _ _ _ us hl => match us, hl with | [_], _ => rfl
theorem bd_point_in : ∀ (kV dc pm : Value) (an : Option Addr) (cd ct : Value) (us : List Value), us.length = p_point_in.length → bindArgs (PySem.W.fnOf "point_in" "point_in" (defArgs s_point_in) (defBody s_point_in) (defScope s_point_in) .none kV dc pm an cd ct) ⟨us, []⟩ = pure (p_point_in.zip us) := fun _ _ _ _ _ _ us hl => match us, hl with | [_], _ => rfl
theorem bd_parted : ∀ (kV dc pm : Value) (an : Option Addr) (cd ct : Value) (us : List Value), us.length = p_parted.length → bindArgs (PySem.W.fnOf "parted" "parted" (defArgs s_parted) (defBody s_parted) (defScope s_parted) .none kV dc pm an cd ct) ⟨us, []⟩ = pure (p_parted.zip us) := fun _ _ _ _ _ _ us hl => match us, hl with | [_], _ => rfl
theorem bd_like_contents : ∀ (kV dc pm : Value) (an : Option Addr) (cd ct : Value) (us : List Value), us.length = p_like_contents.length → bindArgs (PySem.W.fnOf "like_contents" "like_contents" (defArgs s_like_contents) (defBody s_like_contents) (defScope s_like_contents) .none kV dc pm an cd ct) ⟨us, []⟩ = pure (p_like_contents.zip us) := fun _ _ _ _ _ _ us hl => match us, hl with | [_], _ => rfl
theorem bd_has_contents : ∀ (kV dc pm : Value) (an : Option Addr) (cd ct : Value) (us : List Value), us.length = p_has_contents.length → bindArgs (PySem.W.fnOf "has_contents" "has_contents" (defArgs s_has_contents) (defBody s_has_contents) (defScope s_has_contents) .none kV dc pm an cd ct) ⟨us, []⟩ = pure (p_has_contents.zip us) := fun _ _ _ _ _ _ us hl => match us, hl with | [_], _ => rfl
theorem bd_point_of : ∀ (kV dc pm : Value) (an : Option Addr) (cd ct : Value) (us : List Value), us.length = p_point_of.length → bindArgs (PySem.W.fnOf "point_of" "point_of" (defArgs s_point_of) (defBody s_point_of) (defScope s_point_of) .none kV dc pm an cd ct) ⟨us, []⟩ = pure (p_point_of.zip us) := fun _ _ _ _ _ _ us hl => match us, hl with | [_, _], _ => rfl
theorem bd_stand_of : ∀ (kV dc pm : Value) (an : Option Addr) (cd ct : Value) (us : List Value), us.length = p_stand_of.length → bindArgs (PySem.W.fnOf "stand_of" "stand_of" (defArgs s_stand_of) (defBody s_stand_of) (defScope s_stand_of) .none kV dc pm an cd ct) ⟨us, []⟩ = pure (p_stand_of.zip us) := fun _ _ _ _ _ _ us hl => match us, hl with | [_, _], _ => rfl
theorem bd_law_quarry : ∀ (kV dc pm : Value) (an : Option Addr) (cd ct : Value) (us : List Value), us.length = p_law_quarry.length → bindArgs (PySem.W.fnOf "_law_quarry" "_law_quarry" (defArgs s_law_quarry) (defBody s_law_quarry) (defScope s_law_quarry) .none kV dc pm an cd ct) ⟨us, []⟩ = pure (p_law_quarry.zip us) := fun _ _ _ _ _ _ us hl => match us, hl with | [_], _ => rfl
theorem bd_law_hew : ∀ (kV dc pm : Value) (an : Option Addr) (cd ct : Value) (us : List Value), us.length = p_law_hew.length → bindArgs (PySem.W.fnOf "_law_hew" "_law_hew" (defArgs s_law_hew) (defBody s_law_hew) (defScope s_law_hew) .none kV dc pm an cd ct) ⟨us, []⟩ = pure (p_law_hew.zip us) := fun _ _ _ _ _ _ us hl => match us, hl with | [_, _], _ => rfl
theorem bd_law_pick : ∀ (kV dc pm : Value) (an : Option Addr) (cd ct : Value) (us : List Value), us.length = p_law_pick.length → bindArgs (PySem.W.fnOf "_law_pick" "_law_pick" (defArgs s_law_pick) (defBody s_law_pick) (defScope s_law_pick) .none kV dc pm an cd ct) ⟨us, []⟩ = pure (p_law_pick.zip us) := fun _ _ _ _ _ _ us hl => match us, hl with | [_, _], _ => rfl
theorem bd_law_pair : ∀ (kV dc pm : Value) (an : Option Addr) (cd ct : Value) (us : List Value), us.length = p_law_pair.length → bindArgs (PySem.W.fnOf "_law_pair" "_law_pair" (defArgs s_law_pair) (defBody s_law_pair) (defScope s_law_pair) .none kV dc pm an cd ct) ⟨us, []⟩ = pure (p_law_pair.zip us) := fun _ _ _ _ _ _ us hl => match us, hl with | [_], _ => rfl
theorem bd_law_form : ∀ (kV dc pm : Value) (an : Option Addr) (cd ct : Value) (us : List Value), us.length = p_law_form.length → bindArgs (PySem.W.fnOf "_law_form" "_law_form" (defArgs s_law_form) (defBody s_law_form) (defScope s_law_form) .none kV dc pm an cd ct) ⟨us, []⟩ = pure (p_law_form.zip us) := fun _ _ _ _ _ _ us hl => match us, hl with | [_, _], _ => rfl
theorem bd_law_add : ∀ (kV dc pm : Value) (an : Option Addr) (cd ct : Value) (us : List Value), us.length = p_law_add.length → bindArgs (PySem.W.fnOf "_law_add" "_law_add" (defArgs s_law_add) (defBody s_law_add) (defScope s_law_add) .none kV dc pm an cd ct) ⟨us, []⟩ = pure (p_law_add.zip us) := fun _ _ _ _ _ _ us hl => match us, hl with | [_, _], _ => rfl
theorem bd_law_mul : ∀ (kV dc pm : Value) (an : Option Addr) (cd ct : Value) (us : List Value), us.length = p_law_mul.length → bindArgs (PySem.W.fnOf "_law_mul" "_law_mul" (defArgs s_law_mul) (defBody s_law_mul) (defScope s_law_mul) .none kV dc pm an cd ct) ⟨us, []⟩ = pure (p_law_mul.zip us) := fun _ _ _ _ _ _ us hl => match us, hl with | [_, _], _ => rfl
theorem bd_law_less : ∀ (kV dc pm : Value) (an : Option Addr) (cd ct : Value) (us : List Value), us.length = p_law_less.length → bindArgs (PySem.W.fnOf "_law_less" "_law_less" (defArgs s_law_less) (defBody s_law_less) (defScope s_law_less) .none kV dc pm an cd ct) ⟨us, []⟩ = pure (p_law_less.zip us) := fun _ _ _ _ _ _ us hl => match us, hl with | [_, _], _ => rfl
theorem bd_law_line : ∀ (kV dc pm : Value) (an : Option Addr) (cd ct : Value) (us : List Value), us.length = p_law_line.length → bindArgs (PySem.W.fnOf "_law_line" "_law_line" (defArgs s_law_line) (defBody s_law_line) (defScope s_law_line) .none kV dc pm an cd ct) ⟨us, []⟩ = pure (p_law_line.zip us) := fun _ _ _ _ _ _ us hl => match us, hl with | [_, _], _ => rfl
theorem bd_law_lines : ∀ (kV dc pm : Value) (an : Option Addr) (cd ct : Value) (us : List Value), us.length = p_law_lines.length → bindArgs (PySem.W.fnOf "_law_lines" "_law_lines" (defArgs s_law_lines) (defBody s_law_lines) (defScope s_law_lines) .none kV dc pm an cd ct) ⟨us, []⟩ = pure (p_law_lines.zip us) := fun _ _ _ _ _ _ us hl => match us, hl with | [_, _], _ => rfl
theorem bd_law_contents : ∀ (kV dc pm : Value) (an : Option Addr) (cd ct : Value) (us : List Value), us.length = p_law_contents.length → bindArgs (PySem.W.fnOf "_law_contents" "_law_contents" (defArgs s_law_contents) (defBody s_law_contents) (defScope s_law_contents) .none kV dc pm an cd ct) ⟨us, []⟩ = pure (p_law_contents.zip us) := fun _ _ _ _ _ _ us hl => match us, hl with | [_], _ => rfl
theorem bd_law_height : ∀ (kV dc pm : Value) (an : Option Addr) (cd ct : Value) (us : List Value), us.length = p_law_height.length → bindArgs (PySem.W.fnOf "_law_height" "_law_height" (defArgs s_law_height) (defBody s_law_height) (defScope s_law_height) .none kV dc pm an cd ct) ⟨us, []⟩ = pure (p_law_height.zip us) := fun _ _ _ _ _ _ us hl => match us, hl with | [_], _ => rfl
theorem bd_law_point : ∀ (kV dc pm : Value) (an : Option Addr) (cd ct : Value) (us : List Value), us.length = p_law_point.length → bindArgs (PySem.W.fnOf "_law_point" "_law_point" (defArgs s_law_point) (defBody s_law_point) (defScope s_law_point) .none kV dc pm an cd ct) ⟨us, []⟩ = pure (p_law_point.zip us) := fun _ _ _ _ _ _ us hl => match us, hl with | [_], _ => rfl
theorem bd_law_far_stand : ∀ (kV dc pm : Value) (an : Option Addr) (cd ct : Value) (us : List Value), us.length = p_law_far_stand.length → bindArgs (PySem.W.fnOf "_law_far_stand" "_law_far_stand" (defArgs s_law_far_stand) (defBody s_law_far_stand) (defScope s_law_far_stand) .none kV dc pm an cd ct) ⟨us, []⟩ = pure (p_law_far_stand.zip us) := fun _ _ _ _ _ _ us hl => match us, hl with | [_, _], _ => rfl
theorem bd_law_no_height : ∀ (kV dc pm : Value) (an : Option Addr) (cd ct : Value) (us : List Value), us.length = p_law_no_height.length → bindArgs (PySem.W.fnOf "_law_no_height" "_law_no_height" (defArgs s_law_no_height) (defBody s_law_no_height) (defScope s_law_no_height) .none kV dc pm an cd ct) ⟨us, []⟩ = pure (p_law_no_height.zip us) := fun _ _ _ _ _ _ us hl => match us, hl with | [_], _ => rfl
theorem bd_law_heard : ∀ (kV dc pm : Value) (an : Option Addr) (cd ct : Value) (us : List Value), us.length = p_law_heard.length → bindArgs (PySem.W.fnOf "_law_heard" "_law_heard" (defArgs s_law_heard) (defBody s_law_heard) (defScope s_law_heard) .none kV dc pm an cd ct) ⟨us, []⟩ = pure (p_law_heard.zip us) := fun _ _ _ _ _ _ us hl => match us, hl with | [_], _ => rfl
theorem bd_law_others_right : ∀ (kV dc pm : Value) (an : Option Addr) (cd ct : Value) (us : List Value), us.length = p_law_others_right.length → bindArgs (PySem.W.fnOf "_law_others_right" "_law_others_right" (defArgs s_law_others_right) (defBody s_law_others_right) (defScope s_law_others_right) .none kV dc pm an cd ct) ⟨us, []⟩ = pure (p_law_others_right.zip us) := fun _ _ _ _ _ _ us hl => match us, hl with | [_, _, _], _ => rfl
theorem bd_law_refused_right : ∀ (kV dc pm : Value) (an : Option Addr) (cd ct : Value) (us : List Value), us.length = p_law_refused_right.length → bindArgs (PySem.W.fnOf "_law_refused_right" "_law_refused_right" (defArgs s_law_refused_right) (defBody s_law_refused_right) (defScope s_law_refused_right) .none kV dc pm an cd ct) ⟨us, []⟩ = pure (p_law_refused_right.zip us) := fun _ _ _ _ _ _ us hl => match us, hl with | [_, _, _], _ => rfl
theorem bd_law : ∀ (kV dc pm : Value) (an : Option Addr) (cd ct : Value) (us : List Value), us.length = p_law.length → bindArgs (PySem.W.fnOf "law" "law" (defArgs s_law) (defBody s_law) (defScope s_law) .none kV dc pm an cd ct) ⟨us, []⟩ = pure (p_law.zip us) := fun _ _ _ _ _ _ us hl => match us, hl with | [_], _ => rfl
section
variable {K : PySem.W.Frag} {h : Heap} {mg : Str → Option Value} {w : World} {P : Program}
theorem df_mk {x : Str} {st : Stmt} {ps : List Str} {f : Addr} {oc : Value} {od : Option Addr} {kV dc pm : Value} {an : Option Addr} {cd ct : Value} {sl : Array (Option Value)} (X : K.In h) (G : h.Ns mainGlobals mg)
    (b : ∀ (kV dc pm : Value) (an : Option Addr) (cd ct : Value) (us : List Value), us.length = ps.length → bindArgs (PySem.W.fnOf x x (defArgs st) (defBody st) (defScope st) .none kV dc pm an cd ct) ⟨us, []⟩ = pure (ps.zip us))
    (a : PySem.W.nsIn K mainGlobals x = some (some (.ref f))) (l : K.lookup f = some ⟨oc, od, .func (PySem.W.fnOf x x (defArgs st) (defBody st) (defScope st) .none kV dc pm an cd ct), sl⟩) (c : PySem.W.codeIn K cd x = true) (k : PySem.W.keepIn K (.ref f) = true) : Df K mg x st ps := by
  have F := fun_mk (st := st) l c k
  exact ⟨f, _, F, PySem.W.mg_of X G a, .all fun us hl => b _ _ _ _ _ _ us hl⟩
theorem dfc_mk {x : Str} {st : Stmt} {ps : List Str} {f cc : Addr} {oc : Value} {od : Option Addr} {kV dc pm : Value} {an : Option Addr} {ct : Value} {sl : Array (Option Value)} (X : K.In h) (G : h.Ns mainGlobals mg)
    (b : ∀ (kV dc pm : Value) (an : Option Addr) (cd ct : Value) (us : List Value), us.length = ps.length → bindArgs (PySem.W.fnOf x x (defArgs st) (defBody st) (defScope st) .none kV dc pm an cd ct) ⟨us, []⟩ = pure (ps.zip us))
    (a : PySem.W.nsIn K mainGlobals x = some (some (.ref f))) (l : K.lookup f = some ⟨oc, od, .func (PySem.W.fnOf x x (defArgs st) (defBody st) (defScope st) .none kV dc pm an (.ref cc) ct), sl⟩) (c : PySem.W.codeIn K (.ref cc) x = true) (k : PySem.W.keepIn K (.ref f) = true) : DfC K mg x st ps cc :=
  ⟨f, oc, od, kV, dc, pm, an, ct, sl, l, c, k, PySem.W.mg_of X G a, .all fun us hl => b _ _ _ _ _ _ us hl⟩
/-- need_program: the value given, part by its default -/
theorem dd_program {f T : Addr} {o : Obj} {t : Tok} {n : Nat} {oc : Value} {od : Option Addr} {kV dc pm : Value} {an : Option Addr} {cd ct : Value} {sl : Array (Option Value)} (X : K.In h) (G : h.Ns mainGlobals mg)
    (a : PySem.W.nsIn K mainGlobals "need_program" = some (some (.ref f))) (l : K.lookup f = some ⟨oc, od, .func (PySem.W.fnOf "need_program" "need_program" (defArgs s_need_program) (defBody s_need_program) (defScope s_need_program) (.ref T) kV dc pm an cd ct), sl⟩)
    (c : PySem.W.codeIn K cd "need_program" = true) (k : PySem.W.keepIn K (.ref f) = true) (lT : K.lookup T = some o) (oT : o.data = .seq #[.str "program" t] n) : Dd K mg "need_program" s_need_program p_need_program [.str "program"] := by
  have F : FunD K "need_program" "need_program" (defArgs s_need_program) (defBody s_need_program) (defScope s_need_program) [.str "program"] [] f _ :=
    ⟨⟨oc, od, .ref T, kV, dc, pm, an, cd, ct, sl, rfl, l, c, .inr ⟨by simp, T, o, [.str "program" t], n, rfl, lT, oT, .cons ⟨t, rfl⟩ .nil⟩, .inl rfl⟩, k⟩
  obtain ⟨ds, hv, hb⟩ := F.binds1 (ps := p_need_program) 1 0 (by simp) rfl (fun T kV doc pm an cdv ct us its h1 h2 => match us, its, h1, h2 with | [_], [_], _, _ => ⟨_, rfl, rfl⟩)
  exact ⟨f, _, ds, F, PySem.W.mg_of X G a, hb, hv⟩
theorem dd_point {f T : Addr} {o : Obj} {t : Tok} {n : Nat} {oc : Value} {od : Option Addr} {kV dc pm : Value} {an : Option Addr} {cd ct : Value} {sl : Array (Option Value)} (X : K.In h) (G : h.Ns mainGlobals mg)
    (a : PySem.W.nsIn K mainGlobals "need_point" = some (some (.ref f))) (l : K.lookup f = some ⟨oc, od, .func (PySem.W.fnOf "need_point" "need_point" (defArgs s_need_point) (defBody s_need_point) (defScope s_need_point) (.ref T) kV dc pm an cd ct), sl⟩)
    (c : PySem.W.codeIn K cd "need_point" = true) (k : PySem.W.keepIn K (.ref f) = true) (lT : K.lookup T = some o) (oT : o.data = .seq #[.str "point" t] n) : Dd K mg "need_point" s_need_point p_need_point [.str "point"] := by
  have F : FunD K "need_point" "need_point" (defArgs s_need_point) (defBody s_need_point) (defScope s_need_point) [.str "point"] [] f _ :=
    ⟨⟨oc, od, .ref T, kV, dc, pm, an, cd, ct, sl, rfl, l, c, .inr ⟨by simp, T, o, [.str "point" t], n, rfl, lT, oT, .cons ⟨t, rfl⟩ .nil⟩, .inl rfl⟩, k⟩
  obtain ⟨ds, hv, hb⟩ := F.binds1 (ps := p_need_point) 2 0 (by simp) rfl (fun T kV doc pm an cdv ct us its h1 h2 => match us, its, h1, h2 with | [_, _], [_], _, _ => ⟨_, rfl, rfl⟩)
  exact ⟨f, _, ds, F, PySem.W.mg_of X G a, hb, hv⟩
theorem prog_mk {CP f : Addr} {oc : Value} {od : Option Addr} {kV dc pm : Value} {an : Option Addr} {cd ct : Value} {sl : Array (Option Value)} (_X : K.In h) (_G : h.Ns mainGlobals mg) (_a : PySem.W.nsIn K mainGlobals "Program" = some (some (.ref CP))) (m : PySem.W.makesIn K CP = true) (i : PySem.W.findIn K (.ref CP) "__init__" = some (some (.ref f))) (fn : PySem.W.isFn K (.ref f) = true) (kC : PySem.W.keepIn K (.ref CP) = true)
    (l : K.lookup f = some ⟨oc, od, .func (PySem.W.fnOf "__init__" "Program.__init__" (defArgs s_Program_init) (defBody s_Program_init) (defScope s_Program_init) .none kV dc pm an cd ct), sl⟩) (c : PySem.W.codeIn K cd "Program.__init__" = true) (k : PySem.W.keepIn K (.ref f) = true) : MkProg K mg CP := by
  have F := fun_mk (st := s_Program_init) l c k
  exact ⟨f, _, ⟨m, i, fn, kC⟩, F, .all fun us hl => match us, hl with | [_, _], _ => rfl⟩
theorem bz_mk (X : K.In h) (G : h.Ns mainGlobals mg) (h1 : PySem.W.nsIn K mainGlobals "len" = some none) (h2 : PySem.W.nsIn K mainGlobals "isinstance" = some none) (h3 : PySem.W.nsIn K mainGlobals "int" = some none) (h4 : PySem.W.nsIn K mainGlobals "bool" = some none)
    (h5 : PySem.W.nsIn K mainGlobals "list" = some none) (h6 : PySem.W.nsIn K mainGlobals "tuple" = some none) (h7 : PySem.W.nsIn K mainGlobals "str" = some none) (h8 : PySem.W.nsIn K mainGlobals "abs" = some none) (h9 : PySem.W.nsIn K mainGlobals "range" = some none)
    (h10 : PySem.W.nsIn K mainGlobals "all" = some none) (h11 : PySem.W.nsIn K mainGlobals "any" = some none) (h12 : PySem.W.nsIn K mainGlobals "repr" = some none) (h13 : PySem.W.nsIn K mainGlobals "super" = some none) : Bz mg :=
  have f := fun {x : Str} (e : PySem.W.nsIn K mainGlobals x = some none) => PySem.W.mg_none_of X G e
  ⟨f h1, f h2, f h3, f h4, f h5, f h6, f h7, f h8, f h9, f h10, f h11, f h12, f h13⟩
theorem mc_mk {t1 t2 t3 t4 t5 t6 t7 t8 t9 : Tok} (X : K.In h) (G : h.Ns mainGlobals mg) (h1 : PySem.W.nsIn K mainGlobals "LEAST_UNDER" = some (some (.int 2 t1))) (h2 : PySem.W.nsIn K mainGlobals "SPAN" = some (some (.int 4 t2))) (h3 : PySem.W.nsIn K mainGlobals "BASE" = some (some (.int 3 t3)))
    (h4 : PySem.W.nsIn K mainGlobals "LOWEST" = some (some (.int 2 t4))) (h5 : PySem.W.nsIn K mainGlobals "MOST_CONTENTS" = some (some (.int 200 t5))) (h6 : PySem.W.nsIn K mainGlobals "WIDE" = some (some (.int 2 t6))) (h7 : PySem.W.nsIn K mainGlobals "MOST_LINES" = some (some (.int 15 t7)))
    (h8 : PySem.W.nsIn K mainGlobals "LAST_BOX" = some (some (.int 1 t8))) (h9 : PySem.W.nsIn K mainGlobals "STOP" = some (some (.str "stop" t9))) : Mc mg :=
  have f := fun {x : Str} {v : Value} (e : PySem.W.nsIn K mainGlobals x = some (some v)) => PySem.W.mg_of X G e
  ⟨⟨_, f h1⟩, ⟨_, f h2⟩, ⟨_, f h3⟩, ⟨_, f h4⟩, ⟨_, f h5⟩, ⟨_, f h6⟩, ⟨_, f h7⟩, ⟨_, f h8⟩, ⟨_, f h9⟩⟩
theorem ends_mk {CN : Addr} {es : Array DictEntry} {n : Nat} {t1 t2 t3 : Tok} (X : K.In h) (G : h.Ns mainGlobals mg) (a : PySem.W.nsIn K mainGlobals "ENDS" = some (some (.ref CN))) (l : K.lookup CN = some ⟨.type "dict", none, .dict es n, #[]⟩) (kl : PySem.W.KeysLit w.params es.toList)
    (u : PySem.W.nsIn K CN "up" = some (some (.int 1 t1))) (d : PySem.W.nsIn K CN "down" = some (some (.int 1 t2))) (t : PySem.W.nsIn K CN "test" = some (some (.int 2 t3))) (ns : (CN == sysModules) = false) : EndsK K w mg CN :=
  ⟨PySem.W.mg_of X G a, ⟨es, n, _, l, kl, u, _, rfl⟩, ⟨es, n, _, l, kl, d, _, rfl⟩, ⟨es, n, _, l, kl, t, _, rfl⟩, ns⟩
end
end TF


set_option Elab.async false
set_option linter.all false
set_option maxRecDepth 100000
set_option maxHeartbeats 4000000
namespace TF
open PySem PySem.Spec PyProof.Rows L2 LamX
theorem law_all {P : Program} {w : World} {K : PySem.W.Frag} {mg : Str → Option Value} {CP CT CG CS CM CI CN fa cc PT : Addr} (hfa : mg "law" = some (.ref fa)) (B : Bz mg) (M : Mc mg) (KE : EndsK K w mg CN) (PG : PgK K mg CP) (ER : Errs P K mg CT CG CS CM) (HK : HeardK K mg CG CS CM CT CI) (MP : MkProg K mg CP)
    (DD1 : Dd K mg "need_program" s_need_program p_need_program [.str "program"]) (DD2 : Dd K mg "need_point" s_need_point p_need_point [.str "point"]) (DR : DfC K mg "_law_refused_right" s_law_refused_right p_law_refused_right cc)
    (D_is_integer : Df K mg "is_integer" s_is_integer p_is_integer) (D_is_within : Df K mg "is_within" s_is_within p_is_within) (D_is_list : Df K mg "is_list" s_is_list p_is_list) (D_halves : Df K mg "halves" s_halves p_halves) (D_common : Df K mg "common" s_common p_common) (D_lowest_in : Df K mg "lowest_in" s_lowest_in p_lowest_in) (D_plus_in : Df K mg "plus_in" s_plus_in p_plus_in) (D_times_in : Df K mg "times_in" s_times_in p_times_in) (D_minus_in : Df K mg "minus_in" s_minus_in p_minus_in) (D_below_in : Df K mg "below_in" s_below_in p_below_in) (D_whole_in : Df K mg "whole_in" s_whole_in p_whole_in) (D_is_number : Df K mg "is_number" s_is_number p_is_number) (D_kept_number : Df K mg "kept_number" s_kept_number p_kept_number) (D_is_line : Df K mg "is_line" s_is_line p_is_line) (D_is_contents : Df K mg "is_contents" s_is_contents p_is_contents) (D_need_stand : Df K mg "need_stand" s_need_stand p_need_stand) (D_height_in : Df K mg "height_in" s_height_in p_height_in) (D_point_in : Df K mg "point_in" s_point_in p_point_in) (D_parted : Df K mg "parted" s_parted p_parted) (D_like_contents : Df K mg "like_contents" s_like_contents p_like_contents) (D_has_contents : Df K mg "has_contents" s_has_contents p_has_contents) (D_point_of : Df K mg "point_of" s_point_of p_point_of) (D_stand_of : Df K mg "stand_of" s_stand_of p_stand_of) (D_law_quarry : Df K mg "_law_quarry" s_law_quarry p_law_quarry) (D_law_hew : Df K mg "_law_hew" s_law_hew p_law_hew) (D_law_pick : Df K mg "_law_pick" s_law_pick p_law_pick) (D_law_pair : Df K mg "_law_pair" s_law_pair p_law_pair) (D_law_form : Df K mg "_law_form" s_law_form p_law_form) (D_law_add : Df K mg "_law_add" s_law_add p_law_add) (D_law_mul : Df K mg "_law_mul" s_law_mul p_law_mul) (D_law_less : Df K mg "_law_less" s_law_less p_law_less) (D_law_line : Df K mg "_law_line" s_law_line p_law_line) (D_law_lines : Df K mg "_law_lines" s_law_lines p_law_lines) (D_law_contents : Df K mg "_law_contents" s_law_contents p_law_contents) (D_law_height : Df K mg "_law_height" s_law_height p_law_height) (D_law_point : Df K mg "_law_point" s_law_point p_law_point) (D_law_far_stand : Df K mg "_law_far_stand" s_law_far_stand p_law_far_stand) (D_law_no_height : Df K mg "_law_no_height" s_law_no_height p_law_no_height) (D_law_heard : Df K mg "_law_heard" s_law_heard p_law_heard) (D_law_others_right : Df K mg "_law_others_right" s_law_others_right p_law_others_right) (D_law : Df K mg "law" s_law p_law)
    {base : Heap} {s : Shared} {H : Hp} {a : Addr} {ns : List Int} (TB : TabB base mg cc PT) (e0 : Env0 P w K mg base callerA [] s H) (hP : H PT = some (.tbl #[])) (hs : SqL K H a (ns.map V.int)) :
    codeAny (model P w) callerA (.call (.ref fa) ⟨[.ref a], []⟩) (CR CX0 [] P w H s (fun v _ => v = .bl true) E0) s := by
  have H_is_integer := ok_is_integer (P := P) (w := w) (base := base) B D_is_integer
  have H_is_list := ok_is_list (P := P) (w := w) (base := base) B D_is_list
  have H_is_within := ok_is_within (P := P) (w := w) (base := base) B D_is_within H_is_integer
  have H_common := ok_common (P := P) (w := w) (base := base) B D_common
  have H_lowest_in := ok_lowest_in (P := P) (w := w) (base := base) D_lowest_in H_common
  have H_halves := ok_halves (P := P) (w := w) (base := base) D_halves H_is_integer
  have H_plus_in := ok_plus_in (P := P) (w := w) (base := base) D_plus_in H_halves H_lowest_in
  have H_times_in := ok_times_in (P := P) (w := w) (base := base) D_times_in H_halves H_lowest_in
  have H_below_in := ok_below_in (P := P) (w := w) (base := base) D_below_in H_halves
  have H_whole_in := ok_whole_in (P := P) (w := w) (base := base) D_whole_in H_halves
  have H_minus_in := ok_minus_in (P := P) (w := w) (base := base) D_minus_in H_plus_in H_times_in
  have H_is_number := ok_is_number (P := P) (w := w) (base := base) B M D_is_number H_is_list H_is_integer H_is_within H_common
  have H_kept_number := ok_kept_number (P := P) (w := w) (base := base) B D_kept_number H_is_list
  have H_is_contents := ok_is_contents (P := P) (w := w) (base := base) B D_is_contents H_is_within
  have H_height_in := ok_height_in (P := P) (w := w) (base := base) B M D_height_in H_lowest_in
  have H_point_in := ok_point_in (P := P) (w := w) (base := base) M D_point_in H_plus_in H_height_in
  have H_parted := ok_parted (P := P) (w := w) (base := base) M D_parted H_whole_in H_minus_in
  have H_like_contents := ok_like_contents (P := P) (w := w) (base := base) M D_like_contents H_below_in H_lowest_in
  have H_has_contents := ok_has_contents (P := P) (w := w) (base := base) M D_has_contents H_below_in H_height_in H_like_contents
  have H_need_program := ok_need_program (P := P) (w := w) (base := base) B PG ER DD1
  have H_need_stand := ok_need_stand (P := P) (w := w) (base := base) B PG ER D_need_stand H_is_list H_is_within H_is_contents
  have H_need_point := ok_need_point (P := P) (w := w) (base := base) B ER DD2 H_is_list H_is_number H_kept_number
  have H_is_line := ok_is_line (P := P) (w := w) (base := base) B M KE D_is_line H_is_list H_is_within
  have H_Program := ok_Program (P := P) (w := w) (base := base) B M PG MP H_is_list H_is_line
  have H_point_of := ok_point_of (P := P) (w := w) (base := base) B M ER D_point_of H_need_program H_need_stand H_point_in
  have H_stand_of := ok_stand_of (P := P) (w := w) (base := base) B M PG D_stand_of H_need_program H_need_point H_parted H_has_contents H_like_contents
  have H_law_quarry := ok_law_quarry (P := P) (w := w) (base := base) B D_law_quarry
  have H_law_hew := ok_law_hew (P := P) (w := w) (base := base) B D_law_hew
  have H_law_pick := ok_law_pick (P := P) (w := w) (base := base) B D_law_pick H_law_hew
  have H_law_pair := ok_law_pair (P := P) (w := w) (base := base) B D_law_pair
  have H_law_form := ok_law_form (P := P) (w := w) (base := base) B D_law_form
  have H_law_add := ok_law_add (P := P) (w := w) (base := base) D_law_add H_law_pair H_law_form
  have H_law_mul := ok_law_mul (P := P) (w := w) (base := base) D_law_mul H_law_pair H_law_form
  have H_law_less := ok_law_less (P := P) (w := w) (base := base) D_law_less H_law_pair
  have H_law_line := ok_law_line (P := P) (w := w) (base := base) D_law_line H_law_hew H_law_pick
  have H_law_lines := ok_law_lines (P := P) (w := w) (base := base) B D_law_lines H_law_hew H_law_line
  have H_law_contents := ok_law_contents (P := P) (w := w) (base := base) D_law_contents H_law_hew H_law_pick
  have H_law_height := ok_law_height (P := P) (w := w) (base := base) B D_law_height
  have H_law_point := ok_law_point (P := P) (w := w) (base := base) D_law_point H_law_add H_law_height
  have H_law_far_stand := ok_law_far_stand (P := P) (w := w) (base := base) B D_law_far_stand H_law_hew H_law_pick H_law_contents
  have H_law_no_height := ok_law_no_height (P := P) (w := w) (base := base) B D_law_no_height H_law_hew H_law_pick H_law_form
  have H_law_others_right := ok_law_others_right (P := P) (w := w) (base := base) B M D_law_others_right H_Program H_law_point H_law_no_height H_law_less H_law_add H_law_mul H_law_height H_stand_of.has
  have H_law_refused_right := ok_law_refused_right (P := P) (w := w) (base := base) B HK TB DR D_law_heard H_Program H_law_pick H_point_of.has H_stand_of.has
  obtain ⟨f, fd, F, g, b⟩ := D_law.ex
  obtain ⟨oc, od, kV, doc, pm, an, cdv, ct, osl, rfl, lk, hcd⟩ := F.ex
  have e := hfa.symm.trans g
  cases e
  have KX : K.In s.heap := e0.mod.kin.keeps fun b o e => (e0.bs b o e).1
  refine run_ofS (N := n_law) (ps := ["_law_script"]) (us := [.ref a]) (vs := [.ref a]) (k := 9) lk hcd sc_law ⟨rfl, by decide, by decide⟩ e0 (b s [.ref a] KX rfl) (.cons rfl .nil) rfl fun hr' => ?_
  obtain ⟨t, h1, h2⟩ := law_body (E := E0) (Q := fun v _ => v = .bl true) (outer := []) B H_Program H_law_quarry H_law_lines H_law_far_stand H_law_point H_law_pick H_law_others_right H_law_refused_right H_point_of H_stand_of hr' hs (PT := PT) (fun p hp => by cases List.mem_singleton.mp hp; exact .nil hP) (fun _ => rfl)
  exact ⟨t, h1.nox, h2⟩
/-- the walk of the claim -/
theorem walk_law {l : PySem.W.OpenLaw} {n : Nat} {q : Program} {loose : List Str} {XP : (Str → Option Value) → Heap → Prop} {YP : World → Heap → Prop} {d : DefRec} {K : Params → PySem.W.Frag} (hn : l.most = some n) (hn2 : n ≤ sizeLine) (hdf : d.params.defaults = []) (hY : ∀ (w : World) (h : Heap), YP w h → (K w.params).In h)
    (F : ∀ (w : World) (mg : Str → Option Value) (fa : Addr) (h : Heap), YP w h → (K w.params).In h → h.Ns mainGlobals mg → mg d.name = some (.ref fa) → ∃ cc PT : Addr, h.get? PT = some { cls := .none, data := .fields #[] } ∧ (K w.params).lookup PT = none ∧ PySem.W.CodeHd h cc PT ∧
      ∀ (base : Heap) (s : Shared) (H : Hp) (a : Addr) (ns : List Int), TabB base mg cc PT → Env0 l.prog w (K w.params) mg base callerA [] s H → H PT = some (.tbl #[]) → SqL (K w.params) H a (ns.map V.int) →
        codeAny (model l.prog w) callerA (.call (.ref fa) ⟨[.ref a], []⟩) (CR CX0 [] l.prog w H s (fun v _ => v = .bl true) E0) s) :
    PySem.W.WalkO q loose XP YP l.row.toRowW d [] (fun f vs => PySem.call f vs) := by
  refine Att.attach_callB hn hdf fun w s₀ s₁ mg mb fa o pm cd doc a vs ns G Y ho hd hcd hmg hobj hints hlen hbits hg => ?_
  have KX := hY w _ Y
  obtain ⟨cc, PT, hT, nT, C, hF⟩ := F w mg fa _ Y KX G.T.g hmg
  exact law_end KX G.T.g G.T.b G.T.builtins G.T.nolimit hg hT nT C G.T.bmain hobj hints (Nat.le_trans hlen hn2) (fun base H _ _ k3 k4 k5 k6 => hF base s₁ H a ns k3 k4 k5 k6)
/-! ### the classes of the exceptions -/
section
variable {K : PySem.W.Frag} {h : Heap} {mg : Str → Option Value} {w : World} {P : Program}
theorem ex_mk {x q : Str} {st : Stmt} {fs : List Str} {C fI cc cda : Addr} {nm qn : Str} {N : Addr} {bs bm : List Value} {sn : List Str} {sub : List Value} {ab : Bool} {col : Option Bool} {dd : Option Addr} {m0 m1 m2 m3 m5 : Option Value}
    {oc kV dc pm ct : Value} {od an : Option Addr} {sl : Array (Option Value)} {ccl : Value} {cdd : Option Addr} {vs : Array Value} {ccs : Array (Option Value)} {file : Str} {tf : Tok} {cl : Value} {cld : Option Addr} {csl : Array (Option Value)} (X : K.In h) (G : h.Ns mainGlobals mg)
    (a : PySem.W.nsIn K mainGlobals x = some (some (.ref C))) (xL : K.lookup C = some (excClassObj nm qn C N bs bm true sn sub ab col dd m0 m1 m2 m3 m5 "ValueError.__new__")) (rv : PySem.HandSPX.refsVE bm = true)
    (sa : PySem.W.findIn K (.ref C) "__setattr__" = some (some (.builtin "object.__setattr__"))) (eC : PySem.W.subIn K (.ref C) (.type "BaseException") = some true) (tC : PySem.W.typeIn K (.ref C) = some (.type "type")) (kC : PySem.W.keepIn K (.ref C) = true)
    (ini : PySem.W.findIn K (.ref C) "__init__" = some (some (.ref fI))) (tI : PySem.W.typeIn K (.ref fI) = some (.type "function"))
    (l : K.lookup fI = some ⟨oc, od, .func (PySem.W.ksFn "__init__" q (defArgs st) (defBody st) (defScope st) .none kV dc pm an (.ref cda) ct cc), sl⟩) (c : PySem.W.codeIn K (.ref cda) q = true)
    (lc : K.lookup cda = some ⟨ccl, cdd, .fields vs, ccs⟩) (v2 : vs[2]? = some (.str file tf)) (pf : ((P.main.file : Str) == file) = true) (le : K.lookup cc = some ⟨cl, cld, .cell (some (.ref C)), csl⟩)
    (mr : PySem.W.mroIn K C (.ref C) = some true) (opq : PySem.W.nsIn K cStatics "thirdparty.any" = some none) (sup : PySem.W.ks_superIn K C C "__init__" = some (some (.builtin "ValueError.__init__"))) (sVE : PySem.W.subIn K (.ref C) (.type "ValueError") = some true)
    (top : (P.main.scope.names.lookup ("super" : Str)).isSome = false) (no : ∀ f ∈ fs, PySem.W.findIn K (.ref C) f = some none) : ExK P K mg x q st fs C :=
  ⟨⟨fI, cc, cda, ⟨⟨⟨nm, qn, N, bs, bm, sn, sub, ab, col, dd, m0, m1, m2, m3, m5, xL, rv⟩, sa, eC, tC, kC⟩, ⟨oc, od, kV, dc, pm, an, ct, sl, l, c⟩, ⟨ccl, cdd, vs, ccs, file, tf, lc, v2, pf⟩, ⟨cl, cld, csl, le⟩, mr, opq, sup, sVE, ini, tI, top⟩⟩, PySem.W.mg_of X G a, no⟩
theorem use {A R : Prop} (a : A) (f : A → R) : R := f a
theorem pg_mk {CP : Addr} (X : K.In h) (G : h.Ns mainGlobals mg) (a : PySem.W.nsIn K mainGlobals "Program" = some (some (.ref CP))) (pg : PySem.W.plainGet K CP Str.empty = true) (hd : PySem.W.hasDictIn K CP = true) (po : PySem.W.plainOver K CP = true) (sa : PySem.W.findIn K (.ref CP) "__setattr__" = some (some (.builtin "object.__setattr__")))
    (nL : PySem.W.findIn K (.ref CP) "lines" = some none) (ha : PySem.W.findIn K (.ref CP) "__class__" = some (some (.builtin "object.__class__"))) (hn : PySem.W.specialIn K (.builtin "object.__class__") "__get__" = some (some (.builtin "getset_descriptor.__get__"))) (ht : PySem.W.takesIn K (.builtin "object.__class__") = some true)
    (hm : PySem.W.mroIn K CP (.type "object") = some true) (kS : PySem.W.kitOne K (.ref CP) (.ref CP) = some true) (k1 : PySem.W.kitOne K (.type "NoneType") (.ref CP) = some false) (k2 : PySem.W.kitOne K (.type "int") (.ref CP) = some false) (k3 : PySem.W.kitOne K (.type "list") (.ref CP) = some false)
    (k4 : PySem.W.kitOne K (.type "str") (.ref CP) = some false) (k5 : PySem.W.kitOne K (.type "bool") (.ref CP) = some false) : PgK K mg CP := ⟨⟨pg, hd, po, sa⟩, nL, PySem.W.mg_of X G a, ha, hn, ht, hm, kS, k1, k2, k3, k4, k5⟩
theorem hd_mk {C : Addr} (ga : PySem.W.findIn K (.ref C) "__getattribute__" = some (some (.builtin "BaseException.__getattribute__"))) (gg : PySem.W.findIn K (.ref C) "__getattr__" = some none) (eC : PySem.W.subIn K (.ref C) (.type "BaseException") = some true) (hd : PySem.W.hasDictIn K C = true)
    (ha : PySem.W.findIn K (.ref C) "__class__" = some (some (.builtin "object.__class__"))) (hn : PySem.W.specialIn K (.builtin "object.__class__") "__get__" = some (some (.builtin "getset_descriptor.__get__"))) (ht : PySem.W.takesIn K (.builtin "object.__class__") = some true) (hm : PySem.W.mroIn K C (.type "object") = some true) : HdC K C :=
  ⟨⟨ga, gg, eC, hd⟩, ha, hn, ht, hm⟩
end
end TF


open PySem PySem.W PyProof.Rows
set_option maxRecDepth 100000
set_option maxHeartbeats 0
open_top tf_hd for PySem.Challenge.rw_timesfloor_k63_whole_stands_as_points
theorem PySem.Challenge.cw_timesfloor_k63_whole_stands_as_points_holds : PySem.Challenge.rw_timesfloor_k63_whole_stands_as_points.Holds := by
  refine tf_hd ?_
  k_fill
  refine TF.walk_law (l := PySem.Challenge.rw_timesfloor_k63_whole_stands_as_points) rfl (by decide) rfl (fun w h Y => km_in_of Y) ?F
  intro w mg fa h Y KX G hmg
  refine' TF.use (TF.bz_mk KX G ?b1 ?b2 ?b3 ?b4 ?b5 ?b6 ?b7 ?b8 ?b9 ?b10 ?b11 ?b12 ?b13) fun B => ?_
  (case b1 => k_is)
  (case b2 => k_is)
  (case b3 => k_is)
  (case b4 => k_is)
  (case b5 => k_is)
  (case b6 => k_is)
  (case b7 => k_is)
  (case b8 => k_is)
  (case b9 => k_is)
  (case b10 => k_is)
  (case b11 => k_is)
  (case b12 => k_is)
  (case b13 => k_is)
  refine' TF.use (TF.mc_mk KX G ?b1 ?b2 ?b3 ?b4 ?b5 ?b6 ?b7 ?b8 ?b9) fun M => ?_
  (case b1 => k_is)
  (case b2 => k_is)
  (case b3 => k_is)
  (case b4 => k_is)
  (case b5 => k_is)
  (case b6 => k_is)
  (case b7 => k_is)
  (case b8 => k_is)
  (case b9 => k_is)
  refine' TF.use (TF.df_mk (x := "is_integer") (st := TF.s_is_integer) (ps := TF.p_is_integer) KX G TF.bd_is_integer ?a ?l ?c ?k) fun D_is_integer => ?_
  (case a => k_is)
  (case l => k_is)
  (case c => k_is)
  (case k => k_is)
  refine' TF.use (TF.df_mk (x := "is_within") (st := TF.s_is_within) (ps := TF.p_is_within) KX G TF.bd_is_within ?a ?l ?c ?k) fun D_is_within => ?_
  (case a => k_is)
  (case l => k_is)
  (case c => k_is)
  (case k => k_is)
  refine' TF.use (TF.df_mk (x := "is_list") (st := TF.s_is_list) (ps := TF.p_is_list) KX G TF.bd_is_list ?a ?l ?c ?k) fun D_is_list => ?_
  (case a => k_is)
  (case l => k_is)
  (case c => k_is)
  (case k => k_is)
  refine' TF.use (TF.df_mk (x := "halves") (st := TF.s_halves) (ps := TF.p_halves) KX G TF.bd_halves ?a ?l ?c ?k) fun D_halves => ?_
  (case a => k_is)
  (case l => k_is)
  (case c => k_is)
  (case k => k_is)
  refine' TF.use (TF.df_mk (x := "common") (st := TF.s_common) (ps := TF.p_common) KX G TF.bd_common ?a ?l ?c ?k) fun D_common => ?_
  (case a => k_is)
  (case l => k_is)
  (case c => k_is)
  (case k => k_is)
  refine' TF.use (TF.df_mk (x := "lowest_in") (st := TF.s_lowest_in) (ps := TF.p_lowest_in) KX G TF.bd_lowest_in ?a ?l ?c ?k) fun D_lowest_in => ?_
  (case a => k_is)
  (case l => k_is)
  (case c => k_is)
  (case k => k_is)
  refine' TF.use (TF.df_mk (x := "plus_in") (st := TF.s_plus_in) (ps := TF.p_plus_in) KX G TF.bd_plus_in ?a ?l ?c ?k) fun D_plus_in => ?_
  (case a => k_is)
  (case l => k_is)
  (case c => k_is)
  (case k => k_is)
  refine' TF.use (TF.df_mk (x := "times_in") (st := TF.s_times_in) (ps := TF.p_times_in) KX G TF.bd_times_in ?a ?l ?c ?k) fun D_times_in => ?_
  (case a => k_is)
  (case l => k_is)
  (case c => k_is)
  (case k => k_is)
  refine' TF.use (TF.df_mk (x := "minus_in") (st := TF.s_minus_in) (ps := TF.p_minus_in) KX G TF.bd_minus_in ?a ?l ?c ?k) fun D_minus_in => ?_
  (case a => k_is)
  (case l => k_is)
  (case c => k_is)
  (case k => k_is)
  refine' TF.use (TF.df_mk (x := "below_in") (st := TF.s_below_in) (ps := TF.p_below_in) KX G TF.bd_below_in ?a ?l ?c ?k) fun D_below_in => ?_
  (case a => k_is)
  (case l => k_is)
  (case c => k_is)
  (case k => k_is)
  refine' TF.use (TF.df_mk (x := "whole_in") (st := TF.s_whole_in) (ps := TF.p_whole_in) KX G TF.bd_whole_in ?a ?l ?c ?k) fun D_whole_in => ?_
  (case a => k_is)
  (case l => k_is)
  (case c => k_is)
  (case k => k_is)
  refine' TF.use (TF.df_mk (x := "is_number") (st := TF.s_is_number) (ps := TF.p_is_number) KX G TF.bd_is_number ?a ?l ?c ?k) fun D_is_number => ?_
  (case a => k_is)
  (case l => k_is)
  (case c => k_is)
  (case k => k_is)
  refine' TF.use (TF.df_mk (x := "kept_number") (st := TF.s_kept_number) (ps := TF.p_kept_number) KX G TF.bd_kept_number ?a ?l ?c ?k) fun D_kept_number => ?_
  (case a => k_is)
  (case l => k_is)
  (case c => k_is)
  (case k => k_is)
  refine' TF.use (TF.df_mk (x := "is_line") (st := TF.s_is_line) (ps := TF.p_is_line) KX G TF.bd_is_line ?a ?l ?c ?k) fun D_is_line => ?_
  (case a => k_is)
  (case l => k_is)
  (case c => k_is)
  (case k => k_is)
  refine' TF.use (TF.df_mk (x := "is_contents") (st := TF.s_is_contents) (ps := TF.p_is_contents) KX G TF.bd_is_contents ?a ?l ?c ?k) fun D_is_contents => ?_
  (case a => k_is)
  (case l => k_is)
  (case c => k_is)
  (case k => k_is)
  refine' TF.use (TF.df_mk (x := "need_stand") (st := TF.s_need_stand) (ps := TF.p_need_stand) KX G TF.bd_need_stand ?a ?l ?c ?k) fun D_need_stand => ?_
  (case a => k_is)
  (case l => k_is)
  (case c => k_is)
  (case k => k_is)
  refine' TF.use (TF.df_mk (x := "height_in") (st := TF.s_height_in) (ps := TF.p_height_in) KX G TF.bd_height_in ?a ?l ?c ?k) fun D_height_in => ?_
  (case a => k_is)
  (case l => k_is)
  (case c => k_is)
  (case k => k_is)
  refine' TF.use (TF.df_mk (x := "point_in") (st := TF.s_point_in) (ps := TF.p_point_in) KX G TF.bd_point_in ?a ?l ?c ?k) fun D_point_in => ?_
  (case a => k_is)
  (case l => k_is)
  (case c => k_is)
  (case k => k_is)
  refine' TF.use (TF.df_mk (x := "parted") (st := TF.s_parted) (ps := TF.p_parted) KX G TF.bd_parted ?a ?l ?c ?k) fun D_parted => ?_
  (case a => k_is)
  (case l => k_is)
  (case c => k_is)
  (case k => k_is)
  refine' TF.use (TF.df_mk (x := "like_contents") (st := TF.s_like_contents) (ps := TF.p_like_contents) KX G TF.bd_like_contents ?a ?l ?c ?k) fun D_like_contents => ?_
  (case a => k_is)
  (case l => k_is)
  (case c => k_is)
  (case k => k_is)
  refine' TF.use (TF.df_mk (x := "has_contents") (st := TF.s_has_contents) (ps := TF.p_has_contents) KX G TF.bd_has_contents ?a ?l ?c ?k) fun D_has_contents => ?_
  (case a => k_is)
  (case l => k_is)
  (case c => k_is)
  (case k => k_is)
  refine' TF.use (TF.df_mk (x := "point_of") (st := TF.s_point_of) (ps := TF.p_point_of) KX G TF.bd_point_of ?a ?l ?c ?k) fun D_point_of => ?_
  (case a => k_is)
  (case l => k_is)
  (case c => k_is)
  (case k => k_is)
  refine' TF.use (TF.df_mk (x := "stand_of") (st := TF.s_stand_of) (ps := TF.p_stand_of) KX G TF.bd_stand_of ?a ?l ?c ?k) fun D_stand_of => ?_
  (case a => k_is)
  (case l => k_is)
  (case c => k_is)
  (case k => k_is)
  refine' TF.use (TF.df_mk (x := "_law_quarry") (st := TF.s_law_quarry) (ps := TF.p_law_quarry) KX G TF.bd_law_quarry ?a ?l ?c ?k) fun D_law_quarry => ?_
  (case a => k_is)
  (case l => k_is)
  (case c => k_is)
  (case k => k_is)
  refine' TF.use (TF.df_mk (x := "_law_hew") (st := TF.s_law_hew) (ps := TF.p_law_hew) KX G TF.bd_law_hew ?a ?l ?c ?k) fun D_law_hew => ?_
  (case a => k_is)
  (case l => k_is)
  (case c => k_is)
  (case k => k_is)
  refine' TF.use (TF.df_mk (x := "_law_pick") (st := TF.s_law_pick) (ps := TF.p_law_pick) KX G TF.bd_law_pick ?a ?l ?c ?k) fun D_law_pick => ?_
  (case a => k_is)
  (case l => k_is)
  (case c => k_is)
  (case k => k_is)
  refine' TF.use (TF.df_mk (x := "_law_pair") (st := TF.s_law_pair) (ps := TF.p_law_pair) KX G TF.bd_law_pair ?a ?l ?c ?k) fun D_law_pair => ?_
  (case a => k_is)
  (case l => k_is)
  (case c => k_is)
  (case k => k_is)
  refine' TF.use (TF.df_mk (x := "_law_form") (st := TF.s_law_form) (ps := TF.p_law_form) KX G TF.bd_law_form ?a ?l ?c ?k) fun D_law_form => ?_
  (case a => k_is)
  (case l => k_is)
  (case c => k_is)
  (case k => k_is)
  refine' TF.use (TF.df_mk (x := "_law_add") (st := TF.s_law_add) (ps := TF.p_law_add) KX G TF.bd_law_add ?a ?l ?c ?k) fun D_law_add => ?_
  (case a => k_is)
  (case l => k_is)
  (case c => k_is)
  (case k => k_is)
  refine' TF.use (TF.df_mk (x := "_law_mul") (st := TF.s_law_mul) (ps := TF.p_law_mul) KX G TF.bd_law_mul ?a ?l ?c ?k) fun D_law_mul => ?_
  (case a => k_is)
  (case l => k_is)
  (case c => k_is)
  (case k => k_is)
  refine' TF.use (TF.df_mk (x := "_law_less") (st := TF.s_law_less) (ps := TF.p_law_less) KX G TF.bd_law_less ?a ?l ?c ?k) fun D_law_less => ?_
  (case a => k_is)
  (case l => k_is)
  (case c => k_is)
  (case k => k_is)
  refine' TF.use (TF.df_mk (x := "_law_line") (st := TF.s_law_line) (ps := TF.p_law_line) KX G TF.bd_law_line ?a ?l ?c ?k) fun D_law_line => ?_
  (case a => k_is)
  (case l => k_is)
  (case c => k_is)
  (case k => k_is)
  refine' TF.use (TF.df_mk (x := "_law_lines") (st := TF.s_law_lines) (ps := TF.p_law_lines) KX G TF.bd_law_lines ?a ?l ?c ?k) fun D_law_lines => ?_
  (case a => k_is)
  (case l => k_is)
  (case c => k_is)
  (case k => k_is)
  refine' TF.use (TF.df_mk (x := "_law_contents") (st := TF.s_law_contents) (ps := TF.p_law_contents) KX G TF.bd_law_contents ?a ?l ?c ?k) fun D_law_contents => ?_
  (case a => k_is)
  (case l => k_is)
  (case c => k_is)
  (case k => k_is)
  refine' TF.use (TF.df_mk (x := "_law_height") (st := TF.s_law_height) (ps := TF.p_law_height) KX G TF.bd_law_height ?a ?l ?c ?k) fun D_law_height => ?_
  (case a => k_is)
  (case l => k_is)
  (case c => k_is)
  (case k => k_is)
  refine' TF.use (TF.df_mk (x := "_law_point") (st := TF.s_law_point) (ps := TF.p_law_point) KX G TF.bd_law_point ?a ?l ?c ?k) fun D_law_point => ?_
  (case a => k_is)
  (case l => k_is)
  (case c => k_is)
  (case k => k_is)
  refine' TF.use (TF.df_mk (x := "_law_far_stand") (st := TF.s_law_far_stand) (ps := TF.p_law_far_stand) KX G TF.bd_law_far_stand ?a ?l ?c ?k) fun D_law_far_stand => ?_
  (case a => k_is)
  (case l => k_is)
  (case c => k_is)
  (case k => k_is)
  refine' TF.use (TF.df_mk (x := "_law_no_height") (st := TF.s_law_no_height) (ps := TF.p_law_no_height) KX G TF.bd_law_no_height ?a ?l ?c ?k) fun D_law_no_height => ?_
  (case a => k_is)
  (case l => k_is)
  (case c => k_is)
  (case k => k_is)
  refine' TF.use (TF.df_mk (x := "_law_heard") (st := TF.s_law_heard) (ps := TF.p_law_heard) KX G TF.bd_law_heard ?a ?l ?c ?k) fun D_law_heard => ?_
  (case a => k_is)
  (case l => k_is)
  (case c => k_is)
  (case k => k_is)
  refine' TF.use (TF.df_mk (x := "_law_others_right") (st := TF.s_law_others_right) (ps := TF.p_law_others_right) KX G TF.bd_law_others_right ?a ?l ?c ?k) fun D_law_others_right => ?_
  (case a => k_is)
  (case l => k_is)
  (case c => k_is)
  (case k => k_is)
  refine' TF.use (TF.df_mk (x := "law") (st := TF.s_law) (ps := TF.p_law) KX G TF.bd_law ?a ?l ?c ?k) fun D_law => ?_
  (case a => k_is)
  (case l => k_is)
  (case c => k_is)
  (case k => k_is)
  refine' TF.use (TF.dfc_mk (x := "_law_refused_right") (st := TF.s_law_refused_right) (ps := TF.p_law_refused_right) KX G TF.bd_law_refused_right ?a ?l ?c ?k) fun DR => ?_
  (case a => k_is)
  (case l => k_is)
  (case c => k_is)
  (case k => k_is)
  refine' TF.use (TF.dd_program KX G ?a ?l ?c ?k ?lT ?oT) fun DD1 => ?_
  (case a => k_is)
  (case l => k_is)
  (case c => k_is)
  (case k => k_is)
  (case lT => k_is)
  (case oT => exact rfl)
  refine' TF.use (TF.dd_point KX G ?a ?l ?c ?k ?lT ?oT) fun DD2 => ?_
  (case a => k_is)
  (case l => k_is)
  (case c => k_is)
  (case k => k_is)
  (case lT => k_is)
  (case oT => exact rfl)
  refine' TF.use (TF.ends_mk (w := w) KX G ?a ?l ?kl ?u ?d ?t ?n) fun KE => ?_
  (case a => k_is)
  (case l => k_is)
  (case kl => exact ⟨⟨_, _, rfl, rfl⟩, ⟨_, _, rfl, rfl⟩, ⟨_, _, rfl, rfl⟩, trivial⟩)
  (case u => k_is)
  (case d => k_is)
  (case t => k_is)
  (case n => first | rfl | k_is | decide)
  refine' TF.use (TF.pg_mk KX G ?a ?pg ?hd ?po ?sa ?nL ?ha ?hn ?ht ?hm ?kS ?k1 ?k2 ?k3 ?k4 ?k5) fun PG => ?_
  (case a => k_is)
  (case pg => k_is)
  (case hd => k_is)
  (case po => k_is)
  (case sa => k_is)
  (case nL => k_is)
  (case ha => k_is)
  (case hn => k_is)
  (case ht => k_is)
  (case hm => k_is)
  (case kS => kit_is)
  (case k1 => kit_is)
  (case k2 => kit_is)
  (case k3 => kit_is)
  (case k4 => kit_is)
  (case k5 => kit_is)
  refine' TF.use (TF.prog_mk KX G ?a ?m ?i ?fn ?kC ?l ?c ?k) fun MP => ?_
  (case a => k_is)
  (case m => k_is)
  (case i => k_is)
  (case fn => k_is)
  (case kC => k_is)
  (case l => k_is)
  (case c => k_is)
  (case k => k_is)
  refine' TF.use (TF.ex_mk (P := (PySem.Challenge.rw_timesfloor_k63_whole_stands_as_points).prog) (x := "BadPoint") (q := "BadPoint.__init__") (st := TF.s_BadPoint) (fs := ["part"]) KX G ?a ?xL ?rv ?sa ?eC ?tC ?kC ?ini ?tI ?l ?c ?lc ?v2 ?pf ?le ?mr ?opq ?sup ?sVE ?top ?no) fun E_BadPoint => ?_
  (case a => k_is)
  (case xL => k_is)
  (case rv => first | rfl | k_is | decide +kernel)
  (case sa => k_is)
  (case eC => k_is)
  (case tC => k_is)
  (case kC => k_is)
  (case ini => k_is)
  (case tI => k_is)
  (case l => k_is)
  (case c => k_is)
  (case lc => k_is)
  (case v2 => exact rfl)
  (case pf => first | rfl | k_is | decide +kernel)
  (case le => k_is)
  (case mr => k_is)
  (case opq => k_is)
  (case sup => first | k_is | kernel_rfl)
  (case sVE => k_is)
  (case top => first | rfl | k_is | decide +kernel)
  (case no => exact (fun f hf => by simp only [List.mem_cons, List.not_mem_nil, or_false] at hf; subst hf; k_is))
  refine' TF.use (TF.ex_mk (P := (PySem.Challenge.rw_timesfloor_k63_whole_stands_as_points).prog) (x := "BadProgram") (q := "BadProgram.__init__") (st := TF.s_BadProgram) (fs := ["part"]) KX G ?a ?xL ?rv ?sa ?eC ?tC ?kC ?ini ?tI ?l ?c ?lc ?v2 ?pf ?le ?mr ?opq ?sup ?sVE ?top ?no) fun E_BadProgram => ?_
  (case a => k_is)
  (case xL => k_is)
  (case rv => first | rfl | k_is | decide +kernel)
  (case sa => k_is)
  (case eC => k_is)
  (case tC => k_is)
  (case kC => k_is)
  (case ini => k_is)
  (case tI => k_is)
  (case l => k_is)
  (case c => k_is)
  (case lc => k_is)
  (case v2 => exact rfl)
  (case pf => first | rfl | k_is | decide +kernel)
  (case le => k_is)
  (case mr => k_is)
  (case opq => k_is)
  (case sup => first | k_is | kernel_rfl)
  (case sVE => k_is)
  (case top => first | rfl | k_is | decide +kernel)
  (case no => exact (fun f hf => by simp only [List.mem_cons, List.not_mem_nil, or_false] at hf; subst hf; k_is))
  refine' TF.use (TF.ex_mk (P := (PySem.Challenge.rw_timesfloor_k63_whole_stands_as_points).prog) (x := "BadStand") (q := "BadStand.__init__") (st := TF.s_BadStand) (fs := ["part"]) KX G ?a ?xL ?rv ?sa ?eC ?tC ?kC ?ini ?tI ?l ?c ?lc ?v2 ?pf ?le ?mr ?opq ?sup ?sVE ?top ?no) fun E_BadStand => ?_
  (case a => k_is)
  (case xL => k_is)
  (case rv => first | rfl | k_is | decide +kernel)
  (case sa => k_is)
  (case eC => k_is)
  (case tC => k_is)
  (case kC => k_is)
  (case ini => k_is)
  (case tI => k_is)
  (case l => k_is)
  (case c => k_is)
  (case lc => k_is)
  (case v2 => exact rfl)
  (case pf => first | rfl | k_is | decide +kernel)
  (case le => k_is)
  (case mr => k_is)
  (case opq => k_is)
  (case sup => first | k_is | kernel_rfl)
  (case sVE => k_is)
  (case top => first | rfl | k_is | decide +kernel)
  (case no => exact (fun f hf => by simp only [List.mem_cons, List.not_mem_nil, or_false] at hf; subst hf; k_is))
  refine' TF.use (TF.ex_mk (P := (PySem.Challenge.rw_timesfloor_k63_whole_stands_as_points).prog) (x := "TooMany") (q := "TooMany.__init__") (st := TF.s_TooMany) (fs := ["what", "most"]) KX G ?a ?xL ?rv ?sa ?eC ?tC ?kC ?ini ?tI ?l ?c ?lc ?v2 ?pf ?le ?mr ?opq ?sup ?sVE ?top ?no) fun E_TooMany => ?_
  (case a => k_is)
  (case xL => k_is)
  (case rv => first | rfl | k_is | decide +kernel)
  (case sa => k_is)
  (case eC => k_is)
  (case tC => k_is)
  (case kC => k_is)
  (case ini => k_is)
  (case tI => k_is)
  (case l => k_is)
  (case c => k_is)
  (case lc => k_is)
  (case v2 => exact rfl)
  (case pf => first | rfl | k_is | decide +kernel)
  (case le => k_is)
  (case mr => k_is)
  (case opq => k_is)
  (case sup => first | k_is | kernel_rfl)
  (case sVE => k_is)
  (case top => first | rfl | k_is | decide +kernel)
  (case no => exact (fun f hf => by simp only [List.mem_cons, List.not_mem_nil, or_false] at hf; rcases hf with rfl | rfl <;> k_is))
  refine' TF.use (TF.HeardK.mk (mg_of KX G ?gI) E_BadProgram.g E_BadStand.g E_TooMany.g E_BadPoint.g ?eG ?eS ?eM ?eT (TF.hd_mk ?gaG ?ggG ?ebG ?hdG ?haG ?hnG ?htG ?hmG) (TF.hd_mk ?gaS ?ggS ?ebS ?hdS ?haS ?hnS ?htS ?hmS) (TF.hd_mk ?gaM ?ggM ?ebM ?hdM ?haM ?hnM ?htM ?hmM) (TF.hd_mk ?gaT ?ggT ?ebT ?hdT ?haT ?hnT ?htT ?hmT) (E_BadProgram.no _ (by simp)) (E_BadStand.no _ (by simp)) (E_BadPoint.no _ (by simp)) (E_TooMany.no _ (by simp)) (E_TooMany.no _ (by simp)) ?kGG ?kSG ?kSS ?kMG ?kMS ?kMM ?kTG ?kTS ?kTM ?kTT) fun HK => ?_
  (case gI => k_is)
  (case eG => first | k_is | kernel_rfl)
  (case eS => first | k_is | kernel_rfl)
  (case eM => first | k_is | kernel_rfl)
  (case eT => first | k_is | kernel_rfl)
  (case gaG => k_is)
  (case ggG => k_is)
  (case ebG => k_is)
  (case hdG => k_is)
  (case haG => k_is)
  (case hnG => k_is)
  (case htG => k_is)
  (case hmG => k_is)
  (case gaS => k_is)
  (case ggS => k_is)
  (case ebS => k_is)
  (case hdS => k_is)
  (case haS => k_is)
  (case hnS => k_is)
  (case htS => k_is)
  (case hmS => k_is)
  (case gaM => k_is)
  (case ggM => k_is)
  (case ebM => k_is)
  (case hdM => k_is)
  (case haM => k_is)
  (case hnM => k_is)
  (case htM => k_is)
  (case hmM => k_is)
  (case gaT => k_is)
  (case ggT => k_is)
  (case ebT => k_is)
  (case hdT => k_is)
  (case haT => k_is)
  (case hnT => k_is)
  (case htT => k_is)
  (case hmT => k_is)
  (case kGG => kit_is)
  (case kSG => kit_is)
  (case kSS => kit_is)
  (case kMG => kit_is)
  (case kMS => kit_is)
  (case kMM => kit_is)
  (case kTG => kit_is)
  (case kTS => kit_is)
  (case kTM => kit_is)
  (case kTT => kit_is)
  refine' ⟨_, 562, km_tabs_of Y 562 (by simp), ?nT, codeHd_of_K KX ?cc, fun base s H a ns TB e0 hP hs => TF.law_all (hmg) B M KE PG ⟨B.sup, E_BadPoint, E_BadProgram, E_BadStand, E_TooMany⟩ HK MP DD1 DD2 DR D_is_integer D_is_within D_is_list D_halves D_common D_lowest_in D_plus_in D_times_in D_minus_in D_below_in D_whole_in D_is_number D_kept_number D_is_line D_is_contents D_need_stand D_height_in D_point_in D_parted D_like_contents D_has_contents D_point_of D_stand_of D_law_quarry D_law_hew D_law_pick D_law_pair D_law_form D_law_add D_law_mul D_law_less D_law_line D_law_lines D_law_contents D_law_height D_law_point D_law_far_stand D_law_no_height D_law_heard D_law_others_right D_law TB e0 hP hs⟩
  (case cc => first | k_is | kernel_rfl)
  (case nT => first | k_is | kernel_rfl)
