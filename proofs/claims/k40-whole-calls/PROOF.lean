import PyProof.Rows.All
import Wide.All
import OpenK.AllK
import Wide.FinOn
import HandS.ForMost
import HandS.Conv
import PyProof.LongRange
import HandS.SetFor
import HandS.Strs
import HandS.SortRule
import PyProof.TupleOfSeq
import HandS.Wide
import HandS.WideBits
import HandS.IsInst
import HandS.TupAny
import HandS.TupLe
import HandS.Zip
import HandS.Walk
import HandS.Codes
import PySem.Challenge.RW_doffyard_k40_whole_calls_grown_and_moved
set_option Elab.async false
set_option linter.all false
set_option maxRecDepth 100000
set_option maxHeartbeats 8000000
/-! DyA: calls within a stretch, how many hands they want (plain Lean). -/
namespace Dy

abbrev Call := Int × Int

def inS (f l : Int) (c : Call) : Bool := decide (f ≤ c.1) && decide (c.2 ≤ l)
/-- how many calls lie whole in f .. l -/
def wn (cs : List Call) (f l : Int) : Nat := cs.countP (inS f l)
/-- no stretch wants more than m hands -/
def Hall (cs : List Call) (m : Int) : Prop := ∀ f l : Int, f ≤ l → (wn cs f l : Int) ≤ m * (l - f + 1)
/-- m is the least number of hands -/
def Need (cs : List Call) (m : Int) : Prop := 0 ≤ m ∧ Hall cs m ∧ (m = 0 ∨ ¬ Hall cs (m - 1))
/-- a stretch that wants more than m hands -/
def Short (cs : List Call) (m f l : Int) : Prop := f ≤ l ∧ m * (l - f + 1) < (wn cs f l : Int)

theorem inS_iff {f l : Int} {c : Call} : inS f l c = true ↔ f ≤ c.1 ∧ c.2 ≤ l := by
  unfold inS
  rw [Bool.and_eq_true, decide_eq_true_eq, decide_eq_true_eq]

theorem mul_mono {m k t : Int} (h : m ≤ k) (ht : 0 ≤ t) : m * t ≤ k * t := Int.mul_le_mul_of_nonneg_right h ht

theorem Hall.mono {cs : List Call} {m k : Int} (h : Hall cs m) (hk : m ≤ k) : Hall cs k := fun f l hfl => by
  have h1 := h f l hfl
  have h2 := mul_mono (t := l - f + 1) hk (by omega)
  omega

theorem Short.not_hall {cs : List Call} {m f l : Int} (h : Short cs m f l) : ¬ Hall cs m := fun q => by
  have := q f l h.1
  have := h.2
  omega

theorem Short.mono {cs : List Call} {m k f l : Int} (h : Short cs m f l) (hk : k ≤ m) : Short cs k f l := by
  refine ⟨h.1, ?_⟩
  have h1 := h.1
  have h2 := mul_mono (t := l - f + 1) hk (by omega)
  have := h.2
  omega

theorem Need.hall_iff {cs : List Call} {m k : Int} (h : Need cs m) (hk : 0 ≤ k) : Hall cs k ↔ m ≤ k := by
  constructor
  · intro q
    rcases h.2.2 with e | e
    · omega
    · rcases Int.lt_or_le k m with z | z
      · exact absurd (q.mono (by omega)) e
      · exact z
  · intro q
    exact h.2.1.mono q

theorem Need.unique {cs : List Call} {m k : Int} (h : Need cs m) (g : Need cs k) : m = k := by
  have h1 := (h.hall_iff g.1).mp g.2.1
  have h2 := (g.hall_iff h.1).mp h.2.1
  omega

/-- from what Hall says of one and of the other -/
theorem Need.le_of {cs ds : List Call} {m k j : Int} (h : Need cs m) (g : Need ds k) (hj : 0 ≤ j) (q : Hall ds k → Hall cs j) : m ≤ j := (h.hall_iff hj).mp (q g.2.1)

theorem wn_nil (f l : Int) : wn [] f l = 0 := rfl
theorem wn_perm {cs ds : List Call} (p : cs.Perm ds) (f l : Int) : wn cs f l = wn ds f l := p.countP_eq _
theorem Hall.perm {cs ds : List Call} (p : cs.Perm ds) {m : Int} (h : Hall cs m) : Hall ds m := fun f l hfl => by
  rw [← wn_perm p f l]
  exact h f l hfl
theorem wn_append (cs ds : List Call) (f l : Int) : wn (cs ++ ds) f l = wn cs f l + wn ds f l := List.countP_append
theorem wn_one (c : Call) (f l : Int) : wn [c] f l = if inS f l c = true then 1 else 0 := by
  unfold wn
  rw [List.countP_cons, List.countP_nil, Nat.zero_add]
theorem wn_one_le (c : Call) (f l : Int) : wn [c] f l ≤ 1 := by
  rw [wn_one]
  split <;> omega

/-! ### the least number of hands of other calls -/
/-- one call more -/
theorem hall_more {cs ds : List Call} {c : Call} (p : ds.Perm (cs ++ [c])) {m : Int} (h : Hall cs m) : Hall ds (m + 1) := fun f l hfl => by
  rw [wn_perm p, wn_append]
  have h1 := h f l hfl
  have h2 := wn_one_le c f l
  have e : (m + 1) * (l - f + 1) = m * (l - f + 1) + (l - f + 1) := by rw [Int.add_mul, Int.one_mul]
  omega
theorem hall_less {cs ds : List Call} {c : Call} (p : ds.Perm (cs ++ [c])) {m : Int} (h : Hall ds m) : Hall cs m := fun f l hfl => by
  have h1 := h f l hfl
  rw [wn_perm p, wn_append] at h1
  omega
theorem need_more {cs ds : List Call} {c : Call} (p : ds.Perm (cs ++ [c])) {m k : Int} (h : Need cs m) (g : Need ds k) : m ≤ k ∧ k ≤ m + 1 :=
  ⟨h.le_of g g.1 (hall_less p), g.le_of h (by have := h.1; omega) (hall_more p)⟩
/-- all by as many beats later -/
theorem wn_moved (cs : List Call) (d f l : Int) : wn (cs.map fun c => (c.1 + d, c.2 + d)) f l = wn cs (f - d) (l - d) := by
  unfold wn
  rw [List.countP_map]
  refine List.countP_congr fun c _ => ?_
  show inS f l (c.1 + d, c.2 + d) = true ↔ _
  rw [inS_iff, inS_iff]
  show f ≤ c.1 + d ∧ c.2 + d ≤ l ↔ _
  omega
theorem need_moved {cs : List Call} {d m k : Int} (h : Need cs m) (g : Need (cs.map fun c => (c.1 + d, c.2 + d)) k) : k = m := by
  have a : ∀ j, Hall cs j → Hall (cs.map fun c => (c.1 + d, c.2 + d)) j := fun j q f l hfl => by
    rw [wn_moved]
    have := q (f - d) (l - d) (by omega)
    rw [show l - d - (f - d) + 1 = l - f + 1 by omega] at this
    exact this
  have b : ∀ j, Hall (cs.map fun c => (c.1 + d, c.2 + d)) j → Hall cs j := fun j q f l hfl => by
    have := q (f + d) (l + d) (by omega)
    rw [wn_moved, show f + d - d = f by omega, show l + d - d = l by omega, show l + d - (f + d) + 1 = l - f + 1 by omega] at this
    exact this
  have h1 := h.le_of g g.1 (b k)
  have h2 := g.le_of h h.1 (a m)
  omega
/-- each twice -/
theorem need_twice {cs ds : List Call} (p : ds.Perm (cs ++ cs)) {m k : Int} (h : Need cs m) (g : Need ds k) : m ≤ k ∧ k ≤ 2 * m := by
  refine ⟨h.le_of g g.1 fun q f l hfl => ?_, g.le_of h (by have := h.1; omega) fun q f l hfl => ?_⟩
  · have h1 := q f l hfl
    rw [wn_perm p, wn_append] at h1
    omega
  · rw [wn_perm p, wn_append]
    have h1 := q f l hfl
    have e : 2 * m * (l - f + 1) = m * (l - f + 1) + m * (l - f + 1) := by
      rw [Int.mul_assoc, Int.two_mul]
    omega
/-- a LAST that is later -/
theorem wn_one_later {c d : Call} (e : d.1 = c.1) (h : c.2 ≤ d.2) (f l : Int) : wn [d] f l ≤ wn [c] f l := by
  rw [wn_one, wn_one]
  by_cases z : inS f l d = true
  · have z2 := inS_iff.mp z
    have z3 : inS f l c = true := inS_iff.mpr (by omega)
    rw [if_pos z, if_pos z3]
    exact Nat.le_refl 1
  · rw [if_neg z]
    exact Nat.zero_le _
theorem hall_later {rest cs ds : List Call} {c d : Call} (p : cs.Perm (rest ++ [c])) (q : ds.Perm (rest ++ [d])) (e : d.1 = c.1) (h : c.2 ≤ d.2) {m : Int} (hc : Hall cs m) : Hall ds m := fun f l hfl => by
  have h1 := hc f l hfl
  rw [wn_perm p, wn_append] at h1
  rw [wn_perm q, wn_append]
  have := wn_one_later e h f l
  omega
theorem need_later {rest cs ds : List Call} {c d : Call} (p : cs.Perm (rest ++ [c])) (q : ds.Perm (rest ++ [d])) (e : d.1 = c.1) (h : c.2 ≤ d.2) {m k : Int} (hc : Need cs m) (hd : Need ds k) : m - 1 ≤ k ∧ k ≤ m := by
  refine ⟨?_, hd.le_of hc hc.1 (hall_later p q e h)⟩
  have := hc.le_of hd (by have := hd.1; omega) fun z => hall_more p (hall_less q z)
  omega
theorem need_sooner {rest cs ds : List Call} {c d : Call} (p : cs.Perm (rest ++ [c])) (q : ds.Perm (rest ++ [d])) (e : d.1 = c.1) (h : d.2 ≤ c.2) {m k : Int} (hc : Need cs m) (hd : Need ds k) : m ≤ k ∧ k ≤ m + 1 := by
  have := need_later q p e.symm h hd hc
  omega
theorem need_less {rest cs : List Call} {c : Call} (p : cs.Perm (rest ++ [c])) {m k : Int} (hc : Need cs m) (hd : Need rest k) : m - 1 ≤ k ∧ k ≤ m := by
  have := need_more p hd hc
  omega

/-! ### the stretches that the program looks at are enough -/
theorem pick_min {α : Type} (g : α → Int) : ∀ (l : List α), l ≠ [] → ∃ x ∈ l, ∀ y ∈ l, g x ≤ g y
  | [], h => absurd rfl h
  | [x], _ => ⟨x, List.mem_cons_self, fun y hy => by
      rw [List.mem_singleton.mp hy]
      exact Int.le_refl _⟩
  | x :: y :: r, _ => by
    obtain ⟨z, hz, hm⟩ := pick_min g (y :: r) (List.cons_ne_nil _ _)
    by_cases h : g x ≤ g z
    · refine ⟨x, List.mem_cons_self, fun u hu => ?_⟩
      rcases List.mem_cons.mp hu with e | e
      · rw [e]
        exact Int.le_refl _
      · have := hm u e
        omega
    · refine ⟨z, List.mem_cons_of_mem _ hz, fun u hu => ?_⟩
      rcases List.mem_cons.mp hu with e | e
      · rw [e]
        omega
      · exact hm u e
theorem hall_of_ends {cs : List Call} {m : Int} (h0 : 0 ≤ m) (ok : ∀ c ∈ cs, c.1 ≤ c.2) (h : ∀ c ∈ cs, ∀ d ∈ cs, c.1 ≤ d.2 → (wn cs c.1 d.2 : Int) ≤ m * (d.2 - c.1 + 1)) : Hall cs m := fun f l hfl => by
  by_cases hz : cs.filter (inS f l) = []
  · have e : wn cs f l = 0 := by
      unfold wn
      rw [List.countP_eq_length_filter, hz]
      rfl
    rw [e]
    exact Int.mul_nonneg h0 (by omega)
  · obtain ⟨c, hc, mc⟩ := pick_min (fun c : Call => c.1) _ hz
    obtain ⟨d, hd, md⟩ := pick_min (fun c : Call => - c.2) _ hz
    have hc' := List.mem_filter.mp hc
    have hd' := List.mem_filter.mp hd
    have bc := inS_iff.mp hc'.2
    have bd := inS_iff.mp hd'.2
    have ocd : c.1 ≤ d.2 := by
      have h1 := md c hc
      have h2 := ok c hc'.1
      have h3 : -d.2 ≤ -c.2 := h1
      omega
    have e : wn cs f l ≤ wn cs c.1 d.2 := by
      unfold wn
      refine List.countP_mono_left fun x hx hp => ?_
      have hm : x ∈ cs.filter (inS f l) := List.mem_filter.mpr ⟨hx, hp⟩
      refine inS_iff.mpr ⟨mc x hm, ?_⟩
      have h3 : -d.2 ≤ -x.2 := md x hm
      omega
    have q := h c hc'.1 d hd'.1 ocd
    have g := Int.mul_le_mul_of_nonneg_left (a := d.2 - c.1 + 1) (b := l - f + 1) (c := m) (by omega) h0
    omega

/-- what the loops over stretches keep: the most so far and where it was -/
structure Most (cs : List Call) (m : Int) (st : Option (Int × Int)) : Prop where
  pos : 0 ≤ m
  zero : st = none → m = 0
  here : ∀ f l, st = some (f, l) → 1 ≤ m ∧ Short cs (m - 1) f l
theorem Most.start (cs : List Call) : Most cs 0 none := ⟨Int.le_refl 0, fun _ => rfl, fun _ _ e => nomatch e⟩
/-- hands = (within + beats - 1) // beats -/
theorem up_div {w b : Int} (hb : 0 < b) : w ≤ (w + b - 1) / b * b ∧ ((w + b - 1) / b - 1) * b < w := by
  have h1 := Int.mul_ediv_add_emod (w + b - 1) b
  have h2 := Int.emod_nonneg (w + b - 1) (show b ≠ 0 by omega)
  have h3 := Int.emod_lt_of_pos (w + b - 1) hb
  have e : (w + b - 1) / b * b = b * ((w + b - 1) / b) := Int.mul_comm _ _
  have e2 : ((w + b - 1) / b - 1) * b = b * ((w + b - 1) / b) - b := by rw [Int.sub_mul, Int.one_mul, Int.mul_comm]
  omega
theorem Most.turn {cs : List Call} {m : Int} {st : Option (Int × Int)} {f l : Int} (h : Most cs m st) (hfl : f ≤ l) (hm : m < ((wn cs f l : Int) + (l - f + 1) - 1) / (l - f + 1)) :
    Most cs (((wn cs f l : Int) + (l - f + 1) - 1) / (l - f + 1)) (some (f, l)) := by
  have q := up_div (w := (wn cs f l : Int)) (b := l - f + 1) (by omega)
  have hp := h.pos
  refine ⟨by omega, (fun e => nomatch e), fun a b e => ?_⟩
  cases e
  exact ⟨by omega, hfl, q.2⟩
theorem Most.ok {cs : List Call} {m : Int} {f l : Int} (hfl : f ≤ l) (h0 : ((wn cs f l : Int) + (l - f + 1) - 1) / (l - f + 1) ≤ m) : (wn cs f l : Int) ≤ m * (l - f + 1) := by
  have q := up_div (w := (wn cs f l : Int)) (b := l - f + 1) (by omega)
  have := mul_mono (t := l - f + 1) h0 (by omega)
  omega
theorem Most.need {cs : List Call} {m : Int} {st : Option (Int × Int)} (h : Most cs m st) (ha : Hall cs m) : Need cs m := by
  refine ⟨h.pos, ha, ?_⟩
  cases st with
  | none => exact .inl (h.zero rfl)
  | some p => exact .inr (h.here p.1 p.2 rfl).2.not_hall
theorem need_zero {cs : List Call} (ok : ∀ c ∈ cs, c.1 ≤ c.2) (h : Need cs 0) : cs = [] := by
  cases cs with
  | nil => rfl
  | cons c r =>
    have q := h.2.1 c.1 c.2 (ok c List.mem_cons_self)
    have e : wn (c :: r) c.1 c.2 = wn r c.1 c.2 + 1 := by
      unfold wn
      rw [List.countP_cons, if_pos (inS_iff.mpr ⟨Int.le_refl _, Int.le_refl _⟩)]
    rw [e, Int.zero_mul] at q
    omega
theorem need_pos {cs : List Call} {m : Int} (h : Need cs m) (hne : cs ≠ []) (ok : ∀ c ∈ cs, c.1 ≤ c.2) : 1 ≤ m := by
  have h0 := h.1
  rcases Int.lt_or_le m 1 with z | z
  · have e : m = 0 := by omega
    subst e
    exact absurd (need_zero ok h) hne
  · exact z
theorem need_le_length {cs : List Call} {m : Int} (h : Need cs m) : m ≤ (cs.length : Int) := by
  refine (h.hall_iff (by omega)).mp fun f l hfl => ?_
  have h1 : wn cs f l ≤ cs.length := List.countP_le_length
  have h2 := Int.mul_le_mul_of_nonneg_left (a := 1) (b := l - f + 1) (c := (cs.length : Int)) (by omega) (by omega)
  omega

/-! ### a plan shows that the hands are enough -/
theorem within_span {ps : List Int} {m : Int} (h : ∀ x, (ps.count x : Int) ≤ m) : ∀ (n : Nat) (f : Int), (ps.countP (fun x => decide (f ≤ x) && decide (x < f + (n : Int))) : Int) ≤ m * n
  | 0, f => by
    have e : ps.countP (fun x => decide (f ≤ x) && decide (x < f + ((0 : Nat) : Int))) = 0 := List.countP_eq_zero.mpr fun x _ q => by
      rw [Bool.and_eq_true, decide_eq_true_eq, decide_eq_true_eq] at q
      omega
    rw [e]
    show (0 : Int) ≤ m * 0
    omega
  | n + 1, f => by
    have ih := within_span h n f
    have h1 := h (f + (n : Int))
    have e : ps.countP (fun x => decide (f ≤ x) && decide (x < f + ((n + 1 : Nat) : Int))) ≤ ps.countP (fun x => decide (f ≤ x) && decide (x < f + (n : Int))) + ps.count (f + (n : Int)) := by
      clear ih h1 h
      induction ps with
      | nil => exact Nat.le_refl _
      | cons x r ih =>
        rw [List.countP_cons, List.countP_cons, List.count_cons]
        have key : (if (decide (f ≤ x) && decide (x < f + ((n + 1 : Nat) : Int))) = true then 1 else 0) ≤ (if (decide (f ≤ x) && decide (x < f + (n : Int))) = true then 1 else 0) + (if (x == f + (n : Int)) = true then 1 else 0) := by
          by_cases a : x = f + (n : Int)
          · rw [if_pos (show (x == f + (n : Int)) = true by rw [a]; exact beq_self_eq_true _)]
            split <;> omega
          · by_cases b : (decide (f ≤ x) && decide (x < f + (n : Int))) = true
            · rw [if_pos b]
              split <;> omega
            · rw [if_neg b]
              rw [if_neg (fun q => b ?_)]
              · omega
              · rw [Bool.and_eq_true, decide_eq_true_eq, decide_eq_true_eq] at q ⊢
                omega
        omega
    have e2 : m * ((n + 1 : Nat) : Int) = m * (n : Int) + m := by
      rw [Int.natCast_succ, Int.mul_add, Int.mul_one]
    rw [e2]
    omega
/-- beats for calls, each within its own -/
inductive Fits : List Call → List Int → Prop
  | nil : Fits [] []
  | cons {c : Call} {x : Int} {cs : List Call} {ps : List Int} (h1 : c.1 ≤ x) (h2 : x ≤ c.2) (t : Fits cs ps) : Fits (c :: cs) (x :: ps)
theorem Fits.length : ∀ {cs : List Call} {ps : List Int}, Fits cs ps → ps.length = cs.length
  | _, _, .nil => rfl
  | _, _, .cons _ _ t => congrArg (· + 1) t.length
theorem Fits.wn_le : ∀ {cs : List Call} {ps : List Int}, Fits cs ps → ∀ f l : Int, wn cs f l ≤ ps.countP (fun x => decide (f ≤ x) && decide (x ≤ l))
  | _, _, .nil, _, _ => Nat.le_refl _
  | _, _, .cons (c := c) (x := x) h1 h2 t, f, l => by
    have ih := t.wn_le f l
    unfold wn at ih ⊢
    rw [List.countP_cons, List.countP_cons]
    have key : (if inS f l c = true then 1 else 0) ≤ (if (decide (f ≤ x) && decide (x ≤ l)) = true then 1 else 0) := by
      by_cases a : inS f l c = true
      · have a2 := inS_iff.mp a
        rw [if_pos a, if_pos (by rw [Bool.and_eq_true, decide_eq_true_eq, decide_eq_true_eq]; omega)]
        exact Nat.le_refl 1
      · rw [if_neg a]
        exact Nat.zero_le _
    omega
theorem Fits.hall {cs : List Call} {ps : List Int} {m : Int} (h : Fits cs ps) (hc : ∀ x, (ps.count x : Int) ≤ m) : Hall cs m := fun f l hfl => by
  have h1 := h.wn_le f l
  have h2 := within_span hc (l - f + 1).toNat f
  have e : ((l - f + 1).toNat : Int) = l - f + 1 := by omega
  rw [e] at h2
  have e2 : (fun x : Int => decide (f ≤ x) && decide (x ≤ l)) = fun x => decide (f ≤ x) && decide (x < f + (l - f + 1)) := by
    funext x
    rw [show decide (x ≤ l) = decide (x < f + (l - f + 1)) from decide_eq_decide.mpr (by omega)]
  rw [e2] at h1
  omega
theorem Fits.of_get : ∀ {cs : List Call} {ps : List Int}, ps.length = cs.length → (∀ (i : Nat) (c : Call) (x : Int), cs[i]? = some c → ps[i]? = some x → c.1 ≤ x ∧ x ≤ c.2) → Fits cs ps
  | [], [], _, _ => .nil
  | [], _ :: _, e, _ => by simp at e
  | _ :: _, [], e, _ => by simp at e
  | c :: cs, x :: ps, e, h => .cons (h 0 c x rfl rfl).1 (h 0 c x rfl rfl).2 (Fits.of_get (by simpa using e) fun i d y h1 h2 => h (i + 1) d y (by simpa using h1) (by simpa using h2))
end Dy
/-! DyB: the call with the least LAST first: the beats so given are right. -/
namespace Dy

/-- what is left at beat b wants no more than m hands from then on -/
def HallR (a d : Int → Int) (m b : Int) (left : List Int) : Prop :=
  ∀ f l : Int, b < f → (left.countP (fun k => decide ((f ≤ a k ∨ f = b + 1) ∧ d k ≤ l)) : Int) ≤ m * max 0 (l - f + 1)

theorem HallR.perm {a d : Int → Int} {m b : Int} {left l2 : List Int} (p : left.Perm l2) (h : HallR a d m b left) : HallR a d m b l2 := fun f l hf => by
  rw [← p.countP_eq]
  exact h f l hf
/-- at the beat b' that is next, all that is left may be thought to begin at b' -/
theorem HallR.all {a d : Int → Int} {m b b' : Int} {left : List Int} (h : HallR a d m b left) (hb : b < b') (hf : ∀ k ∈ left, b' ≤ a k ∨ b' = b + 1) (l : Int) :
    (left.countP (fun k => decide (d k ≤ l)) : Int) ≤ m * max 0 (l - b' + 1) := by
  have h1 := h b' l hb
  have e : left.countP (fun k => decide (d k ≤ l)) = left.countP (fun k => decide ((b' ≤ a k ∨ b' = b + 1) ∧ d k ≤ l)) := by
    refine List.countP_congr fun k hk => ?_
    rw [decide_eq_true_eq, decide_eq_true_eq]
    exact ⟨fun q => ⟨hf k hk, q⟩, fun q => q.2⟩
  rw [e]
  exact h1
theorem HallR.last {a d : Int → Int} {m b b' : Int} {left : List Int} (h : HallR a d m b left) (hb : b < b') (hf : ∀ k ∈ left, b' ≤ a k ∨ b' = b + 1) {k : Int} (hk : k ∈ left) : b' ≤ d k := by
  have h1 := h.all hb hf (d k)
  have h2 : 0 < left.countP (fun j => decide (d j ≤ d k)) := List.countP_pos_iff.mpr ⟨k, hk, decide_eq_true (Int.le_refl _)⟩
  rcases Int.lt_or_le (d k) b' with z | z
  · rw [show max 0 (d k - b' + 1) = 0 by omega, Int.mul_zero] at h1
    omega
  · exact z
theorem HallR.turn {a d : Int → Int} {m b b' : Int} {ks rest nr : List Int} (h : HallR a d m b (ks ++ (rest ++ nr))) (hb : b < b') (hm : 0 ≤ m)
    (hf : ∀ k ∈ ks ++ (rest ++ nr), b' ≤ a k ∨ b' = b + 1) (hr : ∀ k ∈ ks ++ rest, a k ≤ b') (hn : ∀ k ∈ nr, b' < a k)
    (hs : ∀ x ∈ ks, ∀ y ∈ rest, d x ≤ d y) (hl : rest ≠ [] → (ks.length : Int) = m) : HallR a d m b' (rest ++ nr) := fun f l hbf => by
  by_cases e : f = b' + 1
  · subst e
    have e1 : (rest ++ nr).countP (fun k => decide ((b' + 1 ≤ a k ∨ b' + 1 = b' + 1) ∧ d k ≤ l)) = rest.countP (fun k => decide (d k ≤ l)) + nr.countP (fun k => decide (d k ≤ l)) := by
      rw [← List.countP_append]
      refine List.countP_congr fun k _ => ?_
      rw [decide_eq_true_eq, decide_eq_true_eq]
      exact ⟨fun q => q.2, fun q => ⟨.inr rfl, q⟩⟩
    rw [e1]
    have hnr : (nr.countP (fun k => decide (d k ≤ l)) : Int) ≤ m * max 0 (l - (b' + 1) + 1) := by
      have q := h (b' + 1) l (by omega)
      rw [List.countP_append, List.countP_append] at q
      have e2 : nr.countP (fun k => decide (d k ≤ l)) = nr.countP (fun k => decide ((b' + 1 ≤ a k ∨ b' + 1 = b + 1) ∧ d k ≤ l)) := by
        refine List.countP_congr fun k hk => ?_
        rw [decide_eq_true_eq, decide_eq_true_eq]
        have := hn k hk
        exact ⟨fun z => ⟨.inl (by omega), z⟩, fun z => z.2⟩
      rw [e2]
      omega
    by_cases hz : rest.countP (fun k => decide (d k ≤ l)) = 0
    · rw [hz]
      omega
    · obtain ⟨r, hr1, hr2⟩ := List.countP_pos_iff.mp (Nat.pos_of_ne_zero hz)
      have dr : d r ≤ l := of_decide_eq_true hr2
      have hlen := hl (List.ne_nil_of_mem hr1)
      have hlast : b' ≤ d r := h.last hb hf (List.mem_append_right _ (List.mem_append_left _ hr1))
      have q := h.all hb hf l
      rw [List.countP_append, List.countP_append] at q
      have e3 : ks.countP (fun k => decide (d k ≤ l)) = ks.length := List.countP_eq_length.mpr fun x hx => decide_eq_true (by
        have := hs x hx r hr1
        omega)
      rw [e3] at q
      have e4 : m * max 0 (l - b' + 1) = m * max 0 (l - (b' + 1) + 1) + m := by
        rw [show max 0 (l - b' + 1) = max 0 (l - (b' + 1) + 1) + 1 by omega, Int.mul_add, Int.mul_one]
      omega
  · have q := h f l (by omega)
    rw [List.countP_append] at q
    have e2 : (rest ++ nr).countP (fun k => decide ((f ≤ a k ∨ f = b' + 1) ∧ d k ≤ l)) ≤ (rest ++ nr).countP (fun k => decide ((f ≤ a k ∨ f = b + 1) ∧ d k ≤ l)) := by
      refine List.countP_mono_left fun k _ z => ?_
      rw [decide_eq_true_eq] at z ⊢
      exact ⟨.inl (z.1.resolve_right e), z.2⟩
    omega

/-! ### the plan, as it is filled -/
/-- first beat, last beat, by number -/
def fst (cs : List Call) (k : Int) : Int := (cs.getD k.toNat (0, 0)).1
def lst (cs : List Call) (k : Int) : Int := (cs.getD k.toNat (0, 0)).2
theorem fst_at {cs : List Call} {i : Nat} {c : Call} (h : cs[i]? = some c) : fst cs (i : Int) = c.1 := by
  unfold fst
  rw [Int.toNat_natCast, List.getD_eq_getElem?_getD, h]
  rfl
theorem lst_at {cs : List Call} {i : Nat} {c : Call} (h : cs[i]? = some c) : lst cs (i : Int) = c.2 := by
  unfold lst
  rw [Int.toNat_natCast, List.getD_eq_getElem?_getD, h]
  rfl

structure Plan (cs : List Call) (m b : Int) (left : List Int) (pl : List (Option Int)) : Prop where
  nd : left.Nodup
  inr : ∀ k ∈ left, 0 ≤ k ∧ k < (cs.length : Int)
  len : pl.length = cs.length
  none : ∀ k ∈ left, pl[k.toNat]? = some Option.none
  done : ∀ k : Nat, k < cs.length → (k : Int) ∉ left → ∃ x, pl[k]? = some (some x) ∧ fst cs k ≤ x ∧ x ≤ lst cs k ∧ x ≤ fst cs k + (cs.length : Int)
  upto : ∀ x : Int, some x ∈ pl → x ≤ b
  few : ∀ x : Int, (pl.count (some x) : Int) ≤ m
/-- between two beats -/
structure Wait (cs : List Call) (m b : Int) (left : List Int) : Prop where
  hall : HallR (fst cs) (lst cs) m b left
  soon : ∀ k ∈ left, b + 1 ≤ fst cs k + ((cs.length : Int) - (left.length : Int))

theorem count_set {pl : List (Option Int)} {k : Nat} {b x : Int} (h : pl[k]? = some none) : (pl.set k (some b)).count (some x) = pl.count (some x) + (if b = x then 1 else 0) := by
  induction pl generalizing k with
  | nil => simp at h
  | cons y r ih =>
    cases k with
    | zero =>
      have e : y = none := Option.some.inj h
      subst e
      rw [List.set_cons_zero, List.count_cons, List.count_cons]
      by_cases e : b = x
      · subst e
        simp
      · simp [e]
    | succ k =>
      rw [List.set_cons_succ, List.count_cons, List.count_cons, ih (by simpa using h)]
      omega

/-- one more call is given the beat b -/
structure Step (cs : List Call) (m b : Int) (j : Nat) (left : List Int) (pl : List (Option Int)) : Prop where
  nd : left.Nodup
  inr : ∀ k ∈ left, 0 ≤ k ∧ k < (cs.length : Int)
  len : pl.length = cs.length
  none : ∀ k ∈ left, pl[k.toNat]? = some Option.none
  done : ∀ k : Nat, k < cs.length → (k : Int) ∉ left → ∃ x, pl[k]? = some (some x) ∧ fst cs k ≤ x ∧ x ≤ lst cs k ∧ x ≤ fst cs k + (cs.length : Int)
  upto : ∀ x : Int, some x ∈ pl → x ≤ b
  few : ∀ x : Int, x ≠ b → (pl.count (some x) : Int) ≤ m
  now : pl.count (some b) ≤ j
theorem Plan.begin {cs : List Call} {m b b' : Int} {left : List Int} {pl : List (Option Int)} (h : Plan cs m b left pl) (hb : b < b') : Step cs m b' 0 left pl where
  nd := h.nd
  inr := h.inr
  len := h.len
  none := h.none
  done := h.done
  upto := fun x hx => by
    have := h.upto x hx
    omega
  few := fun x _ => h.few x
  now := by
    rw [List.count_eq_zero.mpr fun hx => ?_]
    · exact Nat.le_refl 0
    · have := h.upto b' hx
      omega
theorem Step.finish {cs : List Call} {m b : Int} {j : Nat} {left : List Int} {pl : List (Option Int)} (h : Step cs m b j left pl) (hj : (j : Int) ≤ m) : Plan cs m b left pl where
  nd := h.nd
  inr := h.inr
  len := h.len
  none := h.none
  done := h.done
  upto := h.upto
  few := fun x => by
    by_cases e : x = b
    · subst e
      have := h.now
      omega
    · exact h.few x e
theorem Step.more {cs : List Call} {m b : Int} {j : Nat} {left : List Int} {pl : List (Option Int)} (h : Step cs m b j left pl) {k : Int} (hk : k ∈ left) (h1 : fst cs k ≤ b) (h2 : b ≤ lst cs k) (h3 : b ≤ fst cs k + (cs.length : Int)) :
    Step cs m b (j + 1) (left.erase k) (pl.set k.toNat (some b)) where
  nd := h.nd.erase k
  inr := fun i hi => h.inr i (List.mem_of_mem_erase hi)
  len := by rw [List.length_set, h.len]
  none := fun i hi => by
    have hi2 := (h.nd.mem_erase_iff).mp hi
    have r1 := h.inr i hi2.2
    have r2 := h.inr k hk
    rw [List.getElem?_set_ne (by omega)]
    exact h.none i hi2.2
  done := fun i hi hn => by
    have r2 := h.inr k hk
    by_cases e : (i : Int) = k
    · refine ⟨b, ?_, by rw [e]; exact h1, by rw [e]; exact h2, by rw [e]; exact h3⟩
      have e2 : k.toNat = i := by omega
      rw [e2, List.getElem?_set_self (by rw [h.len]; exact hi)]
    · have hn2 : (i : Int) ∉ left := fun z => hn ((h.nd.mem_erase_iff).mpr ⟨e, z⟩)
      obtain ⟨x, hx, q⟩ := h.done i hi hn2
      refine ⟨x, ?_, q⟩
      rw [List.getElem?_set_ne (by omega)]
      exact hx
  upto := fun x hx => by
    rcases List.mem_or_eq_of_mem_set hx with z | z
    · exact h.upto x z
    · cases z
      exact Int.le_refl _
  few := fun x hx => by
    rw [count_set (h.none k hk), if_neg (fun e => hx e.symm)]
    exact h.few x hx
  now := by
    rw [count_set (h.none k hk), if_pos rfl]
    have := h.now
    omega

/-- the whole beat: ks are done, rest waits, nr isn't there yet -/
theorem Wait.turn {cs : List Call} {m b b' : Int} {left left' ks rest nr : List Int} (h : Wait cs m b left) (hb : b < b') (hm : 0 ≤ m)
    (hf : ∀ k ∈ left, b' ≤ fst cs k ∨ b' = b + 1) (p : left.Perm (ks ++ (rest ++ nr))) (p' : left'.Perm (rest ++ nr))
    (hr : ∀ k ∈ ks ++ rest, fst cs k ≤ b') (hn : ∀ k ∈ nr, b' < fst cs k) (hs : ∀ x ∈ ks, ∀ y ∈ rest, lst cs x ≤ lst cs y) (hl : rest ≠ [] → (ks.length : Int) = m)
    (hk : ks ≠ []) (hle : left.length ≤ cs.length) : Wait cs m b' left' where
  hall := ((h.hall.perm p).turn hb hm (fun k q => hf k (p.mem_iff.mpr q)) hr hn hs hl).perm p'.symm
  soon := fun k hk' => by
    have e1 := p.length_eq
    have e2 := p'.length_eq
    have e3 : 0 < ks.length := List.length_pos_iff.mpr hk
    rw [List.length_append] at e1
    have hkl : k ∈ left := p.mem_iff.mpr (List.mem_append_right _ (p'.mem_iff.mp hk'))
    have := h.soon k hkl
    rcases hf k hkl with z | z
    · omega
    · omega
theorem Wait.ok {cs : List Call} {m b b' : Int} {left : List Int} (h : Wait cs m b left) (hb : b < b') (hf : ∀ k ∈ left, b' ≤ fst cs k ∨ b' = b + 1) (hle : left.length ≤ cs.length) {k : Int} (hk : k ∈ left) :
    b' ≤ lst cs k ∧ b' ≤ fst cs k + (cs.length : Int) := by
  refine ⟨h.hall.last hb hf hk, ?_⟩
  have := h.soon k hk
  rcases hf k hk with z | z
  · omega
  · omega

def nums (n : Nat) : List Int := (List.range n).map fun i : Nat => (i : Int)
theorem mem_nums {n : Nat} {k : Int} : k ∈ nums n ↔ 0 ≤ k ∧ k < (n : Int) := by
  unfold nums
  rw [List.mem_map]
  constructor
  · rintro ⟨i, hi, rfl⟩
    have := List.mem_range.mp hi
    omega
  · intro h
    exact ⟨k.toNat, List.mem_range.mpr (by omega), by omega⟩
theorem nums_nodup (n : Nat) : (nums n).Nodup := by
  unfold nums
  rw [List.nodup_iff_pairwise_ne, List.pairwise_map]
  exact (List.nodup_iff_pairwise_ne.mp List.nodup_range).imp fun h e => h (by omega)
theorem nums_length (n : Nat) : (nums n).length = n := by
  unfold nums
  rw [List.length_map, List.length_range]
theorem map_fst_nums (cs : List Call) : (nums cs.length).map (fun k => (fst cs k, lst cs k)) = cs := by
  refine List.ext_getElem? fun i => ?_
  unfold nums
  rw [List.map_map, List.getElem?_map]
  by_cases h : i < cs.length
  · rw [List.getElem?_range h, List.getElem?_eq_getElem h]
    show some (fst cs (i : Int), lst cs (i : Int)) = _
    rw [fst_at (List.getElem?_eq_getElem h), lst_at (List.getElem?_eq_getElem h)]
  · rw [List.getElem?_eq_none_iff.mpr (by rw [List.length_range]; omega), List.getElem?_eq_none_iff.mpr (by omega)]
    rfl
theorem Plan.start (cs : List Call) {m : Int} (hm : 0 ≤ m) : Plan cs m 0 (nums cs.length) (List.replicate cs.length Option.none) where
  nd := nums_nodup _
  inr := fun k hk => mem_nums.mp hk
  len := List.length_replicate
  none := fun k hk => by
    have := mem_nums.mp hk
    rw [List.getElem?_replicate, if_pos (by omega)]
  done := fun k hk hn => absurd (mem_nums.mpr (by omega)) hn
  upto := fun x hx => by
    have := List.eq_of_mem_replicate hx
    cases this
  few := fun x => by
    rw [List.count_eq_zero.mpr fun hx => ?_]
    · omega
    · have := List.eq_of_mem_replicate hx
      cases this
theorem Wait.start {cs : List Call} {m : Int} (h : Hall cs m) (ok : ∀ c ∈ cs, 1 ≤ c.1 ∧ c.1 ≤ c.2) (hm : 0 ≤ m) : Wait cs m 0 (nums cs.length) where
  hall := fun f l hf => by
    have hmem : ∀ k ∈ nums cs.length, (fst cs k, lst cs k) ∈ cs := fun k hk => by
      have q : (fst cs k, lst cs k) ∈ (nums cs.length).map (fun k => (fst cs k, lst cs k)) := List.mem_map.mpr ⟨k, hk, rfl⟩
      rw [map_fst_nums] at q
      exact q
    have e : (nums cs.length).countP (fun k => decide ((f ≤ fst cs k ∨ f = 0 + 1) ∧ lst cs k ≤ l)) = wn cs f l := by
      have e2 : wn cs f l = wn ((nums cs.length).map (fun k => (fst cs k, lst cs k))) f l := by rw [map_fst_nums]
      rw [e2]
      unfold wn
      rw [List.countP_map]
      refine List.countP_congr fun k hk => ?_
      have o := ok _ (hmem k hk)
      show decide _ = true ↔ inS f l (fst cs k, lst cs k) = true
      rw [inS_iff, decide_eq_true_eq]
      have o1 : 1 ≤ fst cs k := o.1
      show _ ↔ f ≤ fst cs k ∧ lst cs k ≤ l
      omega
    rw [e]
    by_cases hfl : f ≤ l
    · have := h f l hfl
      rw [show max 0 (l - f + 1) = l - f + 1 by omega]
      exact this
    · have e0 : wn cs f l = 0 := List.countP_eq_zero.mpr fun c hc q => by
        have := inS_iff.mp q
        have := ok c hc
        omega
      rw [e0]
      exact Int.mul_nonneg hm (by omega)
  soon := fun k hk => by
    have q : (fst cs k, lst cs k) ∈ cs := by
      have q : (fst cs k, lst cs k) ∈ (nums cs.length).map (fun k => (fst cs k, lst cs k)) := List.mem_map.mpr ⟨k, hk, rfl⟩
      rw [map_fst_nums] at q
      exact q
    have o : 1 ≤ fst cs k := (ok _ q).1
    rw [nums_length]
    omega
/-- the plan at the end -/
theorem Plan.last {cs : List Call} {m b : Int} {pl : List (Option Int)} (h : Plan cs m b [] pl) : ∃ ps : List Int, pl = ps.map some ∧ Fits cs ps ∧ (∀ x, (ps.count x : Int) ≤ m) ∧ Fits (cs.map fun c => (c.1, min c.2 (c.1 + (cs.length : Int)))) ps := by
  have key : ∀ i : Nat, i < cs.length → ∃ x, pl[i]? = some (some x) ∧ fst cs i ≤ x ∧ x ≤ lst cs i ∧ x ≤ fst cs i + (cs.length : Int) := fun i hi => h.done i hi (List.not_mem_nil)
  have hps : ∃ ps : List Int, pl = ps.map some := by
    refine ⟨pl.map fun o => o.getD 0, ?_⟩
    rw [List.map_map]
    refine List.ext_getElem? fun i => ?_
    rw [List.getElem?_map]
    by_cases hi : i < cs.length
    · obtain ⟨x, hx, _⟩ := key i hi
      rw [hx]
      rfl
    · rw [List.getElem?_eq_none_iff.mpr (by rw [h.len]; omega)]
      rfl
  obtain ⟨ps, e⟩ := hps
  have hlen : ps.length = cs.length := by
    rw [← h.len, e, List.length_map]
  have get : ∀ (i : Nat) (c : Call) (x : Int), cs[i]? = some c → ps[i]? = some x → c.1 ≤ x ∧ x ≤ c.2 ∧ x ≤ c.1 + (cs.length : Int) := fun i c x hc hx => by
    obtain ⟨hi, _⟩ := List.getElem?_eq_some_iff.mp hc
    obtain ⟨y, hy, q1, q2, q3⟩ := key i hi
    rw [e, List.getElem?_map, hx] at hy
    have ey : x = y := Option.some.inj (Option.some.inj hy)
    subst ey
    rw [fst_at hc] at q1 q3
    rw [lst_at hc] at q2
    exact ⟨q1, q2, q3⟩
  refine ⟨ps, e, Fits.of_get hlen fun i c x hc hx => ⟨(get i c x hc hx).1, (get i c x hc hx).2.1⟩, fun x => ?_, Fits.of_get (by rw [List.length_map]; exact hlen) fun i c x hc hx => ?_⟩
  · have q := h.few x
    have e2 : pl.count (some x) = ps.count x := by
      rw [e]
      clear q get hlen e key h
      induction ps with
      | nil => rfl
      | cons y r ih =>
        rw [List.map_cons, List.count_cons, List.count_cons, ih]
        by_cases e : y = x
        · subst e
          simp
        · simp [e]
    rw [e2] at q
    exact q
  · rw [List.getElem?_map] at hc
    cases hcs : cs[i]? with
    | none =>
      rw [hcs] at hc
      cases hc
    | some c0 =>
      rw [hcs] at hc
      have ec : (c0.1, min c0.2 (c0.1 + (cs.length : Int))) = c := Option.some.inj hc
      subst ec
      have q := get i c0 x hcs hx
      show c0.1 ≤ x ∧ x ≤ min c0.2 (c0.1 + (cs.length : Int))
      omega
end Dy
/-! DyC: calls placed into beats, one making room for another. -/
namespace Dy

theorem nd_length {α : Type} [DecidableEq α] : ∀ {l l2 : List α}, l.Nodup → (∀ x ∈ l, x ∈ l2) → l.length ≤ l2.length
  | [], _, _, _ => Nat.zero_le _
  | x :: r, l2, hn, h => by
    have hx : x ∈ l2 := h x List.mem_cons_self
    have hn2 := List.nodup_cons.mp hn
    have ih := nd_length (l := r) (l2 := l2.erase x) hn2.2 fun y hy => by
      have ne : y ≠ x := fun e => hn2.1 (e ▸ hy)
      exact (List.mem_erase_of_ne ne).mpr (h y (List.mem_cons_of_mem _ hy))
    have e := List.length_erase_of_mem hx
    have := List.length_pos_of_mem hx
    rw [List.length_cons]
    omega

theorem nd_one {α : Type} (x : α) : [x].Nodup := List.nodup_cons.mpr ⟨List.not_mem_nil, List.nodup_nil⟩
/-- a, a + 1, .. below b -/
def span (a b : Int) : List Int := (List.range (b - a).toNat).map fun i : Nat => a + (i : Int)
theorem mem_span {a b x : Int} : x ∈ span a b ↔ a ≤ x ∧ x < b := by
  unfold span
  rw [List.mem_map]
  constructor
  · rintro ⟨i, hi, rfl⟩
    have := List.mem_range.mp hi
    omega
  · intro h
    exact ⟨(x - a).toNat, List.mem_range.mpr (by omega), by omega⟩
theorem span_length (a b : Int) : (span a b).length = (b - a).toNat := by
  unfold span
  rw [List.length_map, List.length_range]
/-- the beats that are worth trying -/
def bts (cs : List Call) (k : Int) : List Int := span (fst cs k) (min (lst cs k) (fst cs k + (cs.length : Int)) + 1)
theorem mem_bts {cs : List Call} {k x : Int} : x ∈ bts cs k ↔ fst cs k ≤ x ∧ x ≤ lst cs k ∧ x ≤ fst cs k + (cs.length : Int) := by
  unfold bts
  rw [mem_span]
  omega

abbrev Plc := List (Int × Int)
def cnt (p : Plc) (b : Int) : Nat := p.countP fun e => decide (e.2 = b)
def there (p : Plc) (b : Int) : List Int := (p.filter fun e => decide (e.2 = b)).map (·.1)
def putP (p : Plc) (k b : Int) : Plc := if (p.any fun e => decide (e.1 = k)) = true then p.map (fun e => if e.1 = k then (e.1, b) else e) else p ++ [(k, b)]

theorem there_length (p : Plc) (b : Int) : (there p b).length = cnt p b := by
  unfold there cnt
  rw [List.length_map, List.countP_eq_length_filter]
theorem mem_there {p : Plc} {b k : Int} : k ∈ there p b ↔ (k, b) ∈ p := by
  unfold there
  rw [List.mem_map]
  constructor
  · rintro ⟨⟨i, x⟩, hi, rfl⟩
    obtain ⟨h1, h2⟩ := List.mem_filter.mp hi
    have e : x = b := of_decide_eq_true h2
    rw [← e]
    exact h1
  · intro h
    exact ⟨(k, b), List.mem_filter.mpr ⟨h, decide_eq_true rfl⟩, rfl⟩
theorem there_nodup {p : Plc} (h : (p.map (·.1)).Nodup) (b : Int) : (there p b).Nodup := by
  unfold there
  exact h.sublist (List.Sublist.map _ List.filter_sublist)
theorem key_mem {p : Plc} {k : Int} : k ∈ p.map (·.1) ↔ ∃ b, (k, b) ∈ p := by
  rw [List.mem_map]
  constructor
  · rintro ⟨⟨i, x⟩, hi, rfl⟩
    exact ⟨x, hi⟩
  · rintro ⟨b, h⟩
    exact ⟨(k, b), h, rfl⟩
theorem any_key {p : Plc} {k : Int} : (p.any fun e => decide (e.1 = k)) = true ↔ k ∈ p.map (·.1) := by
  rw [List.any_eq_true, List.mem_map]
  constructor
  · rintro ⟨e, h1, h2⟩
    exact ⟨e, h1, of_decide_eq_true h2⟩
  · rintro ⟨e, h1, h2⟩
    exact ⟨e, h1, decide_eq_true h2⟩
theorem put_keys (p : Plc) (k b : Int) : (putP p k b).map (·.1) = if k ∈ p.map (·.1) then p.map (·.1) else p.map (·.1) ++ [k] := by
  unfold putP
  by_cases h : k ∈ p.map (·.1)
  · rw [if_pos (any_key.mpr h), if_pos h, List.map_map]
    refine List.map_congr_left fun e _ => ?_
    show (if e.1 = k then (e.1, b) else e).1 = e.1
    split <;> rfl
  · rw [if_neg (fun q => h (any_key.mp q)), if_neg h, List.map_append]
    rfl
theorem mem_put {p : Plc} {k b : Int} {e : Int × Int} (h : e ∈ putP p k b) : e = (k, b) ∨ (e ∈ p ∧ e.1 ≠ k) := by
  unfold putP at h
  split at h
  · obtain ⟨e0, h0, h1⟩ := List.mem_map.mp h
    split at h1
    · rename_i hk
      left
      rw [← h1, hk]
    · rename_i hk
      right
      rw [← h1]
      exact ⟨h0, hk⟩
  · rename_i hk
    rcases List.mem_append.mp h with h0 | h0
    · exact .inr ⟨h0, fun q => hk (any_key.mpr (List.mem_map.mpr ⟨e, h0, q⟩))⟩
    · exact .inl (List.mem_singleton.mp h0)
theorem put_nodup {p : Plc} (h : (p.map (·.1)).Nodup) (k b : Int) : ((putP p k b).map (·.1)).Nodup := by
  rw [put_keys]
  split
  · exact h
  · rename_i hk
    exact List.nodup_append.mpr ⟨h, nd_one _, fun x hx y hy => by
      rw [List.mem_singleton.mp hy]
      exact fun e => hk (e ▸ hx)⟩
theorem put_has (p : Plc) (k b : Int) : (k, b) ∈ putP p k b := by
  unfold putP
  split
  · rename_i h
    obtain ⟨e, h1, h2⟩ := List.mem_map.mp (any_key.mp h)
    exact List.mem_map.mpr ⟨e, h1, by rw [if_pos h2, h2]⟩
  · exact List.mem_append_right _ (List.mem_singleton.mpr rfl)
theorem cnt_put (p : Plc) (hn : (p.map (·.1)).Nodup) (k b x : Int) : cnt (putP p k b) x ≤ cnt p x + (if x = b then 1 else 0) := by
  rw [← there_length, ← there_length]
  by_cases e : x = b
  · rw [if_pos e]
    have := nd_length (l := there (putP p k b) x) (l2 := k :: there p x) (there_nodup (put_nodup hn k b) x) fun y hy => by
      rcases mem_put (mem_there.mp hy) with q | q
      · rw [Prod.mk.injEq] at q
        rw [q.1]
        exact List.mem_cons_self
      · exact List.mem_cons_of_mem _ (mem_there.mpr q.1)
    rw [List.length_cons] at this
    exact this
  · rw [if_neg e]
    exact nd_length (there_nodup (put_nodup hn k b) x) fun y hy => by
      rcases mem_put (mem_there.mp hy) with q | q
      · rw [Prod.mk.injEq] at q
        exact absurd q.2 e
      · exact mem_there.mpr q.1

/-- some calls have their beats -/
structure Pl (cs : List Call) (m : Int) (p : Plc) : Prop where
  nd : (p.map (·.1)).Nodup
  inr : ∀ e ∈ p, 0 ≤ e.1 ∧ e.1 < (cs.length : Int)
  fit : ∀ e ∈ p, e.2 ∈ bts cs e.1
  few : ∀ b, (cnt p b : Int) ≤ m
structure Succ (cs : List Call) (m : Int) (p : Plc) (tr : List Int) (at_ : Int) (p' : Plc) : Prop where
  pl : Pl cs m p'
  keys : ∀ k, k ∈ p'.map (·.1) ↔ k ∈ p.map (·.1) ∨ k = at_
  old : ∀ e ∈ p', e ∈ p ∨ e.2 ∉ tr
  new : ∀ b, (at_, b) ∈ p' → b ∉ tr
/-- what is tried is full -/
structure Trd (p : Plc) (tr : List Int) : Prop where
  nd : tr.Nodup
  pos : ∀ b ∈ tr, 1 ≤ cnt p b
def Shut (cs : List Call) (m : Int) (p : Plc) (tr : List Int) (b : Int) : Prop := m ≤ (cnt p b : Int) ∧ ∀ k, (k, b) ∈ p → ∀ x ∈ bts cs k, x ∈ tr
theorem Shut.mono {cs : List Call} {m : Int} {p : Plc} {tr tr' : List Int} {b : Int} (h : Shut cs m p tr b) (s : ∀ x ∈ tr, x ∈ tr') : Shut cs m p tr' b := ⟨h.1, fun k hk x hx => s x (h.2 k hk x hx)⟩
structure Fail (cs : List Call) (m : Int) (p : Plc) (tr : List Int) (at_ : Int) (tr' : List Int) : Prop where
  trd : Trd p tr'
  sub : ∀ b ∈ tr, b ∈ tr'
  all : ∀ b ∈ bts cs at_, b ∈ tr'
  full : ∀ b ∈ tr', b ∉ tr → Shut cs m p tr' b

theorem Trd.length {p : Plc} {tr : List Int} (h : Trd p tr) : tr.length ≤ p.length := by
  have := nd_length (l := tr) (l2 := p.map (·.2)) h.nd fun b hb => by
    have h1 : 0 < p.countP fun e => decide (e.2 = b) := h.pos b hb
    obtain ⟨e, he, q⟩ := List.countP_pos_iff.mp h1
    exact List.mem_map.mpr ⟨e, he, of_decide_eq_true q⟩
  rw [List.length_map] at this
  exact this
theorem Pl.length {cs : List Call} {m : Int} {p : Plc} (h : Pl cs m p) : p.length ≤ cs.length := by
  have := nd_length (l := p.map (·.1)) (l2 := nums cs.length) h.nd fun k hk => by
    obtain ⟨e, he, rfl⟩ := List.mem_map.mp hk
    exact mem_nums.mpr (h.inr e he)
  rw [List.length_map, nums_length] at this
  exact this

/-! ### the loop over beats -/
structure Go (cs : List Call) (m : Int) (p : Plc) (tr0 : List Int) (done tr : List Int) : Prop where
  trd : Trd p tr
  sub : ∀ b ∈ tr0, b ∈ tr
  all : ∀ b ∈ done, b ∈ tr
  full : ∀ b ∈ tr, b ∉ tr0 → Shut cs m p tr b
theorem Go.start {cs : List Call} {m : Int} {p : Plc} {tr0 : List Int} (h : Trd p tr0) : Go cs m p tr0 [] tr0 :=
  ⟨h, fun _ q => q, fun _ q => absurd q List.not_mem_nil, fun _ h1 h2 => absurd h1 h2⟩
theorem Go.skip {cs : List Call} {m : Int} {p : Plc} {tr0 done tr : List Int} {b : Int} (h : Go cs m p tr0 done tr) (hb : b ∈ tr) : Go cs m p tr0 (done ++ [b]) tr :=
  ⟨h.trd, h.sub, fun x hx => by
    rcases List.mem_append.mp hx with q | q
    · exact h.all x q
    · rw [List.mem_singleton.mp q]
      exact hb, h.full⟩
theorem Go.fin {cs : List Call} {m : Int} {p : Plc} {tr0 tr : List Int} {a : Int} (h : Go cs m p tr0 (bts cs a) tr) : Fail cs m p tr0 a tr := ⟨h.trd, h.sub, h.all, h.full⟩
structure Try (cs : List Call) (m : Int) (p : Plc) (tr0 done : List Int) (b : Int) (js tr : List Int) : Prop where
  trd : Trd p tr
  sub : ∀ x ∈ tr0, x ∈ tr
  all : ∀ x ∈ done, x ∈ tr
  here : b ∈ tr
  fresh : b ∉ tr0
  full : ∀ x ∈ tr, x ∉ tr0 → x = b ∨ Shut cs m p tr x
  oth : ∀ k ∈ js, ∀ x ∈ bts cs k, x ∈ tr
theorem Try.start {cs : List Call} {m : Int} {p : Plc} {tr0 done tr : List Int} {b : Int} (h : Go cs m p tr0 done tr) (hb : b ∉ tr) (h1 : 1 ≤ m) (hm : m ≤ (cnt p b : Int)) : Try cs m p tr0 done b [] (tr ++ [b]) where
  trd := ⟨List.nodup_append.mpr ⟨h.trd.nd, nd_one _, fun x hx y hy => by
      rw [List.mem_singleton.mp hy]
      exact fun e => hb (e ▸ hx)⟩, fun x hx => by
    rcases List.mem_append.mp hx with q | q
    · exact h.trd.pos x q
    · rw [List.mem_singleton.mp q]
      omega⟩
  sub := fun x hx => List.mem_append_left _ (h.sub x hx)
  all := fun x hx => List.mem_append_left _ (h.all x hx)
  here := List.mem_append_right _ (List.mem_singleton.mpr rfl)
  fresh := fun q => hb (h.sub b q)
  full := fun x hx hn => by
    rcases List.mem_append.mp hx with q | q
    · exact .inr ((h.full x q hn).mono fun y hy => List.mem_append_left _ hy)
    · exact .inl (List.mem_singleton.mp q)
  oth := fun k hk => absurd hk List.not_mem_nil
theorem Try.more {cs : List Call} {m : Int} {p : Plc} {tr0 done js tr tr' : List Int} {b k : Int} (h : Try cs m p tr0 done b js tr) (f : Fail cs m p tr k tr') : Try cs m p tr0 done b (js ++ [k]) tr' where
  trd := f.trd
  sub := fun x hx => f.sub x (h.sub x hx)
  all := fun x hx => f.sub x (h.all x hx)
  here := f.sub b h.here
  fresh := h.fresh
  full := fun x hx hn => by
    by_cases q : x ∈ tr
    · rcases h.full x q hn with z | z
      · exact .inl z
      · exact .inr (z.mono f.sub)
    · exact .inr (f.full x hx q)
  oth := fun i hi x hx => by
    rcases List.mem_append.mp hi with q | q
    · exact f.sub x (h.oth i q x hx)
    · rw [List.mem_singleton.mp q] at hx
      exact f.all x hx
theorem Try.done {cs : List Call} {m : Int} {p : Plc} {tr0 done tr : List Int} {b : Int} (h : Try cs m p tr0 done b (there p b) tr) (hm : m ≤ (cnt p b : Int)) : Go cs m p tr0 (done ++ [b]) tr where
  trd := h.trd
  sub := h.sub
  all := fun x hx => by
    rcases List.mem_append.mp hx with q | q
    · exact h.all x q
    · rw [List.mem_singleton.mp q]
      exact h.here
  full := fun x hx hn => by
    rcases h.full x hx hn with z | z
    · rw [z]
      exact ⟨hm, fun k hk => h.oth k (mem_there.mpr hk)⟩
    · exact z

theorem Succ.here {cs : List Call} {m : Int} {p : Plc} {tr0 : List Int} {a b : Int} (h : Pl cs m p) (ha : 0 ≤ a ∧ a < (cs.length : Int)) (hb : b ∈ bts cs a) (hn : b ∉ tr0) (hm : (cnt p b : Int) < m) : Succ cs m p tr0 a (putP p a b) where
  pl := ⟨put_nodup h.nd a b, fun e he => by
      rcases mem_put he with q | q
      · rw [q]
        exact ha
      · exact h.inr e q.1, fun e he => by
      rcases mem_put he with q | q
      · rw [q]
        exact hb
      · exact h.fit e q.1, fun x => by
      have h1 := cnt_put p h.nd a b x
      have h2 := h.few x
      split at h1
      · rename_i e
        subst e
        omega
      · omega⟩
  keys := fun k => by
    rw [put_keys]
    split
    · rename_i q
      exact ⟨fun z => .inl z, fun z => z.elim (fun y => y) fun e => e ▸ q⟩
    · rw [List.mem_append, List.mem_singleton]
  old := fun e he => by
    rcases mem_put he with q | q
    · rw [q]
      exact .inr hn
    · exact .inl q.1
  new := fun x hx => by
    rcases mem_put hx with q | q
    · rw [Prod.mk.injEq] at q
      rw [q.2]
      exact hn
    · exact absurd rfl q.2
theorem Succ.there {cs : List Call} {m : Int} {p p2 : Plc} {tr0 done js tr : List Int} {a b k : Int} (h : Pl cs m p) (t : Try cs m p tr0 done b js tr) (hk : (k, b) ∈ p) (s : Succ cs m p tr k p2)
    (ha : 0 ≤ a ∧ a < (cs.length : Int)) (hb : b ∈ bts cs a) : Succ cs m p tr0 a (putP p2 a b) := by
  have room : (cnt p2 b : Int) < m := by
    have h1 := h.few b
    have h2 : cnt p2 b + 1 ≤ cnt p b := by
      rw [← there_length, ← there_length]
      have nk : k ∉ Dy.there p2 b := fun q => s.new b (mem_there.mp q) t.here
      have := nd_length (l := k :: Dy.there p2 b) (l2 := Dy.there p b) (List.nodup_cons.mpr ⟨nk, there_nodup s.pl.nd b⟩) fun y hy => by
        rcases List.mem_cons.mp hy with e | e
        · rw [e]
          exact mem_there.mpr hk
        · rcases s.old (y, b) (mem_there.mp e) with q | q
          · exact mem_there.mpr q
          · exact absurd t.here q
      rw [List.length_cons] at this
      exact this
    omega
  have q := Succ.here (tr0 := tr0) s.pl ha hb t.fresh room
  refine ⟨q.pl, fun i => ?_, fun e he => ?_, q.new⟩
  · rw [q.keys, s.keys]
    constructor
    · rintro ((z | z) | z)
      · exact .inl z
      · exact .inl (key_mem.mpr ⟨b, z ▸ hk⟩)
      · exact .inr z
    · rintro (z | z)
      · exact .inl (.inl z)
      · exact .inr z
  · rcases q.old e he with z | z
    · rcases s.old e z with y | y
      · exact .inl y
      · exact .inr fun x => y (t.sub _ x)
    · exact .inr z

/-! ### what comes of it -/
theorem count_in {p : Plc} {m : Int} : ∀ {tr : List Int}, tr.Nodup → (∀ b ∈ tr, m ≤ (cnt p b : Int)) → m * (tr.length : Int) ≤ (p.countP (fun e => decide (e.2 ∈ tr)) : Int)
  | [], _, _ => by
    show m * 0 ≤ _
    omega
  | b :: r, hn, h => by
    have hn2 := List.nodup_cons.mp hn
    have ih := count_in (p := p) (m := m) (tr := r) hn2.2 fun x hx => h x (List.mem_cons_of_mem _ hx)
    have hb := h b List.mem_cons_self
    have e : p.countP (fun e => decide (e.2 ∈ b :: r)) = cnt p b + p.countP (fun e => decide (e.2 ∈ r)) := by
      unfold cnt
      clear ih hb h hn
      induction p with
      | nil => rfl
      | cons x s ih =>
        rw [List.countP_cons, List.countP_cons, List.countP_cons, ih]
        have key : (if decide (x.2 ∈ b :: r) = true then 1 else 0) = (if decide (x.2 = b) = true then 1 else 0) + (if decide (x.2 ∈ r) = true then 1 else 0) := by
          by_cases c : x.2 = b
          · have c2 : x.2 ∉ r := c ▸ hn2.1
            simp [c, hn2.1]
          · simp [c]
        omega
    rw [e, List.length_cons]
    have e2 : m * ((r.length + 1 : Nat) : Int) = m * (r.length : Int) + m := by rw [Int.natCast_succ, Int.mul_add, Int.mul_one]
    rw [e2]
    omega
theorem count_le {S : List Int} {g : Int → Int} {m : Int} : ∀ {tr : List Int}, (∀ b, (S.countP (fun k => decide (g k = b)) : Int) ≤ m) → (S.countP (fun k => decide (g k ∈ tr)) : Int) ≤ m * (tr.length : Int)
  | [], _ => by
    have e : S.countP (fun k => decide (g k ∈ ([] : List Int))) = 0 := List.countP_eq_zero.mpr fun x _ q => by simp at q
    rw [e]
    show (0 : Int) ≤ m * 0
    omega
  | b :: r, h => by
    have ih := count_le (S := S) (g := g) (m := m) (tr := r) h
    have hb := h b
    have e : S.countP (fun k => decide (g k ∈ b :: r)) ≤ S.countP (fun k => decide (g k = b)) + S.countP (fun k => decide (g k ∈ r)) := by
      clear ih hb h
      induction S with
      | nil => exact Nat.le_refl _
      | cons x s ih =>
        rw [List.countP_cons, List.countP_cons, List.countP_cons]
        have key : (if decide (g x ∈ b :: r) = true then 1 else 0) ≤ (if decide (g x = b) = true then 1 else 0) + (if decide (g x ∈ r) = true then 1 else 0) := by
          by_cases c : g x = b
          · simp [c]
          · simp [c]
        omega
    rw [List.length_cons]
    have e2 : m * ((r.length + 1 : Nat) : Int) = m * (r.length : Int) + m := by rw [Int.natCast_succ, Int.mul_add, Int.mul_one]
    rw [e2]
    omega
/-- the beats tried -/
def near (cs : List Call) : List Call := cs.map fun c => (c.1, min c.2 (c.1 + (cs.length : Int)))
theorem Fits.get : ∀ {cs : List Call} {ps : List Int}, Fits cs ps → ∀ (i : Nat) (c : Call), cs[i]? = some c → ∃ x, ps[i]? = some x ∧ c.1 ≤ x ∧ x ≤ c.2
  | _, _, .nil, i, c, h => by simp at h
  | _, _, .cons (x := x) h1 h2 t, 0, c, h => by
    have e := Option.some.inj h
    subst e
    exact ⟨x, rfl, h1, h2⟩
  | _, _, .cons h1 h2 t, i + 1, c, h => by
    obtain ⟨x, q⟩ := t.get i c (by simpa using h)
    exact ⟨x, by simpa using q⟩
theorem map_get_nums (ps : List Int) : (nums ps.length).map (fun k => ps.getD k.toNat 0) = ps := by
  refine List.ext_getElem? fun i => ?_
  unfold nums
  rw [List.map_map, List.getElem?_map]
  by_cases h : i < ps.length
  · rw [List.getElem?_range h, List.getElem?_eq_getElem h]
    show some (ps.getD ((i : Int)).toNat 0) = _
    rw [Int.toNat_natCast, List.getD_eq_getElem?_getD, List.getElem?_eq_getElem h]
    rfl
  · rw [List.getElem?_eq_none_iff.mpr (by rw [List.length_range]; omega), List.getElem?_eq_none_iff.mpr (by omega)]
    rfl
theorem fail_top {cs : List Call} {m : Int} {p : Plc} {a : Int} {tr : List Int} {ps : List Int} (h : Pl cs m p) (ha : 0 ≤ a ∧ a < (cs.length : Int)) (hn : a ∉ p.map (·.1)) (f : Fail cs m p [] a tr)
    (hf : Fits (near cs) ps) (hc : ∀ x, (ps.count x : Int) ≤ m) : False := by
  let S : List Int := a :: (p.filter fun e => decide (e.2 ∈ tr)).map (·.1)
  have hlen : ps.length = cs.length := by
    rw [hf.length]
    unfold near
    rw [List.length_map]
  have hS : S.Nodup := by
    refine List.nodup_cons.mpr ⟨fun q => hn ?_, h.nd.sublist (List.Sublist.map _ List.filter_sublist)⟩
    obtain ⟨e, he, rfl⟩ := List.mem_map.mp q
    exact List.mem_map.mpr ⟨e, (List.mem_filter.mp he).1, rfl⟩
  have hin : ∀ k ∈ S, k ∈ nums cs.length := fun k hk => by
    rcases List.mem_cons.mp hk with e | e
    · rw [e]
      exact mem_nums.mpr ha
    · obtain ⟨x, hx, rfl⟩ := List.mem_map.mp e
      exact mem_nums.mpr (h.inr x (List.mem_filter.mp hx).1)
  have hg : ∀ k ∈ S, ps.getD k.toNat 0 ∈ tr := fun k hk => by
    have hk0 := mem_nums.mp (hin k hk)
    have hlt : k.toNat < cs.length := by omega
    have hcs : cs[k.toNat]? = some cs[k.toNat] := List.getElem?_eq_getElem hlt
    have ek : ((k.toNat : Nat) : Int) = k := by omega
    have hnr : (near cs)[k.toNat]? = some (cs[k.toNat].1, min cs[k.toNat].2 (cs[k.toNat].1 + (cs.length : Int))) := by
      unfold near
      rw [List.getElem?_map, hcs]
      rfl
    obtain ⟨x, hx, b1, b2⟩ := hf.get k.toNat _ hnr
    have f1 := fst_at hcs
    have f2 := lst_at hcs
    rw [ek] at f1 f2
    have hb : x ∈ bts cs k := by
      rw [mem_bts, f1, f2]
      have b1' : cs[k.toNat].1 ≤ x := b1
      have b2' : x ≤ min cs[k.toNat].2 (cs[k.toNat].1 + (cs.length : Int)) := b2
      omega
    have ex : ps.getD k.toNat 0 = x := by
      rw [List.getD_eq_getElem?_getD, hx]
      rfl
    rw [ex]
    rcases List.mem_cons.mp hk with e | e
    · rw [e] at hb
      exact f.all x hb
    · obtain ⟨⟨i, b⟩, he, e2⟩ := List.mem_map.mp e
      have e3 : i = k := e2
      subst e3
      obtain ⟨q1, q2⟩ := List.mem_filter.mp he
      exact (f.full b (of_decide_eq_true q2) List.not_mem_nil).2 i q1 x hb
  have c1 : S.countP (fun k => decide (ps.getD k.toNat 0 ∈ tr)) = S.length := List.countP_eq_length.mpr fun k hk => decide_eq_true (hg k hk)
  have c2 := count_le (S := S) (g := fun k => ps.getD k.toNat 0) (m := m) (tr := tr) fun b => by
    have q := nd_length (l := S.filter fun k => decide (ps.getD k.toNat 0 = b)) (l2 := (nums cs.length).filter fun k => decide (ps.getD k.toNat 0 = b)) (hS.sublist List.filter_sublist) fun y hy => by
      obtain ⟨y1, y2⟩ := List.mem_filter.mp hy
      exact List.mem_filter.mpr ⟨hin y y1, y2⟩
    have q2 : ((nums cs.length).filter fun k => decide (ps.getD k.toNat 0 = b)).length = ps.count b := by
      rw [← hlen, ← List.countP_eq_length_filter]
      have q3 : ps.count b = ((nums ps.length).map (fun k => ps.getD k.toNat 0)).count b := by rw [map_get_nums]
      rw [q3, List.count_eq_countP, List.countP_map]
      refine List.countP_congr fun k _ => ?_
      show decide _ = true ↔ (ps.getD k.toNat 0 == b) = true
      rw [decide_eq_true_eq, beq_iff_eq]
    have q4 := hc b
    rw [List.countP_eq_length_filter]
    omega
  have c3 := count_in (p := p) (m := m) (tr := tr) f.trd.nd fun b hb => (f.full b hb List.not_mem_nil).1
  rw [c1] at c2
  have c4 : S.length = 1 + p.countP (fun e => decide (e.2 ∈ tr)) := by
    show (a :: (p.filter fun e => decide (e.2 ∈ tr)).map (·.1)).length = _
    rw [List.length_cons, List.length_map, List.countP_eq_length_filter]
    omega
  omega
/-- all have found a beat -/
theorem succ_all {cs : List Call} {m : Int} {p : Plc} (h : Pl cs m p) (hk : ∀ k : Nat, k < cs.length → (k : Int) ∈ p.map (·.1)) : Hall cs m := by
  let g : Int → Int := fun k => ((p.find? fun e => decide (e.1 = k)).map (·.2)).getD 0
  have hg : ∀ k ∈ nums cs.length, (k, g k) ∈ p := fun k hk' => by
    have hk0 := mem_nums.mp hk'
    have ek : ((k.toNat : Nat) : Int) = k := by omega
    have hm := hk k.toNat (by omega)
    rw [ek] at hm
    obtain ⟨e, he, e1⟩ := List.mem_map.mp hm
    have hs : (p.find? fun e => decide (e.1 = k)).isSome = true := List.find?_isSome.mpr ⟨e, he, decide_eq_true e1⟩
    obtain ⟨x, hx⟩ := Option.isSome_iff_exists.mp hs
    have h1 : x.1 = k := of_decide_eq_true (by simpa using List.find?_some hx)
    have h2 : x ∈ p := List.mem_of_find?_eq_some hx
    have h3 : g k = x.2 := by
      show ((p.find? fun e => decide (e.1 = k)).map (·.2)).getD 0 = x.2
      rw [hx]
      rfl
    rw [h3, ← h1]
    exact h2
  have hf : Fits cs ((nums cs.length).map g) := Fits.of_get (by rw [List.length_map, nums_length]) fun i c x hc hx => by
    obtain ⟨hi, _⟩ := List.getElem?_eq_some_iff.mp hc
    have ni : (nums cs.length)[i]? = some (i : Int) := by
      unfold nums
      rw [List.getElem?_map, List.getElem?_range hi]
      rfl
    rw [List.getElem?_map, ni] at hx
    have ex : g (i : Int) = x := Option.some.inj hx
    have hm := hg (i : Int) (mem_nums.mpr (by omega))
    have q := mem_bts.mp (h.fit _ hm)
    have q1 : fst cs (i : Int) ≤ g (i : Int) := q.1
    have q2 : g (i : Int) ≤ lst cs (i : Int) := q.2.1
    rw [fst_at hc, ex] at q1
    rw [lst_at hc, ex] at q2
    exact ⟨q1, q2⟩
  refine hf.hall fun x => ?_
  have q := nd_length (l := (nums cs.length).filter fun k => decide (g k = x)) (l2 := there p x) ((nums_nodup _).sublist List.filter_sublist) fun y hy => by
    obtain ⟨y1, y2⟩ := List.mem_filter.mp hy
    have e : g y = x := of_decide_eq_true y2
    rw [← e]
    exact mem_there.mpr (hg y y1)
  rw [there_length] at q
  have q2 : ((nums cs.length).map g).count x = ((nums cs.length).filter fun k => decide (g k = x)).length := by
    rw [← List.countP_eq_length_filter, List.count_eq_countP, List.countP_map]
    refine List.countP_congr fun k _ => ?_
    show (g k == x) = true ↔ decide _ = true
    rw [decide_eq_true_eq, beq_iff_eq]
  have := h.few x
  omega
theorem Pl.nil (cs : List Call) {m : Int} (h : 0 ≤ m) : Pl cs m [] :=
  ⟨List.nodup_nil, fun _ q => absurd q List.not_mem_nil, fun _ q => absurd q List.not_mem_nil, fun _ => h⟩
theorem Trd.nil (p : Plc) : Trd p [] := ⟨List.nodup_nil, fun _ q => absurd q List.not_mem_nil⟩
end Dy
/-! DyR1: list(range(a, b)) of ends of any size: the walk of a long range handed to the loop that fills a list. -/
namespace PySem
open Sem (wp)
/-- an empty list; the walk of a long range, n to come -/
abbrev dyL : Obj := { cls := .type "list", data := .seq #[] }
abbrev dyW (a n : Int) : Obj := { cls := .type "longrange_iterator", data := .fields #[rawInt a, rawInt n, rawInt 1] }
/-- the list at d holds the n ints from a on; what stood in g stands in k -/
def DyFull (a : Int) (n : Nat) (d : Addr) (g k : Heap) : Prop :=
  (∀ z o, z ≠ d → g.get? z = some o → k.get? z = some o) ∧ ∃ (out : Array Value) (e : Nat), k.get? d = some { cls := .type "list", dict := none, data := .seq out e, slots := #[] } ∧ ItemsOf (fun i v => ∃ t, v = .int (a + i * 1) t) out n
section
variable {prog : Program} {w : World} {A : Around} {E : Value → Shared → Prop}
/-- the loop, from the walk's beginning -/
theorem dy_loop {T : Result → Shared → Prop} {a : Int} {n e : Nat} {d z : Addr} {res : Value} {s : Shared} (quiet : A.in1.handled = none) (few : n ≤ 2 ^ 24) (apart : d ≠ z) (hz : s.heap.get? z = some (dyW a n)) (hd : s.heap.get? d = some { cls := .type "list", data := .seq #[] e })
    (done : ∀ (k : Heap) (tk : Nat), (∀ y o, y ≠ d → y ≠ z → s.heap.get? y = some o → k.get? y = some o) → (∃ (out : Array Value) (e : Nat), k.get? d = some { cls := .type "list", dict := none, data := .seq out e, slots := #[] } ∧ ItemsOf (fun i v => ∃ t, v = .int (a + i * 1) t) out n) → T (.ok (.ret res)) { s with heap := k, toks := tk }) :
    codeAny (model prog w) A (.builtin "list.extend.loop" ⟨[.ref d, .ref z, res], []⟩) T s := by
  have start : IsLongIter s.heap z (a + ((0 : Nat) : Int) * 1) ((n : Int) - ((0 : Nat) : Int)) 1 := by
    have e1 : a + ((0 : Nat) : Int) * 1 = a := by simp
    have e2 : (n : Int) - ((0 : Nat) : Int) = n := by simp
    rw [e1, e2]
    exact hz
  refine codeAny_extend_loopS (Walks.longrange (prog := prog) (w := w) quiet z a 1 n).toS (Nat.le_trans few (by rw [sizeLine_eq]; decide)) d (fun m => apart (List.mem_singleton.mp m)) res n 0 s #[] e rfl (Nat.zero_le n) start hd (ItemsOf.nil _) fun t out e2 mv ht hi => ?_
  rw [Moved.eq_with mv]
  refine done t.heap t.toks (fun y o y1 y2 q => mv.heap y o (fun m => ?_) q) ⟨out, e2, ht, hi⟩
  rcases List.mem_cons.mp m with m1 | m1
  · exact y1 m1
  · exact y2 (List.mem_singleton.mp m1)
/-- an empty list is extended by a long range -/
theorem dy_extend {T : Result → Shared → Prop} {r d : Addr} {a b : Int} {t u v : Tok} {n e : Nat} {res : Value} {s : Shared} (quiet : A.handled = none) (rg : IsRange s.heap r a b 1 t u v) (far : Builtin.Range.small a b 1 = false) (many : Builtin.Range.rangeSize a b 1 = (n : Int)) (few : n ≤ 2 ^ 24)
    (hd : s.heap.get? d = some { cls := .type "list", data := .seq #[] e }) (done : ∀ (k : Heap) (tk : Nat), DyFull a n d s.heap k → T (.ok (.ret res)) { s with heap := k, toks := tk }) :
    wpAny (model prog w) A.in1 (Builtin.List.listExtendWith (.ref d) (.ref r) res) (fun f s' => match f with | .done x => T (.ok x) s' | .again c => c.quiet = true ∧ codeAny (model prog w) A c T s') (fun x s' => T (.error x) s') s := by
  have ne : d ≠ r := by
    rintro rfl
    have z := hd.symm.trans rg
    simp at z
  have last : d ≠ s.heap.objs.size := Nat.ne_of_lt (Heap.lt_size hd)
  -- from any heap that keeps what stood, with the walk laid at its place
  have finish : ∀ (g : Heap) (e2 tk : Nat), g.get? s.heap.objs.size = some (dyW a n) → g.get? d = some { cls := .type "list", data := .seq #[] e2 } → (∀ z o, z ≠ d → s.heap.get? z = some o → g.get? z = some o) →
      codeAny (model prog w) A (.builtin "list.extend.loop" ⟨[.ref d, .ref s.heap.objs.size, res], []⟩) T { s with heap := g, toks := tk } := fun g e2 tk hz hg hk =>
    dy_loop (s := { s with heap := g, toks := tk }) quiet few last hz hg fun k tk2 kp full => done k tk2 ⟨fun z o z1 q => kp z o z1 (Nat.ne_of_lt (Heap.lt_size q)) (hk z o z1 q), full⟩
  have c1 : Builtin.List.listSameRef (.ref d) (.ref r) = false := by simp [Builtin.List.listSameRef, ne]
  have c2 : (Value.type "range" == Value.type "list") = false ∧ (Value.type "range" == Value.type "tuple") = false := ⟨by decide, by decide⟩
  have laid : ∀ {z : Addr} {o : Obj}, s.heap.get? z = some o → (s.heap.push (dyW a n)).get? z = some o := fun q => Heap.get?_push_of_some _ q
  unfold Builtin.List.listExtendWith
  refine wpAny_bind (wpAny_typeOf ⟨_, rg, rfl⟩ ?_)
  simp only [c1, c2.1, c2.2, Bool.or_false, Bool.false_eq_true, if_false]
  refine wpAny_bind (wpAny_pyIter_longrange rg far ?_)
  rw [many]
  have hW : (s.heap.push (dyW a n)).get? s.heap.objs.size = some (dyW a n) := Heap.get?_push_size _ rfl
  refine wpAny_bind (wpAny_holding (wpAny_hint_range (laid rg) many few (wpAny_ite_split (fun _ => ?_) fun _ => wpAny_pure ⟨plainId_quiet F.plain_extend_loop _, finish _ e _ hW (laid hd) fun z o _ q => laid q⟩)))
  -- room is made ahead: one pushed, one popped
  refine wpAny_bind (wpAny_rule (wpAny_bind ?_))
  have g1 := Heap.get?_update_self (Obj.mapSeq (·.push Value.none)) (laid hd) rfl
  have g2 := Heap.get?_update_self (Obj.mapSeq (·.pop)) g1 rfl
  refine wpAny_bind (wpAny_updateSeq (laid hd) rfl (wpAny_updateSeq (hz := by seq_fits) g1 rfl (wpAny_pure ⟨plainId_quiet F.plain_extend_loop _, finish _ _ _ ?_ g2 fun z o z1 q => ?_⟩)))
  · rw [Heap.get?_update_other _ _ last, Heap.get?_update_other _ _ last]
    exact hW
  · rw [Heap.get?_update_other _ _ z1.symm, Heap.get?_update_other _ _ z1.symm]
    exact laid q
/-- list(r), r a long range -/
theorem dy_call_list {T : Value → Shared → Prop} {r : Addr} {a b : Int} {t u v : Tok} {n : Nat} {s : Shared} (quiet : A.handled = none) (rg : IsRange s.heap r a b 1 t u v) (far : Builtin.Range.small a b 1 = false) (many : Builtin.Range.rangeSize a b 1 = (n : Int)) (few : n ≤ 2 ^ 24)
    (done : ∀ (k : Heap) (tk : Nat), DyFull a n s.heap.objs.size s.heap k → T (.ref s.heap.objs.size) { s with heap := k, toks := tk }) : wpAny (model prog w) A (call (.type "list") [.ref r]) T E s := by
  refine callType_codes (Q₁ := fun x k => x = .ref s.heap.objs.size ∧ k = { s with heap := s.heap.push dyL }) F.called_list (F.typeCall_list_1 _) F.entry_list_init (code_list_new _ ⟨rfl, rfl⟩) fun x k ⟨e1, e2⟩ => ?_
  subst e1
  subst e2
  have new : (s.heap.push dyL).get? s.heap.objs.size = some dyL := Heap.get?_push_size _ rfl
  have old : ∀ {z : Addr} {o : Obj}, s.heap.get? z = some o → (s.heap.push dyL).get? z = some o := fun q => Heap.get?_push_of_some _ q
  have ne : s.heap.objs.size ≠ r := fun q => Nat.ne_of_lt (Heap.lt_size rg) q.symm
  refine ⟨⟨_, new, rfl⟩, F.args_list_init_2 _ _, ?_⟩
  -- what stood in the list is let go: nothing
  refine wpAny_bind (m := Builtin.List.listItems (.ref s.heap.objs.size)) (by
    unfold Builtin.List.listItems
    refine wpAny_bind (wpAny_seqItems new rfl (wpAny_pure ?_))
    exact wpAny_bind (m := updateSeq s.heap.objs.size fun _ => #[]) (wpAny_updateSeq new rfl (wpAny_bind (m := letGo (#[] : Array Value).toList.reverse) (wpAny_letGo (dy_extend (A := A.in1) quiet
      ((Heap.get?_update_other _ _ ne).trans (old rg)) far many few (Heap.get?_update_self (Obj.mapSeq fun _ => (#[] : Array Value)) new rfl) fun k tk full => ⟨rfl, done k tk ⟨fun z o z1 q => full.1 z o z1 ((Heap.get?_update_other _ _ z1.symm).trans (old q)), full.2⟩⟩)))))
end
end PySem

namespace L2
open PySem PySem.Spec PyProof.Rows
section
variable {X : Cx} {e : Expr}
/-- list(range(a, b)), a and b of any size, few turns -/
def tLstRgA (tr : St → Hp → (Int → Int → Hp → Prop) → Prop) : TE := fun σ H Q => tr σ H fun a b H1 => (b - a).toNat ≤ 2 ^ 24 ∧ ∀ q, H1 q = none → Q (.ref q) (upd H1 q (.lst (rgV a b)))
theorem pe_listRgA {tr : St → Hp → (Int → Int → Hp → Prop) → Prop} {p pos : Pos} (hc : X.calm = true) (hg : Gl X "list") (hm : X.mg "list" = none) (he : PRg X e tr) (na : starEach [e] X.env = (false, eval e X.env) :: starEach [] X.env := by rfl) : PE X (.Call (.Name "list" p) [e] [] pos) (tLstRgA tr) :=
  ⟨fun pins s σ H Q I h => Call_ (ld_blt I hg hm boot_list (PyProof.Rows.callWith_type1 (args_cons (thn (he pins s σ H _ I h) fun x s1 hx => args_nil (by
    obtain ⟨r, a, b, t, u, v, H1, rfl, rg, J, few, q⟩ := hx
    -- whichever walk it is, the list that it leaves is the same
    have close : ∀ (k : Heap) (tk : Nat), DyFull a (b - a).toNat s1.heap.objs.size s1.heap k → EP X pins σ Q (.ref s1.heap.objs.size) { s1 with heap := k, toks := tk } := fun k tk ⟨kp, out, c, ho, hi⟩ => by
      have ok : ObjOk X.prog X.w (upd H1 s1.heap.objs.size (.lst (rgV a b))) k s1.heap.objs.size (.lst (rgV a b)) := by
        refine ⟨?_, out.toList, c, vals_rg hi, ?_⟩
        · rw [rgV_length]
          exact Nat.le_trans few (by rw [sizeLine_eq]; decide)
        · rw [Array.toArray_toList]
          exact ho
      exact ⟨.ref s1.heap.objs.size, _, J.laid (t' := tk) (fun z o z1 => kp z o (Nat.ne_of_lt (Heap.lt_size z1)) z1) (Nat.le_refl _) ok, rfl, q _ (J.hok.fresh (Nat.le_refl _))⟩
    cases far : Builtin.Range.small a b 1 with
    | false => exact dy_call_list (J.ok.hd hc) rg far (rangeSize_nat a b) few close
    | true => exact call_list_range (J.ok.hd hc) rg far (rangeSize_nat a b) few fun k tk out c kp ho hi => close k tk ⟨fun z o _ q => kp z o q, out, c, ho, hi⟩)) na) na))⟩
end
end L2
/-! DyR2: set(a list of ints), t.count(x) of a tuple of ints. -/
namespace L2
open PySem PySem.Spec PyProof.Rows

/-! ### set(xs) -/
/-- a set with nothing in it -/
def dyO (w : World) : Obj := { cls := .type "set", dict := none, data := .set #[] 0 (.fresh 0 0 (!w.params.followText "set-order")) }
section
variable {P : Program} {w : World} {A : Around} {E : Value → Shared → Prop} {s : Shared}
/-- what set(xs) leaves -/
def DySet (w : World) (s : Shared) (ns : List Int) (h' : Heap) : Prop :=
  ∃ c, SetR w h' s.heap.objs.size (fun j => decide (j ∈ ns)) c ∧ c ≤ ns.length ∧ ∀ b o, s.heap.get? b = some o → h'.get? b = some o
theorem dy_set_list {l : Addr} {items : Array Value} (ns : List Int) {Q : Value → Shared → Prop} (hh : A.handled = none) (hl : s.heap.IsList l items) (hi : IntsAre items.toList ns) (hb : ns.length + 1 < scanBound)
    (h : ∀ (h' : Heap) (tk : Nat), DySet w s ns h' → Q (.ref s.heap.objs.size) { s with heap := h', toks := tk }) : wpAny (model P w) A (call (.type "set") [.ref l]) Q E s := by
  have hz : items.size = ns.length := by
    have q := IntsAre.length hi
    rwa [Array.length_toList] at q
  obtain ⟨C, more, ord⟩ := F.called_set.mro
  have hm := F.called_set.made
  have hu := F.called_set.sub
  refine wpAny_call (codeAny_of_tree (wpAny_pure ⟨Code.quiet_builtin _ (by decide +kernel), codeAny_builtin F.entry_type_call ?_⟩))
  rw [Around.under_plain (weight_type_call_type "set" _ []) rfl]
  have k1 := F.called_set.notType
  have k2 := F.called_set.canCreate
  have k3 := F.typeCall_set_1 (.ref l)
  repeat (any_goals (first | assumption | wp_step))
  refine codeAny_mono (code_set_led1 (.ref l) (E := E) (Q₁ := fun v t => v = .ref s.heap.objs.size ∧ t = { s with heap := s.heap.push (dyO w) }) ⟨rfl, rfl⟩) fun r t hr => ?_
  rcases r with e | f
  · exact hr
  cases f with
  | ret v =>
    obtain ⟨rfl, rfl⟩ := hr
    have hS : (s.heap.push (dyO w)).get? s.heap.objs.size = some (dyO w) := Heap.get?_push_size _ rfl
    have hT : Shared.TypeIs { s with heap := s.heap.push (dyO w) } (.ref s.heap.objs.size) "set" := ⟨_, hS, rfl⟩
    have k4 := F.called_set.init.lookup
    have k5 := F.called_set.init.bind (.ref s.heap.objs.size)
    repeat (any_goals (first | assumption | wp_step))
    refine codeAny_mono (codeAny_call_builtin (R := wants (fun r t => r = .none ∧ ∃ h' tk, t = { s with heap := h', toks := tk } ∧ DySet w s ns h') E) F.called_set.init.plain F.entry_set_init (check_set_init_1 hT ?_)) fun r2 t2 hr2 => ?_
    · obtain ⟨⟨oc, od, odt, osl⟩, ho, hcl, n, hdt⟩ := hl
      simp only at hcl hdt
      subst hcl; subst hdt
      have hL : (s.heap.push (dyO w)).IsList l items := ⟨_, Heap.get?_push_of_some _ ho, rfl, n, rfl⟩
      have ho2 : (s.heap.push (dyO w)).get? l = some { cls := .type "list", dict := od, data := .seq items n, slots := osl } := Heap.get?_push_of_some _ ho
      have j1 := F.sub_list_set
      have j2 := F.sub_list_frozenset
      have j3 : (Value.type "list" == Value.type "dict") = false := by decide
      unfold Builtin.«set.__init__» Builtin.Frozenset.updateFrom noKeywords
      generalize hPI : pyIter = PI
      wp_walk
      subst hPI
      refine wpAny_pyIter_list hL (wpAny_bind (wpAny_runValue ?_))
      have hlS : l < s.heap.objs.size := Heap.lt_size ho
      have ez : (s.heap.push (dyO w)).objs.size = s.heap.objs.size + 1 := Heap.size_push ..
      have nI : l ≠ (s.heap.push (dyO w)).objs.size := by
        rw [ez]
        exact Nat.ne_of_lt (Nat.lt_succ_of_lt hlS)
      have nS : s.heap.objs.size ∉ [(s.heap.push (dyO w)).objs.size, l] := by
        rw [ez]
        intro z
        rcases List.mem_cons.mp z with z | z
        · exact Nat.ne_of_lt (Nat.lt_succ_self _) z
        · exact Nat.ne_of_gt hlS (List.mem_singleton.mp z)
      have hv : ∀ (i : Nat) (v : Value), items[i]? = some v → ∃ k t, ns[i]? = some k ∧ v = .int k t := fun i v hv => by
        have hlt : i < ns.length := by
          rw [← hz]
          exact (Array.getElem?_eq_some_iff.mp hv).1
        obtain ⟨t, e⟩ := IntsAre.int_at hi i v (by rw [Array.getElem?_toList]; exact hv)
        exact ⟨ns[i], t, List.getElem?_eq_getElem hlt, by rw [e, List.getD_eq_getElem?_getD, List.getElem?_eq_getElem hlt] <;> rfl⟩
      have hhd : A.in1.in1.in1.handled = none := by simp [hh]
      refine set_update_ints ((Walks.list hhd _ l nI items).toS) s.heap.objs.size nS ns hz hb hv (items.size - 0) 0 _ (by omega) (Nat.zero_le _) ⟨⟨_, Heap.get?_push_size _ rfl, rfl, rfl⟩, hL.push _⟩ ?start ?fin
      case start =>
        exact ⟨0, Nat.le_refl 0, setR_new_at (Heap.get?_push_of_some _ hS)⟩
      case fin =>
        intro t c' mv hc hR
        obtain ⟨h', g', d', tk', os'⟩ := t
        have q1 : g' = s.gens := mv.gens
        have q2 : d' = s.drawn := mv.drawn
        have q3 : os' = s.os := mv.os
        subst q1; subst q2; subst q3
        rw [hz] at hc
        refine wpAny_pure (wpAny_pure ⟨rfl, h', tk', rfl, c', hR, hc, fun b o e => mv.heap b o (fun z => ?_) (Heap.get?_push_of_some _ (Heap.get?_push_of_some _ e))⟩)
        have b0 : b < s.heap.objs.size := Heap.lt_size e
        rcases List.mem_cons.mp z with z | z
        · exact Nat.ne_of_lt b0 z
        · have z2 : b = (s.heap.push (dyO w)).objs.size := List.mem_singleton.mp z
          rw [ez] at z2
          exact Nat.ne_of_lt (Nat.lt_succ_of_lt b0) z2
    · rcases r2 with e | f2
      · exact hr2
      cases f2 with
      | ret r =>
        obtain ⟨rfl, h', tk, rfl, hD⟩ := hr2
        repeat (any_goals (first | assumption | wp_step))
        exact h _ _ hD
      | _ => exact hr2.elim
  | _ => exact hr.elim
end
section
variable {X : Cx}
/-- set(xs) of a list of ints: a new set of those, no more than there are -/
def rDySet (K : PySem.W.Frag) (w : World) : List V → Hp → VK → Prop := fun vs H Q => ∃ (a : Addr) (ns : List Int), vs = [V.ref a] ∧ SqL K H a (ns.map V.int) ∧ ns.length ≤ 1000 ∧
  ∀ (p : Addr) (c : Nat), H p = none → c ≤ ns.length → Q (.ref p) (upd H p (SetO w p (fun j => decide (j ∈ ns)) c))
theorem cr_setL (hc : X.calm = true) : CallR X (.type "set") (rDySet X.K X.w) := by
  intro pins s σ H vs us Q I r h
  obtain ⟨a, ns, rfl, hs, hn, q⟩ := h
  obtain ⟨its, rv, hl, hz⟩ := I.list hs
  rw [Vals.ref1 r]
  refine dy_set_list ns (I.ok.hd hc) hl.isList (by simpa using ints_of_vals rv) (by unfold scanBound; omega) fun h' tk ⟨c, hR, hcn, hk⟩ => ?_
  exact ⟨.ref s.heap.objs.size, upd H s.heap.objs.size (SetO X.w s.heap.objs.size (fun j => decide (j ∈ ns)) c), I.laid (t' := tk) hk (Nat.le_refl _) (setO_new hR), rfl, q _ c (I.hok.fresh (Nat.le_refl _)) hcn⟩

/-! ### t.count(k) -/
def rCntT (K : PySem.W.Frag) : V → List V → Hp → VK → Prop := fun x xs H Q => ∃ (p : Addr) (ns : List Int) (k : Int), x = .ref p ∧ xs = [.int k] ∧ SqT K H p (ns.map V.int) ∧ Q (.int (ns.count k : Nat)) H
theorem mt_tcount : MtR X "tuple.count" (rCntT X.K) := by
  intro pins s σ H x xs v us Q I rx rxs h
  obtain ⟨p, ns, k, rfl, rfl, hs, q⟩ := h
  cases rx
  obtain ⟨u, rfl, t, rfl⟩ := rxs.one
  obtain ⟨its, rv, ht, hz⟩ := I.tuple hs
  obtain ⟨⟨oc, od, odt, osl⟩, ho, hcl, n, hdt⟩ := ht
  simp only at hcl hdt
  subst hcl; subst hdt
  have hi := ints_of_vals rv
  refine call_meets PySem.F.slot_tuple_count ⟨_, ho, rfl⟩ PySem.F.entry_tuple_count (PySem.F.args_tuple_count_2 _ _) (SeqAt.tuple_countAt p its.toArray n od osl (.int k t) (eqk k)) ⟨ho, fun y hy => (eqk_gives hi y (by simpa using hy)).at _ _, ?_⟩
  have many : its.toArray.toList.countP (eqk k) = ns.count k := eqk_count hi
  rw [many]
  exact ⟨.int (ns.count k : Nat), H, I.tok _, ⟨s.toks, rfl⟩, q⟩
end
end L2
/-! DyR3: sorted(a tuple of pairs). -/
/-! ### sorted(t), t a tuple of pairs of ints -/
namespace SrtO
open PySem PyProof.Rows Srt
section
variable {prog : Program} {w : World} {A : Around} {E : Value → Shared → Prop} {s : Shared}
theorem dy_sorted_tup {l : Addr} {vs : List Value} {k : Value → Int × Int} {Q : Value → Shared → Prop} (hl : s.heap.IsTuple l vs.toArray) (hz : vs.length ≤ sizeLine) (hp : ∀ v ∈ vs, IsPair s.heap v (k v).1 (k v).2)
    (h : ∀ (h1 h' : Heap) (d : Addr) (out : List Value), Srtd (fun v u => lexB (k v) (k u)) out → Stb (fun v u => lexB (k v) (k u)) out vs → (∀ b o, s.heap.get? b = some o → h1.get? b = some o) → (∀ b o, h1.get? b = some o → h'.get? b = some o) → h1.objs.size ≤ d →
      (∃ n, h'.get? d = some (seqObj "list" out.toArray n)) → Q (.ref d) { s with heap := h' }) :
    wpAny (model prog w) A (call (.builtin "sorted") [.ref l]) Q E s := by
  obtain ⟨o, ho, hcl, n, hdt⟩ := id hl
  refine Calls.call_function_entry kind_sorted plain_sorted entry_sorted (args_sorted1 (.ref l)) ?_
  unfold Builtin.«sorted»
  refine wpAny_bind (m := checkCount "sorted" 1 1 _) (wpAny_pure (wpAny_bind (wpAny_collect_seq l (.inr rfl) ho hcl hdt (fun h1 k1 => ?_) (by rw [List.size_toArray]; exact hz))))
  show wpAny _ _ (newList vs >>= _) _ _ { s with heap := h1 }
  refine wpAny_bind (wpAny_newList ?_ hz)
  have hoL : (h1.push (seqObj "list" vs.toArray 0)).get? h1.objs.size = some (seqObj "list" vs.toArray 0) := Heap.get?_push_size _ rfl
  have kp : ∀ b u, s.heap.get? b = some u → b ≠ h1.objs.size ∧ (h1.push (seqObj "list" vs.toArray 0)).get? b = some u := fun b u e => ⟨Nat.ne_of_lt (Heap.lt_size (k1 b u e)), Heap.get?_push_of_some _ (k1 b u e)⟩
  refine wpAny_bind (wpAny_holding (wpAny_call_entry slot_list_sort ⟨_, hoL, rfl⟩ entry_list_sort (list_sort_ord (swo_lex k) hoL hz (fun h2 => ?_) fun out hs hb => ⟨_, rfl, ?_⟩) (args_list_sort _)))
  · refine pairs_sortableO (by omega) (fun v hm => (hp v hm).keeps fun b u e _ => (kp b u e).2) fun u e c => ?_
    have e' : some u = some (seqObj "list" vs.toArray 0) := e.symm.trans hoL
    cases e'
    exact absurd (Value.type.inj c) (by decide)
  · refine wpAny_pure ⟨_, rfl, h h1 _ _ out hs hb k1 (fun b u e => ?_) (Nat.le_refl _) (sortedHeap_at hoL)⟩
    have q := Heap.get?_push_of_some (seqObj "list" vs.toArray 0) e
    exact (sortedHeap_old (Nat.ne_of_lt (Heap.lt_size e)) (Heap.lt_size q)).trans q
end
end SrtO

namespace L2
open PySem PySem.Spec PyProof.Rows
/-- sorted(t), t a tuple of pairs of ints of any length (k says which): a new list, sorted, equal ones in their order -/
def rSortedPT (K : PySem.W.Frag) : List V → Hp → VK → Prop := fun vs H Q => ∃ (a : Addr) (xs : List V) (k : V → Int × Int), vs = [V.ref a] ∧ SqT K H a xs ∧ (∀ x ∈ xs, ∃ t, x = V.ref t ∧ H t = some (.tup [.int (k x).1, .int (k x).2])) ∧
  ∀ (zs : List V) (d : Addr), SrtO.Srtd (ltP k) zs → SrtO.Stb (ltP k) zs xs → H d = none → Q (.ref d) (upd H d (.lst zs))
section
variable {X : Cx}
theorem cr_sortedPT : CallR X (.builtin "sorted") (rSortedPT X.K) := by
  intro pins s σ H vs us Q I r h
  obtain ⟨a, xs, k, rfl, hs, hx, q⟩ := h
  obtain ⟨its, rv, ht, hz⟩ := I.tuple hs
  rw [Vals.ref1 r]
  obtain ⟨e1, e2⟩ := refs_back rv fun x m => (hx x m).imp fun t e => e.1
  refine SrtO.dy_sorted_tup (k := fun u => k (backV u)) ht (by rw [← rv.length]; exact hz) (fun v hv => ?_) fun h1 h' d out g1 g2 k1 kp hd hn => ?_
  · obtain ⟨t, rfl⟩ := e2 v hv
    obtain ⟨t', e, hT⟩ := hx (.ref t) (by rw [e1]; exact List.mem_map.mpr ⟨_, hv, rfl⟩)
    cases e
    obtain ⟨_, two, r2, o, ho, hc, n, hd⟩ := I.hok _ _ hT
    obtain ⟨_, _, rfl, ⟨t1, rfl⟩, t2, rfl⟩ := vals2 r2
    exact ⟨t, o, t1, t2, n, rfl, ho, hc, hd⟩
  · obtain ⟨n, hn⟩ := hn
    have refs : ∀ u ∈ out, ∃ a, u = Value.ref a := fun u hu => e2 u (g2.perm.mem_iff.mp hu)
    have st : SrtO.Stb (ltP k) (out.map backV) xs := by
      rw [e1]
      exact SrtO.Stb.map (ltP_swo k) backV g2
    have sz : (out.map backV).length ≤ sizeLine := by
      rw [st.len]
      exact hz
    have I1 : Inv X pins σ H { s with heap := h1 } := I.kept (t' := s.toks) k1
    exact ⟨.ref d, upd H d (.lst (out.map backV)), I1.laid (t' := s.toks) kp hd ⟨sz, out, n, vals_back refs, hn⟩, rfl, q _ d (SrtO.srtd_map g1) st (I1.hok.fresh hd)⟩
end
end L2
/-! DyR4: a tuple made of a list, its object kept in mind; t.count(x) of it. -/
namespace L2
open PySem PySem.Spec PyProof.Rows
/-- a tuple whose object is known to bear no dict -/
def TupF (H : Hp) (p : Addr) (xs : List V) : Prop := ∃ ob : Obj, H p = some (.frz ob (.tup xs)) ∧ ob.dict = none ∧ ob.cls = .type "tuple"
section
variable {X : Cx}
def rTupleF (K : PySem.W.Frag) : List V → Hp → VK → Prop := fun vs H Q => ∃ (p : Addr) (xs : List V), vs = [V.ref p] ∧ SqL K H p xs ∧
  ∀ (q : Addr) (ob : Obj), H q = none → ob.dict = none → ob.cls = .type "tuple" → Q (.ref q) (upd H q (.frz ob (.tup xs)))
theorem cr_tupleF : CallR X (.type "tuple") (rTupleF X.K) := by
  intro pins s σ H vs us Q I r h
  obtain ⟨p, xs, rfl, hs, q⟩ := h
  obtain ⟨its, rv, pl, hz⟩ := I.list hs
  rw [Vals.ref1 r]
  refine call_tuple_list pl.isList (fun h1 k1 => ?_) (by rw [List.size_toArray, ← rv.length]; exact hz)
  have J : Inv X pins σ H { s with heap := h1 } := I.kept (t' := s.toks) k1
  have kp : ∀ (b : Addr) (o : Obj), h1.get? b = some o → (h1.push { cls := .type "tuple", data := .seq its.toArray }).get? b = some o := fun b o e => Heap.get?_push_of_some _ e
  exact ⟨.ref h1.objs.size, upd H h1.objs.size (.frz { cls := .type "tuple", data := .seq its.toArray } (.tup xs)), J.laid (t' := s.toks) kp (Nat.le_refl _) ⟨Heap.get?_push_size _ rfl, hz, its, rv, IsTup.new _ _⟩, rfl,
    q _ _ (J.hok.fresh (Nat.le_refl _)) rfl rfl⟩
/-- t.count(e), t such a tuple of ints -/
def tTCnt (to te : TE) : TE := fun σ H Q => to σ H fun x H1 => ∃ (p : Addr) (ns : List Int), x = .ref p ∧ TupF H1 p (ns.map V.int) ∧ te σ H1 fun y H2 => ∃ k : Int, y = .int k ∧ TupF H2 p (ns.map V.int) ∧ Q (.int (ns.count k : Nat)) H2
variable {o e : Expr} {to te : TE} {apos cpos : Pos}
theorem pe_tcount (ho : PE X o to) (he : PE X e te)
    (hb : attributeBase o "count" X.env (eval o X.env) = eval o X.env := by rfl)
    (hf : ((backTo cpos (starEach [e] X.env)).all (fun x => !x.1) && (backToKw cpos (keywordEach [] X.env)).all (fun x => x.1.isSome)
      && decide ([e].length + ([] : List Keyword).length + (if ([] : List Keyword).isEmpty then 0 else 1) < 30)) = true := by rfl)
    (hl : (apos.endLine == cpos.line) = true := by rfl) (hs : starEach [e] X.env = (false, eval e X.env) :: starEach [] X.env := by rfl) (hp : (backTo cpos (starEach [] X.env)).any (·.1) = false := by rfl) :
    PE X (.Call (.Attribute o "count" apos) [e] [] cpos) (tTCnt to te) := by
  refine ⟨fun pins s σ H Q I h => ?_⟩
  refine wpAny_Call_method_late hb hf hl rfl (thn (ho.run pins s σ H _ I h) fun v s1 ⟨x, H1, I1, r1, p, ns, ex, ⟨ob, g1, g2, g3⟩, q1⟩ => ?_)
  subst ex
  cases r1
  have hg : s1.heap.get? p = some ob := (I1.hok p _ g1).1
  refine ⟨"tuple", "tuple.count", PySem.F.plainAttrs_tuple, PySem.F.slot_tuple_count, PySem.F.type_tuple_count, ⟨ob, hg, g3⟩, (fun a z => by cases z; exact ⟨ob, hg, g2⟩), ?_⟩
  have hA := one_arg (pos := cpos) he I1 q1 (Q := fun us s2 => ∃ (vs : List V) (H2 : Hp), Inv X pins σ H2 s2 ∧ Vals vs us ∧ ∃ k : Int, vs = [V.int k] ∧ TupF H2 p (ns.map V.int) ∧ Q (.int (ns.count k : Nat)) H2)
    (fun u s2 y H2 I2 r2 ⟨k, e, t2, q2⟩ => ⟨[y], H2, I2, .cons r2 .nil, k, by rw [e], t2, q2⟩) hs
  rw [hs] at hA ⊢
  refine Calls.callWith_builtin (by show (false || (backTo cpos (starEach [] X.env)).any (·.1)) = false; rw [hp] <;> rfl) (Calls.evalArgs_plain ?_)
  exact thn hA fun us s2 ⟨vs, H2, I2, r2, k, e, ⟨ob2, g4, g5, g6⟩, q2⟩ => mt_tcount pins s2 σ H2 (.ref p) vs (.ref p) us Q I2 rfl r2 ⟨p, ns, k, rfl, e, .inl (.inr ⟨ob2, g4⟩), q2⟩
end
end L2
/-! DyT: the text by places, and what stands in the heap. -/
namespace Dy
open PySem PySem.Spec PyProof.Rows L2

/-! ### the text -/
def topS (i : Nat) : Stmt := PySem.Challenge.pw_doffyard_k40_whole_calls_grown_and_moved.main.body.getD i (.Pass ⟨0, 0, 0, 0⟩)
abbrev sWhole : Stmt := topS 6
abbrev sBetween : Stmt := topS 7
abbrev sStretch : Stmt := topS 10
abbrev sAre : Stmt := topS 11
abbrev sCheck : Stmt := topS 13
abbrev sMany : Stmt := topS 14
abbrev sWithin : Stmt := topS 15
abbrev sWanted : Stmt := topS 16
abbrev sPlan : Stmt := topS 17
abbrev sLeast : Stmt := topS 18
abbrev sWithH : Stmt := topS 19
abbrev sPool : Stmt := topS 21
abbrev sTake : Stmt := topS 22
abbrev sDrawn : Stmt := topS 23
abbrev sBeats : Stmt := topS 24
abbrev sPlaced : Stmt := topS 25
abbrev sAll : Stmt := topS 26
abbrev sLWhole : Stmt := topS 27
abbrev sIsPlan : Stmt := topS 28
abbrev sIsShort : Stmt := topS 29
abbrev sHow : Stmt := topS 30
abbrev sSome : Stmt := topS 31
abbrev sOthers : Stmt := topS 32
abbrev sLaw : Stmt := topS 33
abbrev nBetween : List Str := ["x", "low", "high"]
abbrev nStretch : List Str := ["thing", "most"]
abbrev nAre : List Str := ["thing", "call", "k"]
abbrev nWithin : List Str := ["calls", "first", "last", "call"]
abbrev nWanted : List Str := ["calls", "most", "found", "first", "last", "beats", "hands", "call"]
abbrev nPlan : List Str := ["calls", "many", "plan", "beat", "left", "k", "ready", "last"]
abbrev nLeast : List Str := ["calls", "many", "stretch"]
abbrev nWithH : List Str := ["calls", "many", "most", "stretch"]
abbrev nPool : List Str := ["_law_script", "_law_k", "_law_cell", "_law_more", "_law_found", "_law_turn"]
abbrev nTake : List Str := ["_law_pool_here", "_law_many", "_law_digit"]
abbrev nDrawn : List Str := ["_law_pool_here", "_law_base", "_law_wide", "_law_late", "_law_found", "_law_turn", "_law_first"]
abbrev nBeats : List Str := ["_law_call", "_law_many"]
abbrev nPlaced : List Str := ["_law_calls", "_law_hands", "_law_at", "_law_places", "_law_tried", "_law_beat", "_law_there", "_law_other", "_law_k"]
abbrev nAll : List Str := ["_law_calls", "_law_hands", "_law_places", "_law_at"]
abbrev nIsPlan : List Str := ["_law_calls", "_law_plan", "_law_hands", "_law_beat", "_law_call"]
abbrev nIsShort : List Str := ["_law_calls", "_law_first", "_law_last", "_law_hands", "_law_call"]
abbrev nHow : List Str := ["_law_calls", "_law_found", "_law_how_here", "_law_plan", "_law_stretch"]
abbrev nSome : List Str := ["_law_calls", "_law_how_here", "_law_hands", "_law_said"]
abbrev nOthers : List Str := ["_law_pool_here", "_law_calls", "_law_how_here", "_law_first", "_law_found", "_law_move", "_law_one", "_law_other", "_law_at", "_law_rest"]
abbrev nLaw : List Str := ["_law_script", "_law_k", "_law_pool_here", "_law_calls", "_law_how_here", "_law_others_here", "_law_least", "_law_most", "_law_found"]
theorem scWhole : FnScope ["x"] ["x"] (defScope sWhole) := ⟨rfl, rfl, rfl, by decide +kernel, rfl, by decide +kernel, by decide +kernel⟩
theorem scBetween : FnScope nBetween nBetween (defScope sBetween) := ⟨rfl, rfl, rfl, by decide +kernel, rfl, by decide +kernel, by decide +kernel⟩
theorem scStretch : FnScope nStretch nStretch (defScope sStretch) := ⟨rfl, rfl, rfl, by decide +kernel, rfl, by decide +kernel, by decide +kernel⟩
theorem scAre : FnScope nAre ["thing"] (defScope sAre) := ⟨rfl, rfl, rfl, by decide +kernel, rfl, by decide +kernel, by decide +kernel⟩
theorem scCheck : FnScope ["thing"] ["thing"] (defScope sCheck) := ⟨rfl, rfl, rfl, by decide +kernel, rfl, by decide +kernel, by decide +kernel⟩
theorem scMany : FnScope ["many"] ["many"] (defScope sMany) := ⟨rfl, rfl, rfl, by decide +kernel, rfl, by decide +kernel, by decide +kernel⟩
theorem scWithin : FnScope nWithin ["calls", "first", "last"] (defScope sWithin) := ⟨rfl, rfl, rfl, by decide +kernel, rfl, by decide +kernel, by decide +kernel⟩
theorem scWanted : FnScope nWanted ["calls"] (defScope sWanted) := ⟨rfl, rfl, rfl, by decide +kernel, rfl, by decide +kernel, by decide +kernel⟩
theorem scPlan : FnScope nPlan ["calls", "many"] (defScope sPlan) := ⟨rfl, rfl, rfl, by decide +kernel, rfl, by decide +kernel, by decide +kernel⟩
theorem scLeast : FnScope nLeast ["calls"] (defScope sLeast) := ⟨rfl, rfl, rfl, by decide +kernel, rfl, by decide +kernel, by decide +kernel⟩
theorem scWithH : FnScope nWithH ["calls", "many"] (defScope sWithH) := ⟨rfl, rfl, rfl, by decide +kernel, rfl, by decide +kernel, by decide +kernel⟩
theorem scPool : FnScope nPool ["_law_script", "_law_k"] (defScope sPool) := ⟨rfl, rfl, rfl, by decide +kernel, rfl, by decide +kernel, by decide +kernel⟩
theorem scTake : FnScope nTake ["_law_pool_here", "_law_many"] (defScope sTake) := ⟨rfl, rfl, rfl, by decide +kernel, rfl, by decide +kernel, by decide +kernel⟩
theorem scDrawn : FnScope nDrawn ["_law_pool_here"] (defScope sDrawn) := ⟨rfl, rfl, rfl, by decide +kernel, rfl, by decide +kernel, by decide +kernel⟩
theorem scBeats : FnScope nBeats nBeats (defScope sBeats) := ⟨rfl, rfl, rfl, by decide +kernel, rfl, by decide +kernel, by decide +kernel⟩
theorem scPlaced : FnScope nPlaced ["_law_calls", "_law_hands", "_law_at", "_law_places", "_law_tried"] (defScope sPlaced) := ⟨rfl, rfl, rfl, by decide +kernel, rfl, by decide +kernel, by decide +kernel⟩
theorem scAll : FnScope nAll ["_law_calls", "_law_hands"] (defScope sAll) := ⟨rfl, rfl, rfl, by decide +kernel, rfl, by decide +kernel, by decide +kernel⟩
theorem scLWhole : FnScope ["_law_thing"] ["_law_thing"] (defScope sLWhole) := ⟨rfl, rfl, rfl, by decide +kernel, rfl, by decide +kernel, by decide +kernel⟩
theorem scIsPlan : FnScope nIsPlan ["_law_calls", "_law_plan", "_law_hands"] (defScope sIsPlan) := ⟨rfl, rfl, rfl, by decide +kernel, rfl, by decide +kernel, by decide +kernel⟩
theorem scIsShort : FnScope nIsShort ["_law_calls", "_law_first", "_law_last", "_law_hands"] (defScope sIsShort) := ⟨rfl, rfl, rfl, by decide +kernel, rfl, by decide +kernel, by decide +kernel⟩
theorem scHow : FnScope nHow ["_law_calls"] (defScope sHow) := ⟨rfl, rfl, rfl, by decide +kernel, rfl, by decide +kernel, by decide +kernel⟩
theorem scSome : FnScope nSome ["_law_calls", "_law_how_here"] (defScope sSome) := ⟨rfl, rfl, rfl, by decide +kernel, rfl, by decide +kernel, by decide +kernel⟩
theorem scOthers : FnScope nOthers ["_law_pool_here", "_law_calls", "_law_how_here"] (defScope sOthers) := ⟨rfl, rfl, rfl, by decide +kernel, rfl, by decide +kernel, by decide +kernel⟩
theorem scLaw : FnScope nLaw ["_law_script"] (defScope sLaw) := ⟨rfl, rfl, rfl, by decide +kernel, rfl, by decide +kernel, by decide +kernel⟩

/-! ### heaps -/
theorem same_upd {H : Hp} {p : Addr} {o : HO} (h : H p = none) : Same H (upd H p o) := fun b x e => by
  rw [upd_ne (ne_of_none e h)]
  exact e
/-- all that was tracked but a is as it was -/
def But (a : Addr) (H H' : Hp) : Prop := ∀ b o, b ≠ a → H b = some o → H' b = some o
theorem But.refl (a : Addr) (H : Hp) : But a H H := fun _ _ _ e => e
theorem But.trans {a : Addr} {H H1 H2 : Hp} (x : But a H H1) (y : But a H1 H2) : But a H H2 := fun b o n e => y b o n (x b o n e)
theorem Same.but {a : Addr} {H H' : Hp} (x : Same H H') : But a H H' := fun b o _ e => x b o e
theorem But.upd {a : Addr} {H : Hp} {o : HO} : But a H (L2.upd H a o) := fun b x n e => by
  rw [upd_ne n]
  exact e
/-- all that was tracked but a and b is as it was -/
def But2 (a b : Addr) (H H' : Hp) : Prop := ∀ c o, c ≠ a → c ≠ b → H c = some o → H' c = some o
theorem But2.refl (a b : Addr) (H : Hp) : But2 a b H H := fun _ _ _ _ e => e
theorem But2.trans {a b : Addr} {H H1 H2 : Hp} (x : But2 a b H H1) (y : But2 a b H1 H2) : But2 a b H H2 := fun c o n m e => y c o n m (x c o n m e)
theorem Same.but2 {a b : Addr} {H H' : Hp} (x : Same H H') : But2 a b H H' := fun c o _ _ e => x c o e

/-- pairs of ints -/
def Pairs (H : Hp) (xs : List V) (cs : List Call) : Prop := xs.length = cs.length ∧ ∀ (i : Nat) (c : Call), cs[i]? = some c → ∃ t, xs[i]? = some (.ref t) ∧ H t = some (.tup [.int c.1, .int c.2])
/-- calls as a tuple of pairs -/
def Calls (H : Hp) (a : Addr) (cs : List Call) : Prop := ∃ xs : List V, H a = some (.tup xs) ∧ Pairs H xs cs
/-- H' knows all tuples that H knows -/
def Tups (H H' : Hp) : Prop := ∀ b xs, H b = some (.tup xs) → H' b = some (.tup xs)
theorem Same.tups {H H' : Hp} (x : Same H H') : Tups H H' := fun b xs e => x b _ e
theorem Tups.refl (H : Hp) : Tups H H := fun _ _ e => e
theorem Tups.trans {H H1 H2 : Hp} (x : Tups H H1) (y : Tups H1 H2) : Tups H H2 := fun b xs e => y b xs (x b xs e)
theorem But.tups {a : Addr} {H H' : Hp} {zs : List V} (x : But a H H') (ha : H a = some (.lst zs)) : Tups H H' := fun b xs e => x b _ (fun z => by
  rw [z, ha] at e
  cases e) e
theorem Pairs.of {H H' : Hp} {xs : List V} {cs : List Call} (h : Pairs H xs cs) (s : Tups H H') : Pairs H' xs cs := ⟨h.1, fun i c e => by
  obtain ⟨t, e1, e2⟩ := h.2 i c e
  exact ⟨t, e1, s t _ e2⟩⟩
theorem Calls.of {H H' : Hp} {a : Addr} {cs : List Call} (h : Calls H a cs) (s : Tups H H') : Calls H' a cs := by
  obtain ⟨xs, e, p⟩ := h
  exact ⟨xs, s a xs e, p.of s⟩
theorem Calls.same {H H' : Hp} {a : Addr} {cs : List Call} (h : Calls H a cs) (s : Same H H') : Calls H' a cs := h.of (Same.tups s)
theorem Pairs.at {H : Hp} {xs : List V} {cs : List Call} (h : Pairs H xs cs) {i : Nat} {x : V} (e : xs[i]? = some x) : ∃ t c, x = .ref t ∧ cs[i]? = some c ∧ H t = some (.tup [.int c.1, .int c.2]) := by
  have hi : i < cs.length := by
    rw [← h.1]
    exact (List.getElem?_eq_some_iff.mp e).1
  obtain ⟨t, e1, e2⟩ := h.2 i cs[i] (List.getElem?_eq_getElem hi)
  rw [e] at e1
  exact ⟨t, cs[i], Option.some.inj e1, List.getElem?_eq_getElem hi, e2⟩
theorem Pairs.nil (H : Hp) : Pairs H [] [] := ⟨rfl, fun i c e => by simp at e⟩
theorem Pairs.snoc {H : Hp} {xs : List V} {cs : List Call} {t : Addr} {c : Call} (h : Pairs H xs cs) (ht : H t = some (.tup [.int c.1, .int c.2])) : Pairs H (xs ++ [.ref t]) (cs ++ [c]) := by
  refine ⟨by simp [h.1], fun i d e => ?_⟩
  by_cases hi : i < cs.length
  · rw [List.getElem?_append_left hi] at e
    obtain ⟨t', e1, e2⟩ := h.2 i d e
    exact ⟨t', by rw [List.getElem?_append_left (by rw [h.1]; exact hi)]; exact e1, e2⟩
  · have hi2 : i = cs.length := by
      have := (List.getElem?_eq_some_iff.mp e).1
      rw [List.length_append, List.length_singleton] at this
      omega
    subst hi2
    rw [List.getElem?_append_right (Nat.le_refl _), Nat.sub_self] at e
    have ec : c = d := Option.some.inj e
    subst ec
    refine ⟨t, ?_, ht⟩
    rw [List.getElem?_append_right (by rw [h.1]; exact Nat.le_refl _), h.1, Nat.sub_self]
    rfl
theorem Pairs.append {H : Hp} {xs ys : List V} {cs ds : List Call} (h : Pairs H xs cs) (g : Pairs H ys ds) : Pairs H (xs ++ ys) (cs ++ ds) := by
  refine ⟨by rw [List.length_append, List.length_append, h.1, g.1], fun i d e => ?_⟩
  by_cases hi : i < cs.length
  · rw [List.getElem?_append_left hi] at e
    rw [List.getElem?_append_left (by rw [h.1]; exact hi)]
    exact h.2 i d e
  · rw [List.getElem?_append_right (by omega)] at e
    rw [List.getElem?_append_right (by rw [h.1]; omega), h.1]
    exact g.2 _ d e

/-! ### what is asked of calls -/
def BIG : Int := 10 ^ 30
def lexle (c d : Call) : Prop := c.1 < d.1 ∨ (c.1 = d.1 ∧ c.2 ≤ d.2)
structure OkC (n : Nat) (B : Int) (cs : List Call) : Prop where
  len : cs.length ≤ n
  ok : ∀ c ∈ cs, 1 ≤ c.1 ∧ c.1 ≤ c.2 ∧ c.2 ≤ B
  up : cs.Pairwise lexle
theorem OkC.mono {n m : Nat} {B C : Int} {cs : List Call} (h : OkC n B cs) (h1 : n ≤ m) (h2 : B ≤ C) : OkC m C cs :=
  ⟨Nat.le_trans h.len h1, fun c hc => ⟨(h.ok c hc).1, (h.ok c hc).2.1, Int.le_trans (h.ok c hc).2.2 h2⟩, h.up⟩
theorem OkC.le {n : Nat} {B : Int} {cs : List Call} (h : OkC n B cs) : ∀ c ∈ cs, c.1 ≤ c.2 := fun c hc => (h.ok c hc).2.1
theorem OkC.le2 {n : Nat} {B : Int} {cs : List Call} (h : OkC n B cs) : ∀ c ∈ cs, 1 ≤ c.1 ∧ c.1 ≤ c.2 := fun c hc => ⟨(h.ok c hc).1, (h.ok c hc).2.1⟩
theorem lexle_iff {c d : Call} : lexle c d ↔ SrtO.lexB d c = false := by
  rw [SrtO.lexB_no]
  unfold lexle
  omega
theorem small12 {n : Nat} (h : n ≤ 12) : n < sizeLine := Nat.lt_of_le_of_lt h (by decide)
theorem szL {n : Nat} (h : n ≤ 1000) : n ≤ sizeLine := Nat.le_of_lt (small1000 h)
end Dy
/-! DyF1: whole numbers, what are calls, how many lie within. -/
namespace Dy
open PySem PySem.Spec PyProof.Rows L2
section
variable {P : Program} {w : World} {K : PySem.W.Frag} {mg : Str → Option Value} {base : Heap} {f : Addr} {fd : FuncData}

/-! ### is_whole -/
def spWhole : Sp := fun vs H Q _ => ∃ i : Int, vs = [.int i] ∧ Q (.bl true) H
theorem ok_whole (F : Fun K "is_whole" "is_whole" sWhole f fd) (mI : mg "isinstance" = none) (mi : mg "int" = none) (mb : mg "bool" = none) : FnOk P w K mg base CX0 1 f fd ["x"] spWhole := by
  refine F.ok scWhole (fun vs H Q E h => ?_) (fun cdv A outer s H vs Q E hr h => ?_)
  · obtain ⟨i, rfl, _⟩ := h
    rfl
  obtain ⟨i, rfl, q⟩ := h
  refine ⟨_, pss_one (ps_ret (pe_and (pe_callB call_isi (by rfl) mI (by decide +kernel) (pa_cons (pv 0) (pa_cons (pe_bltn (v := .ty "int") (by rfl) mi (by decide +kernel) rfl) pa_nil)))
    (pe_one (pe_not (pe_callB call_isi (by rfl) mI (by decide +kernel) (pa_cons (pv 0) (pa_cons (pe_bltn (v := .ty "bool") (by rfl) mb (by decide +kernel) rfl) pa_nil))))))), ?_⟩
  refine ⟨.int i, rfl, .int i, .ty "int", .type "int", .type "int", true, rfl, .ty _, .base (.int i), kit_ty (by decide +kernel), true, rfl, iteT ?_⟩
  refine ⟨.int i, rfl, .int i, .ty "bool", .type "int", .type "bool", false, rfl, .ty _, .base (.int i), kit_ty (by decide +kernel), false, rfl, q⟩

/-- law's own -/
theorem ok_lwhole (F : Fun K "_law_whole" "_law_whole" sLWhole f fd) (mI : mg "isinstance" = none) (mi : mg "int" = none) (mb : mg "bool" = none) : FnOk P w K mg base CX0 1 f fd ["_law_thing"] spWhole := by
  refine F.ok scLWhole (fun vs H Q E h => ?_) (fun cdv A outer s H vs Q E hr h => ?_)
  · obtain ⟨i, rfl, _⟩ := h
    rfl
  obtain ⟨i, rfl, q⟩ := h
  refine ⟨_, pss_one (ps_ret (pe_and (pe_callB call_isi (by rfl) mI (by decide +kernel) (pa_cons (pv 0) (pa_cons (pe_bltn (v := .ty "int") (by rfl) mi (by decide +kernel) rfl) pa_nil)))
    (pe_one (pe_not (pe_callB call_isi (by rfl) mI (by decide +kernel) (pa_cons (pv 0) (pa_cons (pe_bltn (v := .ty "bool") (by rfl) mb (by decide +kernel) rfl) pa_nil))))))), ?_⟩
  refine ⟨.int i, rfl, .int i, .ty "int", .type "int", .type "int", true, rfl, .ty _, .base (.int i), kit_ty (by decide +kernel), true, rfl, iteT ?_⟩
  refine ⟨.int i, rfl, .int i, .ty "bool", .type "int", .type "bool", false, rfl, .ty _, .base (.int i), kit_ty (by decide +kernel), false, rfl, q⟩

/-! ### is_between, is_stretch -/
def spBetween : Sp := fun vs H Q _ => ∃ x l h : Int, vs = [.int x, .int l, .int h] ∧ l ≤ x ∧ x ≤ h ∧ Q (.bl true) H
theorem ok_between (F : Fun K "is_between" "is_between" sBetween f fd) (c : C8.Cal P w K mg base 1 "is_whole" spWhole []) : FnOk P w K mg base CX0 2 f fd nBetween spBetween := by
  refine F.ok scBetween (fun vs H Q E h => ?_) (fun cdv A outer s H vs Q E hr h => ?_)
  · obtain ⟨x, l, u, rfl, _⟩ := h
    rfl
  obtain ⟨x, l, u, rfl, h1, h2, q⟩ := h
  refine ⟨_, pss_one (ps_ret (pe_and (C8.pe_c c hr (Nat.le_refl _) (by rfl) (pa_cons (pv 0) pa_nil)) (pe_one (pe_chain op_le op_le (pv 1) (pv 0) (pv 2))))), ?_⟩
  refine ⟨.int x, rfl, x, rfl, true, rfl, iteT ?_⟩
  refine ⟨.int l, rfl, .int x, rfl, l, x, rfl, rfl, true, congrArg V.bl (decide_eq_true h1), iteT ?_⟩
  refine ⟨.int u, rfl, x, u, rfl, rfl, ?_⟩
  show Q (.bl (decide (x ≤ u))) H
  rw [decide_eq_true h2]
  exact q

def spStretch : Sp := fun vs H Q _ => ∃ (t : Addr) (a b : Int), vs = [.ref t, .int BIG] ∧ H t = some (.tup [.int a, .int b]) ∧ 1 ≤ a ∧ a ≤ b ∧ b ≤ BIG ∧ Q (.bl true) H
theorem ok_stretch (F : Fun K "is_stretch" "is_stretch" sStretch f fd) (c : C8.Cal P w K mg base 2 "is_between" spBetween []) (mB : ∃ tk, mg "BIG" = some (.int BIG tk)) : FnOk P w K mg base CX0 3 f fd nStretch spStretch := by
  obtain ⟨tk, mB⟩ := mB
  refine F.ok scStretch (fun vs H Q E h => ?_) (fun cdv A outer s H vs Q E hr h => ?_)
  · obtain ⟨t, a, b, rfl, _⟩ := h
    rfl
  obtain ⟨t, a, b, rfl, ht, h1, h2, h3, q⟩ := h
  refine ⟨_, pss_one (ps_ret (pe_and (C8.pe_c c hr (Nat.le_refl _) (by rfl) (pa_cons (pe_ix ix_tup (pv 0) pe_int (fun _ _ => rfl)) (pa_cons pe_int (pa_cons (pe_glob (v := .int BIG) (by rfl) mB ⟨tk, rfl⟩) pa_nil))))
    (pe_one (C8.pe_c c hr (Nat.le_refl _) (by rfl) (pa_cons (pe_ix ix_tup (pv 0) pe_int (fun _ _ => rfl)) (pa_cons (pe_ix ix_tup (pv 0) pe_int (fun _ _ => rfl)) (pa_cons (pv 1) pa_nil))))))), ?_⟩
  refine ⟨.ref t, rfl, t, _, 0, .int a, rfl, rfl, .inl (.inl ht), atI_nat (j := 0) rfl, a, 1, BIG, rfl, h1, by omega, true, rfl, iteT ?_⟩
  refine ⟨.ref t, rfl, t, _, 1, .int b, rfl, rfl, .inl (.inl ht), atI_nat (j := 1) rfl, .ref t, rfl, t, _, 0, .int a, rfl, rfl, .inl (.inl ht), atI_nat (j := 0) rfl, .int BIG, rfl, b, a, BIG, rfl, h2, h3, q⟩
end
end Dy
/-! DyF2: are_calls, check_calls, check_many, within. -/
namespace Dy
open PySem PySem.Spec PyProof.Rows L2
theorem le_true {c d : Call} (h : lexle c d) : Ob.lexAt (fun j => decide (([c.1, c.2] : List Int).getD j 0 = ([d.1, d.2] : List Int).getD j 0)) (fun j => decide (([c.1, c.2] : List Int).getD j 0 ≤ ([d.1, d.2] : List Int).getD j 0)) (decide (([c.1, c.2] : List Int).length ≤ ([d.1, d.2] : List Int).length)) 0 (min ([c.1, c.2] : List Int).length ([d.1, d.2] : List Int).length) = true := by
  show (if decide (c.1 = d.1) = true then (if decide (c.2 = d.2) = true then decide (2 ≤ 2) else decide (c.2 ≤ d.2)) else decide (c.1 ≤ d.1)) = true
  rcases h with h | ⟨h1, h2⟩
  · rw [if_neg (by rw [decide_eq_true_eq]; omega)]
    exact decide_eq_true (by omega)
  · rw [if_pos (decide_eq_true h1)]
    split
    · rfl
    · exact decide_eq_true h2
/-- rules within a comprehension's block -/
theorem ixT (K : PySem.W.Frag) {X : Cx} (h : X.K = K := by rfl) : IxR X (rIxT K) := by
  subst h
  exact ix_tup
theorem leTK (K : PySem.W.Frag) {X : Cx} (hu : X.A.units < cLine) (h : X.K = K := by rfl) : OpR X (compareOp .LtE) (rLeT K) := by
  subst h
  exact op_leT hu
section
variable {P : Program} {w : World} {K : PySem.W.Frag} {mg : Str → Option Value} {base : Heap} {f : Addr} {fd : FuncData}
def spAre : Sp := fun vs H Q _ => ∃ (a : Addr) (cs : List Call), vs = [.ref a] ∧ Calls H a cs ∧ OkC 12 BIG cs ∧ ∀ H', Same H H' → Q (.bl true) H'
theorem ok_are (F : Fun K "are_calls" "are_calls" sAre f fd) (c : C8.Cal P w K mg base 3 "is_stretch" spStretch []) (mB : ∃ tk, mg "BIG" = some (.int BIG tk)) (mM : ∃ tk, mg "MOST_CALLS" = some (.int 12 tk))
    (mI : mg "isinstance" = none) (mt : mg "tuple" = none) (ml : mg "len" = none) (ma : mg "all" = none) (mr : mg "range" = none) : FnOk P w K mg base CX0 4 f fd ["thing"] spAre := by
  obtain ⟨tk, mB⟩ := mB
  obtain ⟨tk2, mM⟩ := mM
  refine F.ok scAre (fun vs H Q E h => ?_) (fun cdv A outer s H vs Q E hr h => ?_)
  · obtain ⟨a, cs, rfl, _⟩ := h
    rfl
  obtain ⟨a, cs, rfl, hC, ok, q⟩ := h
  obtain ⟨xs, ha, hp⟩ := id hC
  have hl : xs.length ≤ 12 := by
    rw [hp.1]
    exact ok.len
  refine ⟨_, pss_cons (ps_if (PW.pt (pw_or (pt_not (pt_val (pe_callB call_isi (by rfl) mI (by decide +kernel) (pa_cons (pv 0) (pa_cons (pe_bltn (v := .ty "tuple") (by rfl) mt (by decide +kernel) rfl) pa_nil)))))
        (pw_or1 (pt_cmpR op_gt (pe_callB call_len_seq (by rfl) ml PySem.boot_len (pa_cons (pv 0) pa_nil)) (pe_glob (v := .int 12) (by rfl) mM ⟨tk2, rfl⟩) (nomark _))))) (pss_one (ps_ret pe_bl)) pss_nil)
    (pss_cons (ps_for PassesOwn.never rfl (pi_tup (pv 0)) (pg_name (i := 1) scAre.nd rfl (.inl rfl))
      (pss_one (ps_if (PW.pt (pw_or (pt_not (pt_val (pe_callB call_isi (by rfl) mI (by decide +kernel) (pa_cons (pv 1) (pa_cons (pe_bltn (v := .ty "tuple") (by rfl) mt (by decide +kernel) rfl) pa_nil)))))
        (pw_or (pt_cmpR op_ne (pe_callB call_len_seq (by rfl) ml PySem.boot_len (pa_cons (pv 1) pa_nil)) pe_int (nomark _))
        (pw_or1 (pt_not (pt_val (C8.pe_c c hr (Nat.le_refl _) (by rfl) (pa_cons (pv 1) (pa_cons (pe_glob (v := .int BIG) (by rfl) mB ⟨tk, rfl⟩) pa_nil))))))))) (pss_one (ps_ret pe_bl)) pss_nil)))
    (pss_one (ps_ret (pe_callB (cr_all rfl) (by rfl) ma (by decide +kernel) (pa_cons (pe_lc (own := [("k", 2)]) (g := gName 2) (tt := tYes) rfl scAre.nd
        (pi_range1 (by rfl) mr (pa_cons (pe_op op_sub (pe_callB call_len_seq (by rfl) ml PySem.boot_len (pa_cons (pv 0) pa_nil)) pe_int) pa_nil))
        (blkOk_by (N := nAre) (sc := defScope sAre) (by decide +kernel)) (fun _ _ _ _ _ => pg_name (i := 2) scAre.nd rfl (Or.inl rfl)) (fun _ _ _ _ _ => pts_nil)
        (fun _ _ _ _ _ => pe_cmpR (leTK K hr.units0) (pe_ix (ixT K) (pv 0) (pv 2) (fun _ _ => rfl)) (pe_ix (ixT K) (pv 0) (pe_op op_add (pv 2) pe_int) (fun _ _ => rfl)) (nomark _))) pa_nil))))), ?_⟩
  -- if not isinstance(thing, tuple) or len(thing) > MOST_CALLS
  refine ⟨.ref a, rfl, .ref a, .ty "tuple", .type "tuple", .type "tuple", true, rfl, .ty _, .base (.tup ha), kit_ty (by decide +kernel), true, rfl, iteF ?_⟩
  refine ⟨.ref a, rfl, a, xs, rfl, .inr (.inl (.inl ha)), _, _, rfl, rfl, false, congrArg V.bl (decide_eq_false (by omega)), iteF ?_⟩
  -- for call in thing
  refine ⟨.ref a, rfl, a, rfl, ⟨xs, .inl (.inl ha)⟩, for_tup (xs := xs) (fun _ σ H' => H' = H ∧ ∃ y, σ = [some (.ref a), y, none]) ⟨rfl, none, rfl⟩ (fun i σ H' _ e => by rw [e.1]; exact .inl (.inl ha)) (fun i x σ H' hx hP => ?_) (fun σ H' hP => ?_)⟩
  · obtain ⟨rfl, y, rfl⟩ := hP
    obtain ⟨t, cc, rfl, hc, ht⟩ := hp.at hx
    have o := ok.ok cc (List.mem_of_getElem? hc)
    refine ⟨.ref t, rfl, .ref t, .ty "tuple", .type "tuple", .type "tuple", true, rfl, .ty _, .base (.tup ht), kit_ty (by decide +kernel), true, rfl, iteF ?_⟩
    refine ⟨.ref t, rfl, t, _, rfl, .inr (.inl (.inl ht)), rfl, false, rfl, iteF ?_⟩
    refine ⟨.ref t, rfl, t, cc.1, cc.2, rfl, ht, o.1, o.2.1, o.2.2, true, rfl, iteF ?_⟩
    exact ⟨rfl, _, rfl⟩
  -- all([..])
  · obtain ⟨rfl, y, rfl⟩ := hP
    refine ⟨.ref a, rfl, a, xs, rfl, .inr (.inl (.inl ha)), _, _, rfl, rfl, _, rfl, by omega, by omega, fun D hD => ?_⟩
    have ne : D ≠ a := fun e => by
      rw [e, ha] at hD
      cases hD
    refine lc_range (lo := 0) (n := ((xs.length : Int) - 1).toNat) (fun i H2 => H2 = upd H' D (.lst (List.replicate i (.bl true)))) rfl (fun i H2 hi e => ?_) (fun H2 e => ?_)
    · subst e
      have hi1 : i + 1 < xs.length := by omega
      have ha2 : (upd H' D (.lst (List.replicate i (.bl true)))) a = some (.tup xs) := by
        rw [upd_ne ne.symm]
        exact ha
      obtain ⟨t, c1, ex1, e1, ht⟩ := hp.at (List.getElem?_eq_getElem (show i < xs.length by omega))
      obtain ⟨t2, c2, ex2, e2, ht2⟩ := hp.at (List.getElem?_eq_getElem hi1)
      have le : lexle c1 c2 := by
        obtain ⟨b1, q1⟩ := List.getElem?_eq_some_iff.mp e1
        obtain ⟨b2, q2⟩ := List.getElem?_eq_some_iff.mp e2
        have := List.pairwise_iff_getElem.mp ok.up i (i + 1) b1 b2 (Nat.lt_succ_self i)
        rw [q1, q2] at this
        exact this
      have g1 : atI xs (0 + (i : Int)) = some (.ref t) := at_of (j := i) (by omega) (by rw [List.getElem?_eq_getElem (show i < xs.length by omega), ex1])
      have g2 : atI xs (0 + (i : Int) + 1) = some (.ref t2) := at_of (j := i + 1) (by omega) (by rw [List.getElem?_eq_getElem hi1, ex2])
      have hD1 : ∀ (b : Addr) (zs : List V), H' b = some (.tup zs) → (upd H' D (.lst (List.replicate i (.bl true)))) b = some (.tup zs) := fun b zs hb => by
        rw [upd_ne (ne_of_none hb hD)]
        exact hb
      refine ⟨rfl, ?_⟩
      refine ⟨.ref a, rfl, .int (0 + (i : Int)), rfl, a, xs, _, .ref t, rfl, rfl, .inl (.inl ha2), g1, ?_⟩
      refine ⟨.ref a, rfl, .int (0 + (i : Int)), rfl, _, _, rfl, rfl, a, xs, _, .ref t2, rfl, rfl, .inl (.inl ha2), g2, ?_⟩
      refine ⟨t, t2, [c1.1, c1.2], [c2.1, c2.2], rfl, rfl, .inl (.inl (hD1 _ _ ht)), .inl (.inl (hD1 _ _ ht2)), ?_⟩
      rw [le_true le]
      refine ⟨_, upd_same, by rw [List.length_replicate]; exact small12 (by omega), ?_⟩
      rw [upd_upd, List.replicate_succ']
    · subst e
      refine ⟨D, List.replicate ((xs.length : Int) - 1).toNat true, rfl, .inl (.inl (by rw [upd_same, List.map_replicate])), ?_⟩
      have e2 : (List.replicate ((xs.length : Int) - 1).toNat true).all id = true := by
        rw [List.all_eq_true]
        intro b hb
        exact List.eq_of_mem_replicate hb
      rw [e2]
      exact q _ (same_upd hD)

/-! ### the refusals that don't come -/
def spCheck : Sp := fun vs H Q _ => ∃ (a : Addr) (cs : List Call), vs = [.ref a] ∧ Calls H a cs ∧ OkC 12 BIG cs ∧ ∀ H', Same H H' → Q .non H'
theorem ok_check (F : Fun K "check_calls" "check_calls" sCheck f fd) (c : C8.Cal P w K mg base 4 "are_calls" spAre []) : FnOk P w K mg base CX0 5 f fd ["thing"] spCheck := by
  refine F.ok scCheck (fun vs H Q E h => ?_) (fun cdv A outer s H vs Q E hr h => ?_)
  · obtain ⟨a, cs, rfl, _⟩ := h
    rfl
  obtain ⟨a, cs, rfl, hC, ok, q⟩ := h
  refine ⟨_, pss_one (ps_if (pt_not (pt_val (C8.pe_c c hr (Nat.le_refl _) (by rfl) (pa_cons (pv 0) pa_nil)))) pss_never pss_nil), ?_⟩
  refine ⟨.ref a, rfl, a, cs, rfl, hC, ok, fun H' s => ⟨true, rfl, iteF ?_⟩⟩
  exact q H' s
def spMany : Sp := fun vs H Q _ => ∃ m : Int, vs = [.int m] ∧ 0 ≤ m ∧ Q .non H
theorem ok_many (F : Fun K "check_many" "check_many" sMany f fd) (c : C8.Cal P w K mg base 1 "is_whole" spWhole []) : FnOk P w K mg base CX0 2 f fd ["many"] spMany := by
  refine F.ok scMany (fun vs H Q E h => ?_) (fun cdv A outer s H vs Q E hr h => ?_)
  · obtain ⟨m, rfl, _⟩ := h
    rfl
  obtain ⟨m, rfl, h0, q⟩ := h
  refine ⟨_, pss_one (ps_if (PW.pt (pw_or (pt_not (pt_val (C8.pe_c c hr (Nat.le_refl _) (by rfl) (pa_cons (pv 0) pa_nil)))) (pw_or1 (pt_cmpR op_lt (pv 0) pe_int (nomark _))))) pss_never pss_nil), ?_⟩
  refine ⟨.int m, rfl, m, rfl, true, rfl, iteF ?_⟩
  exact ⟨.int m, rfl, m, 0, rfl, rfl, false, congrArg V.bl (decide_eq_false (by omega)), iteF q⟩

/-! ### within -/
def spWithin : Sp := fun vs H Q _ => ∃ (a : Addr) (cs : List Call) (b l : Int), vs = [.ref a, .int b, .int l] ∧ Calls H a cs ∧ cs.length ≤ 12 ∧ ∀ H', Same H H' → Q (.int (wn cs b l)) H'
theorem ok_within (F : Fun K "within" "within" sWithin f fd) (ml : mg "len" = none) : FnOk P w K mg base CX0 1 f fd ["calls", "first", "last"] spWithin := by
  refine F.ok scWithin (fun vs H Q E h => ?_) (fun cdv A outer s H vs Q E hr h => ?_)
  · obtain ⟨a, cs, b, l, rfl, _⟩ := h
    rfl
  obtain ⟨a, cs, b, l, rfl, hC, hl, q⟩ := h
  obtain ⟨xs, ha, hp⟩ := id hC
  refine ⟨_, pss_one (ps_ret (pe_callB call_len_seq (by rfl) ml PySem.boot_len (pa_cons (pe_lc (own := [("call", 3)]) (g := gName 3) rfl scWithin.nd (pi_tup (pv 0))
    (blkOk_by (N := nWithin) (sc := defScope sWithin) (by decide +kernel)) (fun _ _ _ _ _ => pg_name (i := 3) scWithin.nd rfl (Or.inl rfl))
    (fun _ _ _ _ _ => pts_one (PW.pt (pw_and (pt_cmpR op_le (pv 1) (pe_ix (ixT K) (pv 3) pe_int (fun _ _ => rfl)) (nomark _)) (pw_and1 (pt_cmpR op_le (pe_ix (ixT K) (pv 3) pe_int (fun _ _ => rfl)) (pv 2) (nomark _))))))
    (fun _ _ _ _ _ => pv 3)) pa_nil))), ?_⟩
  refine ⟨.ref a, rfl, a, rfl, ⟨xs, .inl (.inl ha)⟩, fun D hD => ?_⟩
  have keep : ∀ (ys : List V) (b : Addr) (zs : List V), H b = some (.tup zs) → (upd H D (.lst ys)) b = some (.tup zs) := fun ys b zs hb => by
    rw [upd_ne (ne_of_none hb hD)]
    exact hb
  refine lc_tup (xs := xs) (fun i H2 => ∃ ys : List V, H2 = upd H D (.lst ys) ∧ ys.length = ((cs.take i).filter (inS b l)).length) ⟨[], rfl, rfl⟩ (fun i H2 _ e => ?_) (fun i x H2 hx e => ?_) (fun H2 e => ?_)
  · obtain ⟨ys, rfl, _⟩ := e
    exact .inl (.inl (keep ys a xs ha))
  · obtain ⟨ys, rfl, hy⟩ := e
    obtain ⟨t, c, rfl, hc, ht⟩ := hp.at hx
    have hle : ys.length ≤ 12 := by
      rw [hy]
      refine Nat.le_trans (List.length_filter_le _ _) ?_
      rw [List.length_take]
      omega
    have ht2 := keep ys t _ ht
    refine ⟨rfl, ?_⟩
    refine ⟨.int b, rfl, .ref t, rfl, t, _, 0, .int c.1, rfl, rfl, .inl (.inl ht2), atI_nat (j := 0) rfl, _, _, rfl, rfl, _, rfl, ite2 (fun h1 => ?_) (fun h1 => ?_)⟩
    · have h1' : b ≤ c.1 := of_decide_eq_true h1
      refine ⟨.ref t, rfl, t, _, 1, .int c.2, rfl, rfl, .inl (.inl ht2), atI_nat (j := 1) rfl, .int l, rfl, _, _, rfl, rfl, _, rfl, ite2 (fun h2 => ?_) (fun h2 => ?_)⟩
      · have h2' : c.2 ≤ l := of_decide_eq_true h2
        refine ⟨.ref t, rfl, ys, upd_same, small12 hle, ys ++ [.ref t], by rw [upd_upd], ?_⟩
        rw [List.take_add_one, hc, List.filter_append, List.length_append, List.length_append, hy]
        show _ + 1 = _ + (List.filter (inS b l) [c]).length
        rw [List.filter_cons_of_pos (inS_iff.mpr ⟨h1', h2'⟩)]
        rfl
      · refine ⟨ys, rfl, ?_⟩
        have h2' : ¬ c.2 ≤ l := of_decide_eq_false (Bool.eq_false_iff.mpr h2)
        rw [List.take_add_one, hc, List.filter_append, List.length_append, hy]
        show _ = _ + (List.filter (inS b l) [c]).length
        rw [List.filter_cons_of_neg (fun z => h2' (inS_iff.mp z).2)]
        rfl
    · refine iteF ⟨ys, rfl, ?_⟩
      have h1' : ¬ b ≤ c.1 := of_decide_eq_false (Bool.eq_false_iff.mpr h1)
      rw [List.take_add_one, hc, List.filter_append, List.length_append, hy]
      show _ = _ + (List.filter (inS b l) [c]).length
      rw [List.filter_cons_of_neg (fun z => h1' (inS_iff.mp z).1)]
      rfl
  · obtain ⟨ys, rfl, hy⟩ := e
    refine ⟨D, ys, rfl, .inl (.inl (.inl upd_same)), ?_⟩
    have e2 : ((ys.length : Nat) : Int) = (wn cs b l : Int) := by
      rw [hy, hp.1, List.take_length]
      unfold wn
      rw [List.countP_eq_length_filter]
    rw [e2]
    exact q _ (same_upd hD)
end
end Dy
/-! DyF3: wanted. -/
namespace Dy
open PySem PySem.Spec PyProof.Rows L2

/-- a stretch, or None -/
def StAt (H : Hp) (v : V) (st : Option (Int × Int)) : Prop := (st = none ∧ v = .non) ∨ ∃ q b l, st = some (b, l) ∧ v = .ref q ∧ H q = some (.tup [.int b, .int l])
theorem StAt.of {H H' : Hp} {v : V} {st : Option (Int × Int)} (h : StAt H v st) (s : Tups H H') : StAt H' v st := by
  rcases h with h | ⟨q, b, l, h1, h2, h3⟩
  · exact .inl h
  · exact .inr ⟨q, b, l, h1, h2, s _ _ h3⟩
/-- sorted(set([call[i] for call in calls])) -/
def tEnds (K : PySem.W.Frag) (w : World) (i : Int) : TE := tCB (rSortedSet w) (tCons (tCB (rDySet K w) (tCons (tLc (iTup K (tVar 0)) (gName 7) tYes (tOp (rIxT K) (tVar 7) (tC (.int i))) [7]) tNil)) tNil)
theorem ends_read {K : PySem.W.Frag} {w : World} {i : Nat} {g : Call → Int} {a : Addr} {cs : List Call} {y1 y2 y3 y4 y5 y6 y7 : Option V} {H : Hp} {Q : VK} (hg : ∀ c : Call, ([.int c.1, .int c.2] : List V)[i]? = some (.int (g c))) (hC : Calls H a cs) (hl : cs.length ≤ 12)
    (q : ∀ (H' : Hp) (p : Addr) (ns : List Int), Same H H' → H' p = some (.lst (ns.map V.int)) → (∀ k, k ∈ ns ↔ ∃ c ∈ cs, g c = k) → Q (.ref p) H') : tEnds K w (i : Int) [some (.ref a), y1, y2, y3, y4, y5, y6, y7] H Q := by
  obtain ⟨xs, ha, hp⟩ := id hC
  refine ⟨.ref a, rfl, a, rfl, ⟨xs, .inl (.inl ha)⟩, fun D hD => ?_⟩
  have keep : ∀ (ys : List V) (b : Addr) (zs : List V), H b = some (.tup zs) → (upd H D (.lst ys)) b = some (.tup zs) := fun ys b zs hb => by
    rw [upd_ne (ne_of_none hb hD)]
    exact hb
  refine lc_tup (xs := xs) (fun j H2 => H2 = upd H D (.lst (((cs.take j).map g).map V.int))) rfl (fun j H2 _ e => ?_) (fun j x H2 hx e => ?_) (fun H2 e => ?_)
  · subst e
    exact .inl (.inl (keep _ a xs ha))
  · subst e
    obtain ⟨t, c, rfl, hc, ht⟩ := hp.at hx
    refine ⟨rfl, ?_⟩
    refine ⟨.ref t, rfl, t, _, (i : Int), .int (g c), rfl, rfl, .inl (.inl (keep _ t _ ht)), atI_nat (hg c), ?_⟩
    refine ⟨_, upd_same, small12 ?_, ?_⟩
    · rw [List.length_map, List.length_map, List.length_take]
      omega
    · rw [upd_upd, List.take_add_one, hc, List.map_append, List.map_append]
      rfl
  · subst e
    refine ⟨D, cs.map g, rfl, .inl (.inl (by rw [upd_same, hp.1, List.take_length])), by rw [List.length_map]; omega, fun p n hpn hn => ?_⟩
    rw [List.length_map] at hn
    refine ⟨p, _, n, rfl, upd_same, by omega, fun ns p2 _ hmem _ hp2 => ?_⟩
    refine q _ p2 ns ((same_upd hD).trans ((same_upd hpn).trans (same_upd hp2))) upd_same fun k => ?_
    rw [hmem k, decide_eq_true_eq, List.mem_map]
section
variable {P : Program} {w : World} {K : PySem.W.Frag} {mg : Str → Option Value} {base : Heap} {f : Addr} {fd : FuncData}
def spWanted : Sp := fun vs H Q _ => ∃ (a : Addr) (cs : List Call), vs = [.ref a] ∧ Calls H a cs ∧ OkC 12 BIG cs ∧
  ∀ (H' : Hp) (p : Addr) (m : Int) (v : V) (st : Option (Int × Int)), Same H H' → H' p = some (.tup [.int m, v]) → StAt H' v st → Most cs m st → Need cs m → Q (.ref p) H'
theorem big_log : (BIG + 1).natAbs < 2 ^ 100 := by decide +kernel
theorem ok_wanted (F : Fun K "wanted" "wanted" sWanted f fd) (c : C8.Cal P w K mg base 1 "within" spWithin []) (ms : mg "sorted" = none) (mt : mg "set" = none) : FnOk P w K mg base CX0 2 f fd ["calls"] spWanted := by
  refine F.ok scWanted (fun vs H Q E h => ?_) (fun cdv A outer s H vs Q E hr h => ?_)
  · obtain ⟨a, cs, rfl, _⟩ := h
    rfl
  obtain ⟨a, cs, rfl, hC, ok, q⟩ := h
  refine ⟨_, pss_cons (ps_asg (pe_tup (pa_cons pe_int (pa_cons pe_non pa_nil))) (pg_tup (by rfl) (pgs_cons (pg_name (i := 1) scWanted.nd rfl (.inl rfl)) (pgs_cons (pg_name (i := 2) scWanted.nd rfl (.inl rfl)) pgs_nil))))
    (pss_cons (ps_for PassesOwn.never rfl (pi_list (pe_callB (cr_sortedSet rfl) (by rfl) ms (by decide +kernel) (pa_cons (pe_callTy (cr_setL rfl) (by rfl) mt (by decide +kernel) (pa_cons
        (pe_lc (own := [("call", 7)]) (g := gName 7) (tt := tYes) rfl scWanted.nd (pi_tup (pv 0)) (blkOk_by (N := nWanted) (sc := defScope sWanted) (by decide +kernel)) (fun _ _ _ _ _ => pg_name (i := 7) scWanted.nd rfl (Or.inl rfl)) (fun _ _ _ _ _ => pts_nil)
          (fun _ _ _ _ _ => pe_ix (ixT K) (pv 7) pe_int (fun _ _ => rfl))) pa_nil)) pa_nil))) (pg_name (i := 3) scWanted.nd rfl (.inl rfl))
      (pss_one (ps_for PassesOwn.never rfl (pi_list (pe_callB (cr_sortedSet rfl) (by rfl) ms (by decide +kernel) (pa_cons (pe_callTy (cr_setL rfl) (by rfl) mt (by decide +kernel) (pa_cons
        (pe_lc (own := [("call", 7)]) (g := gName 7) (tt := tYes) rfl scWanted.nd (pi_tup (pv 0)) (blkOk_by (N := nWanted) (sc := defScope sWanted) (by decide +kernel)) (fun _ _ _ _ _ => pg_name (i := 7) scWanted.nd rfl (Or.inl rfl)) (fun _ _ _ _ _ => pts_nil)
          (fun _ _ _ _ _ => pe_ix (ixT K) (pv 7) pe_int (fun _ _ => rfl))) pa_nil)) pa_nil))) (pg_name (i := 4) scWanted.nd rfl (.inl rfl))
        (pss_one (ps_if (pt_cmpR op_le (pv 3) (pv 4) (nomark _))
          (pss_cons (ps_set (i := 5) scWanted.nd rfl (.inl rfl) (pe_op op_add (pe_op op_sub (pv 4) (pv 3)) pe_int))
          (pss_cons (ps_set (i := 6) scWanted.nd rfl (.inl rfl) (pe_op op_fdivW (pe_op op_sub (pe_op op_add (C8.pe_c c hr (Nat.le_refl _) (by rfl) (pa_cons (pv 0) (pa_cons (pv 3) (pa_cons (pv 4) pa_nil)))) (pv 5)) pe_int) (pv 5)))
          (pss_one (ps_if (pt_cmpR op_gt (pv 6) (pv 1) (nomark _))
            (pss_one (ps_par (i := 1) (j := 2) rfl scWanted.nd rfl rfl (by decide) rfl rfl (pa_cons (pv 6) (pa_cons (pe_tup (pa_cons (pv 3) (pa_cons (pv 4) pa_nil))) pa_nil)) (by rfl))) pss_nil)))) pss_nil)))))
    (pss_one (ps_ret (pe_tup (pa_cons (pv 1) (pa_cons (pv 2) pa_nil))))))
    , ?_⟩
  -- most, found = 0, None
  refine ⟨(by show 2 ≤ sizeLine; decide), fun t0 ht0 => ⟨t0, [.int 0, .non], rfl, .inl (.inl upd_same), rfl, .int 0, [.non], rfl, .non, [], rfl, rfl, ?_⟩⟩
  have s0 := same_upd (o := .tup [.int 0, .non]) ht0
  refine ends_read (i := 0) (g := fun c => c.1) (fun c => rfl) (hC.same s0) ok.len fun H1 p1 ns1 s01 hp1 mem1 => ?_
  have s1 := s0.trans s01
  -- for first in ..
  refine ⟨p1, rfl, ⟨_, .inl (.inl hp1)⟩, for_list (xs := ns1.map V.int) (fun i σ H2 => ∃ (m : Int) (v : V) (st : Option (Int × Int)) (y3 y4 y5 y6 : Option V), σ = [some (.ref a), some (.int m), some v, y3, y4, y5, y6, none] ∧ Same H1 H2 ∧ StAt H2 v st ∧ Most cs m st ∧
    ∀ b ∈ ns1.take i, ∀ d ∈ cs, b ≤ d.2 → (wn cs b d.2 : Int) ≤ m * (d.2 - b + 1))
    ⟨0, .non, none, none, none, none, none, rfl, Same.refl _, .inl ⟨rfl, rfl⟩, Most.start cs, fun b hb => by simp at hb⟩ (fun i σ H2 _ hP => ?_) (fun i x σ H2 hx hP => ?_) (fun σ H2 hP => ?_)⟩
  · obtain ⟨m, v, st, y3, y4, y5, y6, _, s2, _⟩ := hP
    exact .inl (.inl (s2 _ _ hp1))
  · obtain ⟨m, v, st, y3, y4, y5, y6, rfl, s2, hst, hm, hd⟩ := hP
    rw [List.getElem?_map] at hx
    cases hb : ns1[i]? with
    | none =>
      rw [hb] at hx
      cases hx
    | some b =>
    rw [hb] at hx
    have ex : V.int b = x := Option.some.inj hx
    subst ex
    obtain ⟨c1, hc1, ec1⟩ := (mem1 b).mp (List.mem_of_getElem? hb)
    have b1 : 1 ≤ b := by
      rw [← ec1]
      exact (ok.ok c1 hc1).1
    refine ends_read (i := 1) (g := fun c => c.2) (fun c => rfl) (hC.same (s1.trans s2)) ok.len fun H3 p2 ns2 s3 hp2 mem2 => ?_
    -- for last in ..
    refine ⟨p2, rfl, ⟨_, .inl (.inl hp2)⟩, for_list (xs := ns2.map V.int) (fun j σ H4 => ∃ (m : Int) (v : V) (st : Option (Int × Int)) (y4 y5 y6 : Option V), σ = [some (.ref a), some (.int m), some v, some (.int b), y4, y5, y6, none] ∧ Same H3 H4 ∧ StAt H4 v st ∧ Most cs m st ∧
      (∀ b ∈ ns1.take i, ∀ d ∈ cs, b ≤ d.2 → (wn cs b d.2 : Int) ≤ m * (d.2 - b + 1)) ∧ ∀ l ∈ ns2.take j, b ≤ l → (wn cs b l : Int) ≤ m * (l - b + 1))
      ⟨m, v, st, y4, y5, y6, rfl, Same.refl _, hst.of (Same.tups s3), hm, hd, fun l hl => by simp at hl⟩ (fun j σ H4 _ hP => ?_) (fun j x σ H4 hx hP => ?_) (fun σ H4 hP => ?_)⟩
    · obtain ⟨m, v, st, y4, y5, y6, _, s4, _⟩ := hP
      exact .inl (.inl (s4 _ _ hp2))
    · obtain ⟨m, v, st, y4, y5, y6, rfl, s4, hst, hm, hd, hin⟩ := hP
      rw [List.getElem?_map] at hx
      cases hl : ns2[j]? with
      | none =>
        rw [hl] at hx
        cases hx
      | some l =>
      rw [hl] at hx
      have ex : V.int l = x := Option.some.inj hx
      subst ex
      obtain ⟨c2, hc2, ec2⟩ := (mem2 l).mp (List.mem_of_getElem? hl)
      have l1 : l ≤ BIG := by
        rw [← ec2]
        exact (ok.ok c2 hc2).2.2
      have step : ∀ (m2 : Int), (∀ b ∈ ns1.take i, ∀ d ∈ cs, b ≤ d.2 → (wn cs b d.2 : Int) ≤ m2 * (d.2 - b + 1)) → (∀ z ∈ ns2.take j, b ≤ z → (wn cs b z : Int) ≤ m2 * (z - b + 1)) → (b ≤ l → (wn cs b l : Int) ≤ m2 * (l - b + 1)) →
          ∀ z ∈ ns2.take (j + 1), b ≤ z → (wn cs b z : Int) ≤ m2 * (z - b + 1) := fun m2 h1 h2 h3 z hz hbz => by
        rw [List.take_add_one, hl] at hz
        rcases List.mem_append.mp hz with e | e
        · exact h2 z e hbz
        · have e2 : z = l := List.mem_singleton.mp e
          subst e2
          exact h3 hbz
      refine ⟨.int b, rfl, .int l, rfl, b, l, rfl, rfl, _, rfl, ite2 (fun h1 => ?_) (fun h1 => ?_)⟩
      · have hbl : b ≤ l := of_decide_eq_true h1
        refine ⟨.int l, rfl, .int b, rfl, l, b, rfl, rfl, l - b, 1, rfl, rfl, ?_⟩
        refine ⟨.ref a, rfl, .int b, rfl, .int l, rfl, a, cs, b, l, rfl, hC.same (s1.trans (s2.trans (s3.trans s4))), ok.len, fun H5 s5 => ?_⟩
        refine ⟨.int (l - b + 1), rfl, _, _, rfl, rfl, _, 1, rfl, rfl, .int (l - b + 1), rfl, _, _, rfl, rfl, wide_div (b := 100) (by omega) (wide_le (j := BIG + 1) (by omega) (by omega) big_log) (by decide) (by decide), ?_⟩
        refine ⟨_, rfl, .int m, rfl, _, m, rfl, rfl, _, rfl, ite2 (fun h2 => ?_) (fun h2 => ?_)⟩
        · have hmh : m < ((wn cs b l : Int) + (l - b + 1) - 1) / (l - b + 1) := of_decide_eq_true h2
          have hm2 := hm.turn hbl hmh
          refine ⟨_, rfl, .int b, rfl, .int l, rfl, (by show 2 ≤ sizeLine; decide), fun t ht => ?_⟩
          refine ⟨_, .ref t, rfl, ?_⟩
          refine ⟨_, .ref t, some (b, l), _, _, _, rfl, s4.trans (s5.trans (same_upd ht)), .inr ⟨t, b, l, rfl, rfl, upd_same⟩, hm2, ?_, ?_⟩
          · intro b' hb' d hdd hle
            have z1 := hd b' hb' d hdd hle
            have z2 := mul_mono (t := d.2 - b' + 1) (Int.le_of_lt hmh) (by omega)
            omega
          · refine step _ (fun b' hb' d hdd hle => ?_) (fun z hz hbz => ?_) (fun _ => (up_div (w := (wn cs b l : Int)) (b := l - b + 1) (by omega)).1)
            · have z1 := hd b' hb' d hdd hle
              have z2 := mul_mono (t := d.2 - b' + 1) (Int.le_of_lt hmh) (by omega)
              omega
            · have z1 := hin z hz hbz
              have z2 := mul_mono (t := z - b + 1) (Int.le_of_lt hmh) (by omega)
              omega
        · have hmh : ¬ m < ((wn cs b l : Int) + (l - b + 1) - 1) / (l - b + 1) := of_decide_eq_false (Bool.eq_false_iff.mpr h2)
          exact ⟨m, v, st, _, _, _, rfl, s4.trans s5, hst.of (Same.tups s5), hm, hd, step m hd hin fun _ => Most.ok hbl (by omega)⟩
      · have hbl : ¬ b ≤ l := of_decide_eq_false (Bool.eq_false_iff.mpr h1)
        exact ⟨m, v, st, _, _, _, rfl, s4, hst, hm, hd, step m hd hin fun z => absurd z hbl⟩
    · obtain ⟨m, v, st, y4, y5, y6, rfl, s4, hst, hm, hd, hin⟩ := hP
      refine ⟨m, v, st, _, _, _, _, rfl, s2.trans (s3.trans s4), hst, hm, fun b' hb' d hdd hle => ?_⟩
      rw [List.take_add_one, hb] at hb'
      rcases List.mem_append.mp hb' with e | e
      · exact hd b' e d hdd hle
      · have e2 : b' = b := List.mem_singleton.mp e
        subst e2
        refine hin d.2 ?_ hle
        rw [List.length_map, List.take_length]
        exact (mem2 d.2).mpr ⟨d, hdd, rfl⟩
  · obtain ⟨m, v, st, y3, y4, y5, y6, rfl, s2, hst, hm, hd⟩ := hP
    refine ⟨.int m, rfl, v, rfl, (by show 2 ≤ sizeLine; decide), fun p hp => ?_⟩
    refine q _ p m v st (s1.trans (s2.trans (same_upd hp))) upd_same (hst.of (Same.tups (same_upd hp))) hm (hm.need (hall_of_ends hm.pos ok.le fun c hc d hdd hle => ?_))
    refine hd c.1 ?_ d hdd hle
    rw [List.length_map, List.take_length]
    exact (mem1 c.1).mpr ⟨c, hc, rfl⟩
end
end Dy
/-! DyF4: plan_by. -/
namespace Dy
open PySem PySem.Spec PyProof.Rows L2

/-! ### sorted pairs -/
def kOf (H : Hp) : V → Int × Int
  | .ref t => match H t with
    | some (.tup [.int a, .int b]) => (a, b)
    | _ => (0, 0)
  | _ => (0, 0)
theorem kOf_at {H : Hp} {t : Addr} {c : Call} (h : H t = some (.tup [.int c.1, .int c.2])) : kOf H (.ref t) = c := by
  show (match H t with
    | some (.tup [.int a, .int b]) => (a, b)
    | _ => (0, 0)) = c
  rw [h]
theorem Pairs.keys {H : Hp} {xs : List V} {cs : List Call} (h : Pairs H xs cs) : xs.map (kOf H) = cs := by
  refine List.ext_getElem? fun i => ?_
  rw [List.getElem?_map]
  cases hx : xs[i]? with
  | none =>
    have h1 := List.getElem?_eq_none_iff.mp hx
    rw [h.1] at h1
    rw [List.getElem?_eq_none_iff.mpr h1]
    rfl
  | some x =>
    obtain ⟨t, c, rfl, hc, ht⟩ := h.at hx
    rw [hc, Option.map_some, kOf_at ht]
theorem Pairs.all {H : Hp} {xs : List V} {cs : List Call} (h : Pairs H xs cs) : ∀ x ∈ xs, ∃ t, x = .ref t ∧ H t = some (.tup [.int (kOf H x).1, .int (kOf H x).2]) := fun x hx => by
  obtain ⟨i, hi⟩ := List.mem_iff_getElem?.mp hx
  obtain ⟨t, c, rfl, hc, ht⟩ := h.at hi
  exact ⟨t, rfl, by rw [kOf_at ht]; exact ht⟩
theorem Pairs.sorted {H : Hp} {xs ys : List V} {cs : List Call} (h : Pairs H xs cs) (p : ys.Perm xs) (s : SrtO.Srtd (ltP (kOf H)) ys) : ∃ ds : List Call, Pairs H ys ds ∧ ds.Perm cs ∧ ds.Pairwise lexle := by
  refine ⟨ys.map (kOf H), ⟨by rw [List.length_map], fun i c e => ?_⟩, ?_, ?_⟩
  · rw [List.getElem?_map] at e
    cases hy : ys[i]? with
    | none =>
      rw [hy] at e
      cases e
    | some y =>
      rw [hy] at e
      have e2 : kOf H y = c := Option.some.inj e
      obtain ⟨t, rfl, ht⟩ := h.all y (p.mem_iff.mp (List.mem_of_getElem? hy))
      rw [e2] at ht
      exact ⟨t, rfl, ht⟩
  · have q := p.map (kOf H)
    rw [h.keys] at q
    exact q
  · rw [List.pairwise_map]
    exact s.imp fun q => lexle_iff.mpr q

/-! ### lists of ints -/
theorem rg_nums (n : Nat) : rgV 0 (n : Int) = (nums n).map V.int := by
  unfold rgV nums
  rw [List.map_map, Int.sub_zero, Int.toNat_natCast]
  refine List.map_congr_left fun i _ => ?_
  show V.int (0 + (i : Int)) = V.int (i : Int)
  rw [Int.zero_add]
theorem depth_ints : ∀ ns : List Int, PyData.depthAll (ns.map PyData.int) = 0
  | [] => rfl
  | n :: r => by
    show max (PyData.depth (.int n)) (PyData.depthAll (r.map PyData.int)) = 0
    rw [depth_ints r]
    rfl
theorem shaped_ints (ns : List Int) : SeqAt.shaped (.list (ns.map PyData.int)) = true := by
  unfold SeqAt.shaped
  rw [Bool.and_eq_true]
  refine ⟨PySem.W.ke_canLayAll0 ns, decide_eq_true ?_⟩
  show PyData.depthAll (ns.map PyData.int) + 1 ≤ 64
  rw [depth_ints]
  decide
theorem dp_ints {K : PySem.W.Frag} {H : Hp} : ∀ ns : List Int, DpAll K H (ns.map V.int) (ns.map PyData.int)
  | [] => .nil
  | n :: r => .cons (.int n) (dp_ints r)
theorem ne_nil_ints (ns : List Int) : (!PyData.eqv (.list (ns.map PyData.int)) (.list [])) = !ns.isEmpty := by
  cases ns with
  | nil => rfl
  | cons n r => rfl
/-- a plan in the heap -/
def enc (pl : List (Option Int)) : List V := pl.map fun o => match o with
  | none => V.non
  | some x => V.int x
theorem enc_length (pl : List (Option Int)) : (enc pl).length = pl.length := List.length_map _
theorem enc_set (pl : List (Option Int)) (k : Nat) (b : Int) : (enc pl).set k (.int b) = enc (pl.set k (some b)) := by
  unfold enc
  rw [List.map_set]
theorem enc_none (n : Nat) : enc (List.replicate n none) = List.replicate n .non := by
  unfold enc
  rw [List.map_replicate]
theorem enc_some (ps : List Int) : enc (ps.map some) = ps.map V.int := by
  unfold enc
  rw [List.map_map]
  rfl
theorem rep_one {α : Type} (n : Nat) (x : α) : (List.replicate n [x]).flatten = List.replicate n x := by
  induction n with
  | zero => rfl
  | succ n ih => rw [List.replicate_succ, List.flatten_cons, ih, List.replicate_succ]; rfl
theorem ix_in {n : Nat} {k : Int} (h0 : 0 ≤ k) (h1 : k < (n : Int)) : ixN n k = some k.toNat := by
  unfold ixN
  rw [if_pos h0, if_pos h1]
theorem first_at {l : List Int} {k : Int} (h : k ∈ l) : ∃ j, l[j]? = some k ∧ (∀ m : Nat, m < j → l[m]? ≠ some k) ∧ l.eraseIdx j = l.erase k := by
  induction l with
  | nil => cases h
  | cons a r ih =>
    by_cases e : a = k
    · subst e
      refine ⟨0, rfl, fun m hm => absurd hm (Nat.not_lt_zero _), ?_⟩
      rw [List.erase_cons_head]
      rfl
    · obtain ⟨j, h1, h2, h3⟩ := ih (by
        rcases List.mem_cons.mp h with q | q
        · exact absurd q.symm e
        · exact q)
      refine ⟨j + 1, h1, fun m hm => ?_, ?_⟩
      · cases m with
        | zero =>
          intro q
          exact e (Option.some.inj q)
        | succ m => exact h2 m (by omega)
      · rw [List.erase_cons_tail (by simpa using e), List.eraseIdx_cons_succ, h3]
theorem cut_to {xs : List V} {m : Int} (h : 0 ≤ m) : cutV xs none (some m) = xs.take m.toNat := by
  unfold cutV
  have e : m = ((m.toNat : Nat) : Int) := by omega
  rw [HT.sIx_none, e, HT.sIx_nat, List.drop_zero, Nat.sub_zero, Int.toNat_natCast, List.take_eq_take_iff]
  omega
/-- a list that H did not know is changed -/
theorem Same.mut {H H' : Hp} {p : Addr} {o : HO} (e : Same H H') (h : H p = none) : Same H (upd H' p o) := fun b x hb => by
  rw [upd_ne (ne_of_none hb h)]
  exact e b x hb
theorem call_at {H : Hp} {xs : List V} {cs : List Call} (hp : Pairs H xs cs) {k : Int} (h0 : 0 ≤ k) (h1 : k < (cs.length : Int)) : ∃ t, atI xs k = some (.ref t) ∧ H t = some (.tup [.int (fst cs k), .int (lst cs k)]) := by
  have hk : k.toNat < cs.length := by omega
  obtain ⟨t, e1, e2⟩ := hp.2 k.toNat _ (List.getElem?_eq_getElem hk)
  have f1 := fst_at (List.getElem?_eq_getElem hk)
  have f2 := lst_at (List.getElem?_eq_getElem hk)
  have ek : ((k.toNat : Nat) : Int) = k := by omega
  rw [ek] at f1 f2
  refine ⟨t, at_of (j := k.toNat) ek.symm e1, ?_⟩
  rw [f1, f2]
  exact e2
end Dy
/-! DyF5: plan_by's walk. -/
namespace Dy
open PySem PySem.Spec PyProof.Rows L2
theorem hall_one {cs : List Call} {m : Int} (h : Hall cs m) (h0 : 0 ≤ m) (ok : ∀ c ∈ cs, c.1 ≤ c.2) (hne : cs ≠ []) : 1 ≤ m := by
  rcases Int.lt_or_le m 1 with z | z
  · have e : m = 0 := by omega
    subst e
    exact absurd (need_zero ok ⟨Int.le_refl 0, h, .inl rfl⟩) hne
  · exact z
theorem perm_parts {l : List Int} (p : Int → Bool) : l.Perm (l.filter p ++ l.filter fun k => !p k) := (List.filter_append_perm p l).symm
/-- two lists of pairs at one address are one -/
theorem Pairs.take_add {H : Hp} {xs : List V} {cs : List Call} (h : Pairs H xs cs) {i : Nat} {x : V} (e : xs[i]? = some x) : ∃ c, cs[i]? = some c ∧ cs.take (i + 1) = cs.take i ++ [c] := by
  obtain ⟨t, c, _, hc, _⟩ := h.at e
  refine ⟨c, hc, ?_⟩
  rw [List.take_add_one, hc]
  rfl
theorem Pairs.take {H : Hp} {xs : List V} {cs : List Call} (h : Pairs H xs cs) (n : Nat) : Pairs H (xs.take n) (cs.take n) := by
  refine ⟨by rw [List.length_take, List.length_take, h.1], fun i c e => ?_⟩
  rw [List.getElem?_take] at e ⊢
  split at e
  · rename_i hi
    rw [if_pos hi]
    exact h.2 i c e
  · cases e
/-- what the inner loop of plan_by keeps -/
structure Fill (cs : List Call) (m b : Int) (ks : List Int) (j : Nat) (left0 left : List Int) (pl : List (Option Int)) : Prop where
  st : Step cs m b j left pl
  pm : left0.Perm (ks.take j ++ left)
theorem Fill.more {cs : List Call} {m b : Int} {ks left0 left : List Int} {j : Nat} {pl : List (Option Int)} (h : Fill cs m b ks j left0 left pl) (nd : ks.Nodup) (sub : ∀ k ∈ ks, k ∈ left0) {k : Int} (hk : ks[j]? = some k)
    (h1 : fst cs k ≤ b) (h2 : b ≤ lst cs k) (h3 : b ≤ fst cs k + (cs.length : Int)) : k ∈ left ∧ Fill cs m b ks (j + 1) left0 (left.erase k) (pl.set k.toNat (some b)) := by
  have hm : k ∈ left := by
    rcases List.mem_append.mp (h.pm.mem_iff.mp (sub k (List.mem_of_getElem? hk))) with q | q
    · obtain ⟨i, hi, e⟩ := List.mem_take_iff_getElem.mp q
      obtain ⟨hj, ej⟩ := List.getElem?_eq_some_iff.mp hk
      have e2 : ks[i] = ks[j] := e.trans ej.symm
      have := (List.getElem_inj nd).mp e2
      omega
    · exact q
  refine ⟨hm, h.st.more hm h1 h2 h3, ?_⟩
  rw [List.take_add_one, hk]
  refine h.pm.trans ?_
  show (ks.take j ++ left).Perm (ks.take j ++ [k] ++ left.erase k)
  rw [List.append_assoc]
  exact List.Perm.append_left _ (List.perm_cons_erase hm)
section
variable {P : Program} {w : World} {K : PySem.W.Frag} {mg : Str → Option Value} {base : Heap} {f : Addr} {fd : FuncData}
def spPlan : Sp := fun vs H Q _ => ∃ (a : Addr) (cs : List Call) (m : Int), vs = [.ref a, .int m] ∧ Calls H a cs ∧ OkC 12 BIG cs ∧ Hall cs m ∧ 0 ≤ m ∧
  ∀ (H' : Hp) (p : Addr) (ps : List Int), Same H H' → TupF H' p (ps.map V.int) → Fits cs ps → Fits (near cs) ps → (∀ x, (ps.count x : Int) ≤ m) → Q (.ref p) H'
/-- between two beats, in the heap -/
def PlW (cs : List Call) (m : Int) (a pa la : Addr) (H0 : Hp) (n : Nat) (σ : L2.St) (H : Hp) : Prop := ∃ (b : Int) (left : List Int) (pl : List (Option Int)) (y5 y6 y7 : Option V), σ = [some (.ref a), some (.int m), some (.ref pa), some (.int b), some (.ref la), y5, y6, y7] ∧
  left.length = n ∧ Same H0 H ∧ H pa = some (.lst (enc pl)) ∧ H la = some (.lst (left.map V.int)) ∧ Plan cs m b left pl ∧ Wait cs m b left
theorem ok_plan (F : Fun K "plan_by" "plan_by" sPlan f fd) (ml : mg "len" = none) (mL : mg "list" = none) (mr : mg "range" = none) (mM : mg "max" = none) (mm : mg "min" = none) (ms : mg "sorted" = none) (mt : mg "tuple" = none) : FnOk P w K mg base CX0 1 f fd ["calls", "many"] spPlan := by
  refine F.ok scPlan (fun vs H Q E h => ?_) (fun cdv A outer s H vs Q E hr h => ?_)
  · obtain ⟨a, cs, m, rfl, _⟩ := h
    rfl
  obtain ⟨a, cs, m, rfl, hC, ok, hall, hm0, q⟩ := h
  obtain ⟨xs, ha, hp⟩ := id hC
  refine ⟨_, pss_cons (ps_set (i := 2) scPlan.nd rfl (.inl rfl) (pe_op op_rep (pe_lst (pa_cons pe_non pa_nil)) (pe_callB call_len_seq (by rfl) ml PySem.boot_len (pa_cons (pv 0) pa_nil))))
    (pss_cons (ps_set (i := 3) scPlan.nd rfl (.inr rfl) pe_int)
    (pss_cons (ps_set (i := 4) scPlan.nd rfl (.inl rfl) (pe_listRgA (by rfl) (by rfl) mL (prg_1 (by rfl) mr (pe_callB call_len_seq (by rfl) ml PySem.boot_len (pa_cons (pv 0) pa_nil)))))
    (pss_cons (ps_while PassesOwn.never (pt_cmpR (op_neD hr.units) (pv 4) (pe_lst pa_nil) (nomark _))
      (pss_cons (ps_set (i := 3) scPlan.nd rfl (.inr rfl) (pe_callB (call_max2 rfl) (by rfl) mM (by decide +kernel) (pa_cons (pe_op op_add (pv 3) pe_int) (pa_cons
          (pe_callB (cr_min rfl) (by rfl) mm (by decide +kernel) (pa_cons (pe_lc (own := [("k", 5)]) (g := gName 5) (tt := tYes) rfl scPlan.nd (pi_list (pv 4)) (blkOk_by (N := nPlan) (sc := defScope sPlan) (by decide +kernel))
            (fun _ _ _ _ _ => pg_name (i := 5) scPlan.nd rfl (Or.inl rfl)) (fun _ _ _ _ _ => pts_nil) (fun _ _ _ _ _ => pe_ix (ixT K) (pe_ix (ixT K) (pv 0) (pv 5) (fun _ _ => rfl)) pe_int (fun _ _ => rfl))) pa_nil)) pa_nil))))
      (pss_cons (ps_set (i := 6) scPlan.nd rfl (.inl rfl) (pe_callB cr_sortedPO (by rfl) ms (by decide +kernel) (pa_cons (pe_lc (own := [("k", 5)]) (g := gName 5) rfl scPlan.nd (pi_list (pv 4)) (blkOk_by (N := nPlan) (sc := defScope sPlan) (by decide +kernel))
            (fun _ _ _ _ _ => pg_name (i := 5) scPlan.nd rfl (Or.inl rfl)) (fun _ _ _ _ _ => pts_one (pt_cmpR op_le (pe_ix (ixT K) (pe_ix (ixT K) (pv 0) (pv 5) (fun _ _ => rfl)) pe_int (fun _ _ => rfl)) (pv 3) (nomark _)))
            (fun _ _ _ _ _ => pe_tup (pa_cons (pe_ix (ixT K) (pe_ix (ixT K) (pv 0) (pv 5) (fun _ _ => rfl)) pe_int (fun _ _ => rfl)) (pa_cons (pv 5) pa_nil)))) pa_nil)))
      (pss_one (ps_for PassesOwn.never rfl (pi_list (pe_slice sl_list (pv 6) po_none (po_some (pv 1)))) (pg_tup (by rfl) (pgs_cons (pg_name (i := 7) scPlan.nd rfl (.inl rfl)) (pgs_cons (pg_name (i := 5) scPlan.nd rfl (.inl rfl)) pgs_nil)))
        (pss_cons (ps_asg (pv 3) (pg_sub (pv 2) (pv 5) set_list))
        (pss_one (ps_expr (pe_bm PySem.F.plainAttrs_list PySem.F.slot_list_remove PySem.F.type_list_remove mt_remove (pv 4) (pa_cons (pv 5) pa_nil))))))))))
    (pss_one (ps_ret (pe_callTy cr_tupleF (by rfl) mt (by decide +kernel) (pa_cons (pv 2) pa_nil))))))), ?_⟩
  -- plan = [None] * len(calls); beat = 0; left = list(range(len(calls)))
  refine ⟨(by show 1 ≤ sizeLine; decide), fun z hz => ?_⟩
  have sz := same_upd (o := .lst [.non]) hz
  refine ⟨.ref a, rfl, a, xs, rfl, .inr (.inl (.inl (sz _ _ ha))), ?_⟩
  refine ⟨z, _, [.non], rfl, rfl, upd_same, by omega, by have := ok.len; rw [← hp.1] at this; omega, ?_, fun pa hpa => ?_⟩
  · rw [Int.toNat_natCast, List.length_singleton, Nat.one_mul]
    have := ok.len
    rw [← hp.1] at this
    exact szL (by omega)
  rw [rep_one, Int.toNat_natCast, hp.1]
  have s1 := sz.trans (same_upd (o := .lst (List.replicate cs.length .non)) hpa)
  refine ⟨.ref a, rfl, a, xs, rfl, .inr (.inl (.inl (s1 _ _ ha))), ?_⟩
  rw [hp.1]
  refine ⟨_, rfl, by have := ok.len; omega, fun la hla => ?_⟩
  rw [rg_nums]
  have nla : pa ≠ la := fun e => by
    rw [← e, upd_same] at hla
    cases hla
  have fpa : H pa = none := sz.free hpa
  have fla : H la = none := s1.free hla
  -- while left != []
  refine ⟨PlW cs m a pa la H, ⟨cs.length, 0, nums cs.length, List.replicate cs.length none, none, none, none, rfl, nums_length _, s1.trans (same_upd hla), ?_, upd_same, Plan.start cs hm0, Wait.start hall ok.le2 hm0⟩, fun n σ H1 hW => ?_⟩
  · rw [upd_ne nla, upd_same, enc_none]
  obtain ⟨b, left, pl, y5, y6, y7, rfl, hn, s2, hpl, hlf, pln, wt⟩ := hW
  refine ⟨.ref la, rfl, Nat.zero_le _, fun e0 he0 => ?_⟩
  have s3 : Same H1 (upd H1 e0 (.lst [])) := same_upd he0
  refine ⟨.list (left.map PyData.int), .list [], .lst (.inl (.inl (s3 _ _ hlf))) (dp_ints left), .lst (.inl (.inl upd_same)) .nil, shaped_ints left, shaped_ints [], ?_⟩
  rw [ne_nil_ints]
  refine ⟨_, rfl, ?_⟩
  cases left with
  | nil =>
    -- return tuple(plan)
    obtain ⟨ps, epl, h1, h2, h3⟩ := pln.last
    refine ⟨.ref pa, rfl, pa, _, rfl, .inl (.inl (s3 _ _ hpl)), fun p ob hp1 o1 o2 => ?_⟩
    refine q _ p ps (s2.trans (s3.trans (same_upd hp1))) ⟨ob, ?_, o1, o2⟩ h1 h3 h2
    rw [upd_same, epl, enc_some]
  | cons k0 lr =>
  generalize hleft : k0 :: lr = left at *
  have hne : left ≠ [] := by
    rw [← hleft]
    exact List.cons_ne_nil _ _
  have e1 : (!left.isEmpty) = true := by
    rw [← hleft]
    rfl
  rw [e1]
  have hle : left.length ≤ cs.length := by
    have := nd_length (l := left) (l2 := nums cs.length) pln.nd fun k hk => mem_nums.mpr (pln.inr k hk)
    rw [nums_length] at this
    exact this
  have hm1 : 1 ≤ m := hall_one hall hm0 ok.le fun e => hne (by
    rw [e] at hle
    exact List.eq_nil_of_length_eq_zero (Nat.le_zero.mp hle))
  refine ⟨fun σ' H' => ∃ n', n' < n ∧ PlW cs m a pa la H n' σ' H', fun σ' H' z => z, ?_⟩
  generalize hH2 : upd H1 e0 (.lst []) = H2 at s3 ⊢
  have S2 : Same H H2 := s2.trans s3
  have hC2 := hC.same S2
  -- beat = max(beat + 1, min([..]))
  refine ⟨.int b, rfl, b, 1, rfl, rfl, .ref la, rfl, la, rfl, ⟨_, .inl (.inl (s3 _ _ hlf))⟩, fun D hD => ?_⟩
  have hp2 : Pairs H2 xs cs := hp.of (Same.tups S2)
  refine lc_list (K := K) (xs := left.map V.int) (fun i H3 => H3 = upd H2 D (.lst (((left.take i).map (fst cs)).map V.int))) rfl (fun i H3 _ e => ?_) (fun i x H3 hx e => ?_) (fun H3 e => ?_)
  · subst e
    refine .inl (.inl ?_)
    rw [upd_ne (ne_of_none (s3 _ _ hlf) hD)]
    exact s3 _ _ hlf
  · subst e
    rw [List.getElem?_map] at hx
    cases hk : left[i]? with
    | none =>
      rw [hk] at hx
      cases hx
    | some k =>
    rw [hk] at hx
    have ex : V.int k = x := Option.some.inj hx
    subst ex
    have hkm := pln.inr k (List.mem_of_getElem? hk)
    obtain ⟨t, g1, g2⟩ := call_at hp2 hkm.1 hkm.2
    have k1 := same_upd (o := .lst (((left.take i).map (fst cs)).map V.int)) hD
    refine ⟨rfl, ?_⟩
    refine ⟨.ref a, rfl, .int k, rfl, a, xs, k, .ref t, rfl, rfl, .inl (.inl (k1 _ _ (S2 _ _ ha))), g1, t, _, 0, .int (fst cs k), rfl, rfl, .inl (.inl (k1 _ _ g2)), atI_nat (j := 0) rfl, ?_⟩
    refine ⟨_, upd_same, small12 ?_, ?_⟩
    · rw [List.length_map, List.length_map, List.length_take]
      have := ok.len
      omega
    · rw [upd_upd, List.take_add_one, hk, List.map_append, List.map_append]
      rfl
  subst e
  rw [List.length_map, List.take_length]
  have S3 : Same H2 (upd H2 D (.lst ((left.map (fst cs)).map V.int))) := same_upd hD
  refine ⟨D, left.map (fst cs), rfl, .inl (.inl upd_same), by rw [List.length_map]; exact List.length_pos_iff.mpr hne, fun mn mmem mle => ?_⟩
  refine ⟨b + 1, mn, rfl, ?_⟩
  generalize hb' : (if mn > b + 1 then mn else b + 1) = b'
  have hbb : b < b' := by
    rw [← hb']
    split <;> omega
  have hf : ∀ k ∈ left, b' ≤ fst cs k ∨ b' = b + 1 := fun k hk => by
    have := mle (fst cs k) (List.mem_map.mpr ⟨k, hk, rfl⟩)
    rw [← hb']
    split
    · exact .inl this
    · exact .inr rfl
  have hmb : mn ≤ b' := by
    rw [← hb']
    split <;> omega
  generalize upd H2 D (.lst ((left.map (fst cs)).map V.int)) = H3 at S3 ⊢
  have T3 : Same H H3 := S2.trans S3
  have hlf3 := S3 _ _ (s3 _ _ hlf)
  have hpl3 := S3 _ _ (s3 _ _ hpl)
  have hp3 : Pairs H3 xs cs := hp.of (Same.tups T3)
  -- ready = sorted([..])
  refine ⟨.ref la, rfl, la, rfl, ⟨_, .inl (.inl hlf3)⟩, fun D2 hD2 => ?_⟩
  refine lc_list (K := K) (xs := left.map V.int) (fun i H4 => Same H3 H4 ∧ ∃ ys : List V, H4 D2 = some (.lst ys) ∧ Pairs H4 ys (((left.take i).filter (fun k => decide (fst cs k ≤ b'))).map fun k => (lst cs k, k))) ⟨same_upd hD2, [], upd_same, Pairs.nil _⟩ (fun i H4 _ e => .inl (.inl (e.1 _ _ hlf3))) (fun i x H4 hx e => ?_) (fun H4 e => ?_)
  · obtain ⟨s4, ys, hy, py⟩ := e
    rw [List.getElem?_map] at hx
    cases hk : left[i]? with
    | none =>
      rw [hk] at hx
      cases hx
    | some k =>
    rw [hk] at hx
    have ex : V.int k = x := Option.some.inj hx
    subst ex
    have hkm := pln.inr k (List.mem_of_getElem? hk)
    obtain ⟨t, g1, g2⟩ := call_at hp3 hkm.1 hkm.2
    refine ⟨rfl, ?_⟩
    refine ⟨.ref a, rfl, .int k, rfl, a, xs, k, .ref t, rfl, rfl, .inl (.inl (s4 _ _ (T3 _ _ ha))), g1, t, _, 0, .int (fst cs k), rfl, rfl, .inl (.inl (s4 _ _ g2)), atI_nat (j := 0) rfl, .int b', rfl, _, b', rfl, rfl, _, rfl, ite2 (fun h1 => ?_) (fun h1 => ?_)⟩
    · have h1' : fst cs k ≤ b' := of_decide_eq_true h1
      refine ⟨.ref a, rfl, .int k, rfl, a, xs, k, .ref t, rfl, rfl, .inl (.inl (s4 _ _ (T3 _ _ ha))), g1, t, _, 1, .int (lst cs k), rfl, rfl, .inl (.inl (s4 _ _ g2)), atI_nat (j := 1) rfl, .int k, rfl, (by show 2 ≤ sizeLine; decide), fun t2 ht2 => ?_⟩
      have k2 := same_upd (o := .tup [.int (lst cs k), .int k]) ht2
      refine ⟨ys, k2 _ _ hy, small12 ?_, Same.mut (s4.trans k2) hD2, _, upd_same, ?_⟩
      · rw [py.1, List.length_map]
        refine Nat.le_trans (List.length_filter_le _ _) ?_
        rw [List.length_take]
        have := ok.len
        omega
      · have nt : t2 ≠ D2 := fun e => by
          rw [e, hy] at ht2
          cases ht2
        have up : Tups H4 (upd (upd H4 t2 (.tup [.int (lst cs k), .int k])) D2 (.lst (ys ++ [.ref t2]))) := fun c zs hc => by
          rw [upd_ne (fun e => by rw [e, hy] at hc; cases hc)]
          exact k2 _ _ hc
        rw [List.take_add_one, hk, List.filter_append, List.map_append]
        show Pairs _ _ (_ ++ (List.filter (fun k => decide (fst cs k ≤ b')) [k]).map fun k => (lst cs k, k))
        rw [List.filter_cons_of_pos (p := fun k => decide (fst cs k ≤ b')) (a := k) (l := []) (decide_eq_true h1')]
        refine (py.of up).snoc (c := (lst cs k, k)) ?_
        rw [upd_ne nt, upd_same]
    · have h1' : ¬ fst cs k ≤ b' := of_decide_eq_false (Bool.eq_false_iff.mpr h1)
      refine ⟨s4, ys, hy, ?_⟩
      rw [List.take_add_one, hk, List.filter_append, List.map_append]
      show Pairs _ _ (_ ++ (List.filter (fun k => decide (fst cs k ≤ b')) [k]).map fun k => (lst cs k, k))
      rw [List.filter_cons_of_neg (p := fun k => decide (fst cs k ≤ b')) (a := k) (l := []) (fun z => h1' (of_decide_eq_true z))]
      show Pairs H4 ys (_ ++ [])
      rw [List.append_nil]
      exact py
  obtain ⟨s4, ys, hy, py⟩ := e
  rw [List.length_map, List.take_length] at py
  refine ⟨D2, ys, kOf H4, rfl, .inl (.inl hy), py.all, fun zs rp srt stb hrp => ?_⟩
  obtain ⟨ds, pz, dperm, dsort⟩ := py.sorted stb.perm srt
  have s5 : Same H4 (upd H4 rp (.lst zs)) := same_upd hrp
  generalize hH5 : upd H4 rp (.lst zs) = H5 at s5 ⊢
  have hrp5 : H5 rp = some (.lst zs) := by
    rw [← hH5]
    exact upd_same
  -- for last, k in ready[:many]
  refine ⟨.ref rp, rfl, .int m, rfl, m, rfl, rp, zs, rfl, .inl (.inl hrp5), fun cp hcp => ?_⟩
  rw [cut_to hm0]
  have s6 : Same H5 (upd H5 cp (.lst (zs.take m.toNat))) := same_upd hcp
  generalize hH6 : upd H5 cp (.lst (zs.take m.toNat)) = H6 at s6 ⊢
  have hcp6 : H6 cp = some (.lst (zs.take m.toNat)) := by
    rw [← hH6]
    exact upd_same
  have T6 : Same H3 H6 := s4.trans (s5.trans s6)
  have pz6 : Pairs H6 (zs.take m.toNat) (ds.take m.toNat) := (pz.of (Same.tups (s5.trans s6))).take _
  have hlf6 := T6 _ _ hlf3
  have hpl6 := T6 _ _ hpl3
  have ncl : cp ≠ la := fun e => by
    have := s5 _ _ (s4 _ _ hlf3)
    rw [e, this] at hcp
    cases hcp
  have ncp : cp ≠ pa := fun e => by
    have := s5 _ _ (s4 _ _ hpl3)
    rw [e, this] at hcp
    cases hcp
  -- the numbers in order
  have hds : ∀ d ∈ ds, d.1 = lst cs d.2 ∧ d.2 ∈ left ∧ fst cs d.2 ≤ b' := fun d hd => by
    obtain ⟨k, hk, e⟩ := List.mem_map.mp (dperm.mem_iff.mp hd)
    obtain ⟨k1, k2⟩ := List.mem_filter.mp hk
    rw [← e]
    exact ⟨rfl, k1, of_decide_eq_true k2⟩
  have dk : (ds.map (·.2)).Perm (left.filter fun k => decide (fst cs k ≤ b')) := by
    have := dperm.map (fun c : Call => c.2)
    rw [List.map_map] at this
    have e : ((fun c : Call => c.2) ∘ fun k => (lst cs k, k)) = id := rfl
    rw [e, List.map_id] at this
    exact this
  have nd2 : (ds.map (·.2)).Nodup := dk.symm.nodup (pln.nd.sublist List.filter_sublist)
  have ksnd : ((ds.map (·.2)).take m.toNat).Nodup := nd2.sublist (List.take_sublist _ _)
  have kssub : ∀ k ∈ (ds.map (·.2)).take m.toNat, k ∈ left ∧ fst cs k ≤ b' := fun k hk => by
    obtain ⟨k1, k2⟩ := List.mem_filter.mp (dk.mem_iff.mp (List.mem_of_mem_take hk))
    exact ⟨k1, of_decide_eq_true k2⟩
  have T06 : Same H H6 := T3.trans T6
  refine ⟨cp, rfl, ⟨_, .inl (.inl hcp6)⟩, for_list (K := K) (xs := zs.take m.toNat) (fun j σ' H7 => ∃ (lf : List Int) (pn : List (Option Int)) (y5 y7 : Option V), σ' = [some (.ref a), some (.int m), some (.ref pa), some (.int b'), some (.ref la), y5, some (.ref rp), y7] ∧
      But2 pa la H6 H7 ∧ Same H H7 ∧ H7 pa = some (.lst (enc pn)) ∧ H7 la = some (.lst (lf.map V.int)) ∧ Fill cs m b' ((ds.map (·.2)).take m.toNat) j left lf pn)
    ⟨left, pl, y5, y7, rfl, But2.refl _ _ _, T06, hpl6, hlf6, ⟨pln.begin hbb, by rw [List.take_zero]; exact List.Perm.refl _⟩⟩ (fun j σ' H7 _ hP => ?_) (fun j x σ' H7 hx hP => ?_) (fun σ' H7 hP => ?_)⟩
  · obtain ⟨lf, pn, y5, y7, _, b7, _⟩ := hP
    exact .inl (.inl (b7 _ _ ncp ncl hcp6))
  · obtain ⟨lf, pn, y5, y7, rfl, b7, t7, hpn, hlfn, fil⟩ := hP
    obtain ⟨t, d, rfl, hd, ht⟩ := pz6.at hx
    have tt : Tups H6 H7 := fun c us hc => b7 c _ (fun e => by rw [e, hpl6] at hc; cases hc) (fun e => by rw [e, hlf6] at hc; cases hc) hc
    have hdm : d ∈ ds := List.mem_of_mem_take (List.mem_of_getElem? hd)
    obtain ⟨d1, d2, d3⟩ := hds d hdm
    have hkj : ((ds.map (·.2)).take m.toNat)[j]? = some d.2 := by
      rw [← List.map_take, List.getElem?_map, hd]
      rfl
    have lasts := wt.ok hbb hf hle d2
    obtain ⟨hin, fil2⟩ := fil.more ksnd (fun k hk => (kssub k hk).1) hkj d3 lasts.1 lasts.2
    have rng := pln.inr d.2 d2
    refine ⟨t, _, rfl, .inl (.inl (tt _ _ ht)), rfl, .int d.1, [.int d.2], rfl, .int d.2, [], rfl, rfl, ?_⟩
    refine ⟨.int b', rfl, .ref pa, rfl, .int d.2, rfl, pa, enc pn, d.2, d.2.toNat, rfl, rfl, hpn, ix_in rng.1 (by rw [enc_length, fil.st.len]; exact rng.2), ?_⟩
    have hla7 : (upd H7 pa (.lst ((enc pn).set d.2.toNat (.int b')))) la = some (.lst (lf.map V.int)) := by
      rw [upd_ne nla.symm]
      exact hlfn
    obtain ⟨jj, j1, j2, j3⟩ := first_at hin
    refine ⟨.ref la, rfl, .inl ⟨rfl, _, .inl (.inl hla7)⟩, .int d.2, rfl, la, lf, d.2, jj, rfl, rfl, hla7, j1, j2, ?_⟩
    rw [j3, enc_set]
    refine ⟨lf.erase d.2, pn.set d.2.toNat (some b'), _, _, rfl, fun c o n1 n2 hc => ?_, Same.mut (Same.mut t7 fpa) fla, ?_, upd_same, fil2⟩
    · rw [upd_ne n2, upd_ne n1]
      exact b7 c o n1 n2 hc
    · rw [upd_ne nla, upd_same]
  · obtain ⟨lf, pn, y5, y7, rfl, b7, t7, hpn, hlfn, fil⟩ := hP
    have elen : (zs.take m.toNat).length = ((ds.map (·.2)).take m.toNat).length := by
      rw [pz6.1, ← List.map_take, List.length_map]
    rw [elen] at fil
    have fpm := fil.pm
    rw [List.take_length] at fpm
    generalize hks : (ds.map (·.2)).take m.toNat = ks at fil fpm kssub ksnd
    have hkl : (ks.length : Int) ≤ m := by
      rw [← hks, List.length_take]
      omega
    have drn : ds.map (·.2) ≠ [] := fun e => by
      obtain ⟨k, hk, ek⟩ := List.mem_map.mp mmem
      have : k ∈ ds.map (·.2) := dk.mem_iff.mpr (List.mem_filter.mpr ⟨hk, decide_eq_true (by omega)⟩)
      rw [e] at this
      cases this
    have hkn : ks ≠ [] := fun e => by
      have z : ((ds.map (·.2)).take m.toNat).length = 0 := by rw [hks, e]; rfl
      rw [List.length_take] at z
      have := List.length_pos_iff.mpr drn
      omega
    have esplit : ks ++ (ds.map (·.2)).drop m.toNat = ds.map (·.2) := by
      rw [← hks]
      exact List.take_append_drop _ _
    have pfull : left.Perm (ks ++ ((ds.map (·.2)).drop m.toNat ++ left.filter fun k => !decide (fst cs k ≤ b'))) := by
      rw [← List.append_assoc, esplit]
      exact (perm_parts fun k => decide (fst cs k ≤ b')).trans (dk.symm.append_right _)
    have wt2 := wt.turn (left' := lf) hbb hm0 hf pfull ((List.perm_append_left_iff ks).mp (fpm.symm.trans pfull))
      (fun k hk => by
        rw [esplit] at hk
        exact of_decide_eq_true (List.mem_filter.mp (dk.mem_iff.mp hk)).2)
      (fun k hk => by
        have := (List.mem_filter.mp hk).2
        rw [Bool.not_eq_true', decide_eq_false_iff_not] at this
        omega)
      (fun x hx y hy => by
        rw [← hks, ← List.map_take] at hx
        rw [← List.map_drop] at hy
        obtain ⟨dx, hdx, ex⟩ := List.mem_map.mp hx
        obtain ⟨dy, hdy, ey⟩ := List.mem_map.mp hy
        have sp : (ds.take m.toNat ++ ds.drop m.toNat).Pairwise lexle := by
          rw [List.take_append_drop]
          exact dsort
        have le := (List.pairwise_append.mp sp).2.2 dx hdx dy hdy
        have q1 := (hds dx (List.mem_of_mem_take hdx)).1
        have q2 := (hds dy (List.mem_of_mem_drop hdy)).1
        rw [← ex, ← ey, ← q1, ← q2]
        rcases le with le | le
        · omega
        · omega)
      (fun hne2 => by
        have z := List.length_pos_iff.mpr hne2
        rw [List.length_drop] at z
        rw [← hks, List.length_take]
        omega) hkn hle
    refine ⟨lf.length, ?_, b', lf, pn, y5, _, y7, rfl, rfl, t7, hpn, hlfn, fil.st.finish hkl, wt2⟩
    have z := fpm.length_eq
    rw [List.length_append] at z
    have := List.length_pos_iff.mpr hkn
    omega
end
end Dy
/-! DyF6: least_hands, with_hands. -/
namespace Dy
open PySem PySem.Spec PyProof.Rows L2
/-- a plan in the heap, right for m hands -/
structure PlanAt (H : Hp) (p : Addr) (cs : List Call) (m : Int) : Prop where
  ex : ∃ ps : List Int, TupF H p (ps.map V.int) ∧ Fits cs ps ∧ Fits (near cs) ps ∧ ∀ x, (ps.count x : Int) ≤ m
theorem tupF_same {H H' : Hp} {p : Addr} {xs : List V} (h : TupF H p xs) (s : Same H H') : TupF H' p xs := by
  obtain ⟨ob, h1, h2⟩ := h
  exact ⟨ob, s _ _ h1, h2⟩
theorem PlanAt.same {H H' : Hp} {p : Addr} {cs : List Call} {m : Int} (h : PlanAt H p cs m) (s : Same H H') : PlanAt H' p cs m := by
  obtain ⟨ps, h1, h2⟩ := h.ex
  exact ⟨ps, tupF_same h1 s, h2⟩
section
variable {P : Program} {w : World} {K : PySem.W.Frag} {mg : Str → Option Value} {base : Heap} {f : Addr} {fd : FuncData}
def spLeast : Sp := fun vs H Q _ => ∃ (a : Addr) (cs : List Call), vs = [.ref a] ∧ Calls H a cs ∧ OkC 12 BIG cs ∧
  ∀ (H' : Hp) (p pa : Addr) (m : Int) (v : V) (st : Option (Int × Int)), Same H H' → H' p = some (.tup [.int m, .ref pa, v]) → StAt H' v st → Most cs m st → Need cs m → PlanAt H' pa cs m → Q (.ref p) H'
theorem ok_least (F : Fun K "least_hands" "least_hands" sLeast f fd) (cc : C8.Cal P w K mg base 5 "check_calls" spCheck []) (cw : C8.Cal P w K mg base 2 "wanted" spWanted []) (cp : C8.Cal P w K mg base 1 "plan_by" spPlan []) :
    FnOk P w K mg base CX0 6 f fd ["calls"] spLeast := by
  refine F.ok scLeast (fun vs H Q E h => ?_) (fun cdv A outer s H vs Q E hr h => ?_)
  · obtain ⟨a, cs, rfl, _⟩ := h
    rfl
  obtain ⟨a, cs, rfl, hC, ok, q⟩ := h
  refine ⟨_, pss_cons (ps_expr (C8.pe_c cc hr (by decide) (by rfl) (pa_cons (pv 0) pa_nil)))
    (pss_cons (ps_asg (C8.pe_c cw hr (by decide) (by rfl) (pa_cons (pv 0) pa_nil)) (pg_tup (by rfl) (pgs_cons (pg_name (i := 1) scLeast.nd rfl (.inl rfl)) (pgs_cons (pg_name (i := 2) scLeast.nd rfl (.inl rfl)) pgs_nil))))
    (pss_one (ps_ret (pe_tup (pa_cons (pv 1) (pa_cons (C8.pe_c cp hr (by decide) (by rfl) (pa_cons (pv 0) (pa_cons (pv 1) pa_nil))) (pa_cons (pv 2) pa_nil))))))), ?_⟩
  refine ⟨.ref a, rfl, a, cs, rfl, hC, ok, fun H1 s1 => ?_⟩
  refine ⟨.ref a, rfl, a, cs, rfl, hC.same s1, ok, fun H2 p2 m v st s2 hp2 hst hm hn => ?_⟩
  refine ⟨p2, _, rfl, .inl (.inl hp2), rfl, .int m, [v], rfl, v, [], rfl, rfl, ?_⟩
  refine ⟨.int m, rfl, .ref a, rfl, .int m, rfl, a, cs, m, rfl, hC.same (s1.trans s2), ok, hn.2.1, hn.1, fun H3 p3 ps s3 hp3 f1 f2 f3 => ?_⟩
  refine ⟨v, rfl, (by show 3 ≤ sizeLine; decide), fun p hp => ?_⟩
  have s4 := same_upd (o := .tup [.int m, .ref p3, v]) hp
  exact q _ p p3 m v st (s1.trans (s2.trans (s3.trans s4))) upd_same (hst.of (Same.tups (s3.trans s4))) hm hn ⟨ps, tupF_same hp3 s4, f1, f2, f3⟩
def spWithH : Sp := fun vs H Q _ => ∃ (a : Addr) (cs : List Call) (k : Int), vs = [.ref a, .int k] ∧ Calls H a cs ∧ OkC 12 BIG cs ∧ 0 ≤ k ∧
  (∀ (H' : Hp) (p pa : Addr), Same H H' → Hall cs k → H' p = some (.tup [.str "plan", .ref pa]) → PlanAt H' pa cs k → Q (.ref p) H') ∧
  ∀ (H' : Hp) (p : Addr) (b l : Int), Same H H' → ¬ Hall cs k → H' p = some (.tup [.str "short", .int b, .int l]) → Short cs k b l → Q (.ref p) H'
theorem ok_withH (F : Fun K "with_hands" "with_hands" sWithH f fd) (cc : C8.Cal P w K mg base 5 "check_calls" spCheck []) (cm : C8.Cal P w K mg base 2 "check_many" spMany []) (cw : C8.Cal P w K mg base 2 "wanted" spWanted []) (cp : C8.Cal P w K mg base 1 "plan_by" spPlan []) :
    FnOk P w K mg base CX0 6 f fd ["calls", "many"] spWithH := by
  refine F.ok scWithH (fun vs H Q E h => ?_) (fun cdv A outer s H vs Q E hr h => ?_)
  · obtain ⟨a, cs, k, rfl, _⟩ := h
    rfl
  obtain ⟨a, cs, k, rfl, hC, ok, hk, qp, qs⟩ := h
  refine ⟨_, pss_cons (ps_expr (C8.pe_c cc hr (by decide) (by rfl) (pa_cons (pv 0) pa_nil)))
    (pss_cons (ps_expr (C8.pe_c cm hr (by decide) (by rfl) (pa_cons (pv 1) pa_nil)))
    (pss_cons (ps_asg (C8.pe_c cw hr (by decide) (by rfl) (pa_cons (pv 0) pa_nil)) (pg_tup (by rfl) (pgs_cons (pg_name (i := 2) scWithH.nd rfl (.inl rfl)) (pgs_cons (pg_name (i := 3) scWithH.nd rfl (.inl rfl)) pgs_nil))))
    (pss_cons (ps_if (pt_cmpR op_le (pv 2) (pv 1) (nomark _)) (pss_one (ps_ret (pe_tup (pa_cons pe_str (pa_cons (C8.pe_c cp hr (by decide) (by rfl) (pa_cons (pv 0) (pa_cons (pv 1) pa_nil))) pa_nil))))) pss_nil)
    (pss_one (ps_ret (pe_op op_catT (pe_tup (pa_cons pe_str pa_nil)) (pv 3))))))), ?_⟩
  refine ⟨.ref a, rfl, a, cs, rfl, hC, ok, fun H1 s1 => ?_⟩
  refine ⟨.int k, rfl, k, rfl, hk, ?_⟩
  refine ⟨.ref a, rfl, a, cs, rfl, hC.same s1, ok, fun H2 p2 m v st s2 hp2 hst hm hn => ?_⟩
  refine ⟨p2, _, rfl, .inl (.inl hp2), rfl, .int m, [v], rfl, v, [], rfl, rfl, ?_⟩
  have S2 := s1.trans s2
  refine ⟨.int m, rfl, .int k, rfl, m, k, rfl, rfl, _, rfl, ite2 (fun h1 => ?_) (fun h1 => ?_)⟩
  · have hmk : m ≤ k := of_decide_eq_true h1
    have hal : Hall cs k := hn.2.1.mono hmk
    refine ⟨.ref a, rfl, .int k, rfl, a, cs, k, rfl, hC.same S2, ok, hal, hk, fun H3 p3 ps s3 hp3 f1 f2 f3 => ?_⟩
    refine ⟨(by show 2 ≤ sizeLine; decide), fun p hp => ?_⟩
    have s4 := same_upd (o := .tup [.str "plan", .ref p3]) hp
    exact qp _ p p3 (S2.trans (s3.trans s4)) hal upd_same ⟨ps, tupF_same hp3 s4, f1, f2, f3⟩
  · have hmk : ¬ m ≤ k := of_decide_eq_false (Bool.eq_false_iff.mpr h1)
    rcases hst with ⟨e, _⟩ | ⟨t, b, l, e1, rfl, ht⟩
    · have := hm.zero e
      omega
    · obtain ⟨m1, sh⟩ := hm.here b l e1
      have sh2 : Short cs k b l := sh.mono (by omega)
      refine ⟨(by show 1 ≤ sizeLine; decide), fun p hp => ?_⟩
      have s4 := same_upd (o := .tup [.str "short"]) hp
      refine ⟨.ref t, rfl, p, t, [.str "short"], _, rfl, rfl, .inl (.inl upd_same), .inl (.inl (s4 _ _ ht)), (fun z => nomatch z), (by show 3 ≤ sizeLine; decide), (fun z => nomatch z), fun _ p5 hp5 => ?_⟩
      exact qs _ p5 b l (S2.trans (s4.trans (same_upd hp5))) sh2.not_hall upd_same sh2
end
end Dy
/-! DyF7: the law's pool, its draws, its beats. -/
namespace Dy
open PySem PySem.Spec PyProof.Rows L2
/-- a pool of digits -/
def PoolAt (H : Hp) (a : Addr) : Prop := ∃ x : Int, H a = some (.lst [.int x]) ∧ 0 ≤ x ∧ x.natAbs < 2 ^ 2000
theorem PoolAt.same {H H' : Hp} {a : Addr} (h : PoolAt H a) (s : Same H H') : PoolAt H' a := by
  obtain ⟨x, h1, h2⟩ := h
  exact ⟨x, s _ _ h1, h2⟩
theorem But.tupsP {a : Addr} {H H' : Hp} (x : But a H H') (h : PoolAt H a) : Tups H H' := by
  obtain ⟨z, h1, _⟩ := h
  exact x.tups h1
theorem cut_map (ns : List Int) (lo hi : Option Int) : ∃ ms : List Int, cutV (ns.map V.int) lo hi = ms.map V.int := by
  unfold cutV
  exact ⟨_, by rw [← List.map_drop, ← List.map_take]⟩
section
variable {P : Program} {w : World} {K : PySem.W.Frag} {mg : Str → Option Value} {base : Heap} {f : Addr} {fd : FuncData}
def spTake : Sp := fun vs H Q _ => ∃ (a : Addr) (n : Int), vs = [.ref a, .int n] ∧ PoolAt H a ∧ 0 < n ∧ ∀ (H' : Hp) (d : Int), But a H H' → PoolAt H' a → 0 ≤ d → d < n → Q (.int d) H'
theorem ok_take (F : Fun K "_law_take" "_law_take" sTake f fd) (md : mg "divmod" = none) : FnOk P w K mg base CX0 1 f fd ["_law_pool_here", "_law_many"] spTake := by
  refine F.ok scTake (fun vs H Q E h => ?_) (fun cdv A outer s H vs Q E hr h => ?_)
  · obtain ⟨a, n, rfl, _⟩ := h
    rfl
  obtain ⟨a, n, rfl, ⟨x, hx, x0, xb⟩, hn, q⟩ := h
  refine ⟨_, pss_cons (ps_asg (pe_callB call_divmodW (by rfl) md (by decide +kernel) (pa_cons (pe_ix ix_list (pv 0) pe_int (fun _ _ => rfl)) (pa_cons (pv 1) pa_nil)))
      (pg_tup (by rfl) (pgs_cons (pg_sub (pv 0) pe_int set_list) (pgs_cons (pg_name (i := 2) scTake.nd rfl (.inl rfl)) pgs_nil))))
    (pss_one (ps_ret (pv 2))), ?_⟩
  have bits : Builtin.Int.intBits x ≤ Builtin.Int.intBits n + 4000 := by
    have := PyProof.Rows.intBits_le xb
    omega
  refine ⟨.ref a, rfl, a, _, 0, .int x, rfl, rfl, .inl (.inl hx), atI_nat (j := 0) rfl, .int n, rfl, x, n, rfl, divp_ok hn bits, fun p hp => ?_⟩
  have npa : a ≠ p := ne_of_none hx hp
  have hx2 : (upd H p (.tup [.int (x / n), .int (x % n)])) a = some (.lst [.int x]) := by
    rw [upd_ne npa]
    exact hx
  refine ⟨p, _, rfl, .inl (.inl upd_same), rfl, .int (x / n), [.int (x % n)], rfl, ?_⟩
  refine ⟨.ref a, rfl, a, [.int x], 0, 0, rfl, rfl, hx2, rfl, ?_⟩
  refine ⟨.int (x % n), [], rfl, rfl, .int (x % n), rfl, ?_⟩
  refine q _ (x % n) (fun b o hb e => ?_) ⟨x / n, ?_, Int.ediv_nonneg x0 (Int.le_of_lt hn), ?_⟩ (Int.emod_nonneg x (by omega)) (Int.emod_lt_of_pos x hn)
  · rw [upd_ne hb, upd_ne (ne_of_none e hp)]
    exact e
  · rw [upd_same]
    rfl
  · have h1 := Int.ediv_le_self n x0
    have h2 := Int.ediv_nonneg x0 (Int.le_of_lt hn)
    refine Nat.lt_of_le_of_lt ?_ xb
    omega

def spPool (K : PySem.W.Frag) : Sp := fun vs H Q _ => ∃ (s : Addr) (ns : List Int) (k : Int), vs = [.ref s, .int k] ∧ SqL K H s (ns.map V.int) ∧ 0 ≤ k ∧ k ≤ 1000 ∧ ∀ (H' : Hp) (p : Addr), Same H H' → H p = none → PoolAt H' p → Q (.ref p) H'
theorem grow_step {i : Nat} {x r : Int} (h0 : 0 ≤ x) (h1 : x < 10 ^ (11 * i)) (r0 : 0 ≤ r) (r1 : r < 99999999977) : 0 ≤ x * 10 ^ 11 + r ∧ x * 10 ^ 11 + r < 10 ^ (11 * (i + 1)) := by
  have e : (10 : Int) ^ (11 * (i + 1)) = 10 ^ (11 * i) * 10 ^ 11 := by rw [Nat.mul_add, Nat.mul_one, Int.pow_add]
  rw [e]
  have e2 : (10 : Int) ^ 11 = 100000000000 := by decide
  rw [e2]
  generalize (10 : Int) ^ (11 * i) = t at h1
  omega
theorem ok_pool (F : Fun K "_law_pool" "_law_pool" sPool f fd) (ms : mg "sum" = none) (ma : mg "abs" = none) (mr : mg "range" = none) : FnOk P w K mg base CX0 1 f fd ["_law_script", "_law_k"] (spPool K) := by
  refine F.ok scPool (fun vs H Q E h => ?_) (fun cdv A outer s H vs Q E hr h => ?_)
  · obtain ⟨a, ns, k, rfl, _⟩ := h
    rfl
  obtain ⟨a, ns, k, rfl, hS, k0, k1, q⟩ := h
  refine ⟨_, pss_cons (ps_set (i := 2) scPool.nd rfl (.inl rfl) (pe_callB (cr_sum rfl) (by rfl) ms (by decide +kernel) (pa_cons (pe_slice sl_list (pv 0) (po_some (pv 1)) (po_some (pe_op op_add (pv 1) pe_int))) pa_nil)))
    (pss_cons (ps_if (PW.pt (pw_or (pt_cmpR op_lt (pv 2) pe_int (nomark _)) (pw_or1 (pt_cmpR op_ge (pv 2) (pe_op op_pow pe_int pe_int) (nomark _)))))
      (pss_one (ps_ret (pe_lst (pa_cons (pe_op op_mod (pe_callB call_abs (by rfl) ma (by decide +kernel) (pa_cons (pv 2) pa_nil))
        (pe_op op_mulW (pe_op op_mulW (pe_op op_mulW (pe_op op_mulW (pe_op op_mulW (pe_op op_pow pe_int pe_int) (pe_op op_pow pe_int pe_int)) (pe_op op_pow pe_int pe_int)) (pe_op op_pow pe_int pe_int)) (pe_op op_pow pe_int pe_int)) (pe_op op_pow pe_int pe_int))) pa_nil)))) pss_nil)
    (pss_cons (ps_set (i := 3) scPool.nd rfl (.inl rfl) (pe_op op_add (pe_op op_add (pe_op op_mul (pv 2) pe_int) (pe_op op_mul (pe_op op_mul pe_int (pv 1)) (pv 1))) pe_int))
    (pss_cons (ps_set (i := 4) scPool.nd rfl (.inl rfl) pe_int)
    (pss_cons (ps_for PassesOwn.never rfl (pi_range1 (by rfl) mr (pa_cons pe_int pa_nil)) (pg_name (i := 5) scPool.nd rfl (.inl rfl))
      (pss_cons (ps_set (i := 3) scPool.nd rfl (.inl rfl) (pe_op op_mod (pe_op op_add (pe_op op_add (pe_op op_mul (pe_op op_mod (pv 3) pe_int) pe_int) (pe_op op_mul pe_int (pv 5))) pe_int) pe_int))
      (pss_one (ps_set (i := 4) scPool.nd rfl (.inl rfl) (pe_op op_add (pe_op op_mul (pv 4) (pe_op op_pow pe_int pe_int)) (pe_op op_mod (pe_op op_mul (pv 3) (pe_op op_add (pe_op op_mod (pv 3) pe_int) pe_int)) pe_int))))))
    (pss_one (ps_ret (pe_lst (pa_cons (pv 4) pa_nil)))))))), ?_⟩
  -- the cell
  refine ⟨.ref a, rfl, .int k, rfl, k, rfl, .int k, rfl, k, 1, rfl, rfl, k + 1, rfl, a, ns.map V.int, rfl, hS, fun c hc => ?_⟩
  obtain ⟨ms, ems⟩ := cut_map ns (some k) (some (k + 1))
  rw [ems]
  refine ⟨c, ms, rfl, .inl (.inl upd_same), ?_⟩
  have s1 := same_upd (o := .lst (ms.map V.int)) hc
  generalize ms.sum = cell
  generalize upd H c (.lst (ms.map V.int)) = H1 at s1 ⊢
  have pw : ∀ (i j : Int), 0 ≤ j → j ≤ 1000000 → i.natAbs < 2 ^ 64 → CPow i j := fun i j h1 h2 h3 => ⟨h1, h2, h3⟩
  -- a great cell's own digits
  have great : ∀ H2 : Hp, Same H H2 → tLst (tCons (tOp (rI (fun _ j => 0 < j) fun i j => .int (i % j)) (tCB (fun xs H Q => ∃ i, xs = [.int i] ∧ Q (.int (if i < 0 then -i else i)) H) (tCons (tVar 2) tNil))
      (tOp (rI CMulW fun i j => .int (i * j)) (tOp (rI CMulW fun i j => .int (i * j)) (tOp (rI CMulW fun i j => .int (i * j)) (tOp (rI CMulW fun i j => .int (i * j)) (tOp (rI CMulW fun i j => .int (i * j))
        (tOp (rI CPow fun i j => .int (i ^ j.toNat)) (tC (.int 10)) (tC (.int 64))) (tOp (rI CPow fun i j => .int (i ^ j.toNat)) (tC (.int 10)) (tC (.int 64)))) (tOp (rI CPow fun i j => .int (i ^ j.toNat)) (tC (.int 10)) (tC (.int 64))))
        (tOp (rI CPow fun i j => .int (i ^ j.toNat)) (tC (.int 10)) (tC (.int 64)))) (tOp (rI CPow fun i j => .int (i ^ j.toNat)) (tC (.int 10)) (tC (.int 64)))) (tOp (rI CPow fun i j => .int (i ^ j.toNat)) (tC (.int 10)) (tC (.int 64))))) tNil)
      [some (.ref a), some (.int k), some (.int cell), none, none, none] H2 Q := fun H2 s2 => by
    have p64 := pw 10 64 (by decide) (by decide) (by decide)
    refine ⟨.int cell, rfl, cell, rfl, 10, 64, rfl, rfl, p64, 10, 64, rfl, rfl, p64, _, _, rfl, rfl, by unfold CMulW; decide +kernel, 10, 64, rfl, rfl, p64, _, _, rfl, rfl, by unfold CMulW; decide +kernel, 10, 64, rfl, rfl, p64, _, _, rfl, rfl, by unfold CMulW; decide +kernel,
      10, 64, rfl, rfl, p64, _, _, rfl, rfl, by unfold CMulW; decide +kernel, 10, 64, rfl, rfl, p64, _, _, rfl, rfl, by unfold CMulW; decide +kernel, ?_⟩
    refine ⟨_, _, rfl, rfl, (show (0 : Int) < 10 ^ (64 : Int).toNat * 10 ^ (64 : Int).toNat * 10 ^ (64 : Int).toNat * 10 ^ (64 : Int).toNat * 10 ^ (64 : Int).toNat * 10 ^ (64 : Int).toNat by decide +kernel), (by show 1 ≤ sizeLine; decide), fun p hp => ?_⟩
    have pos : (0 : Int) < 10 ^ (64 : Int).toNat * 10 ^ (64 : Int).toNat * 10 ^ (64 : Int).toNat * 10 ^ (64 : Int).toNat * 10 ^ (64 : Int).toNat * 10 ^ (64 : Int).toNat := by decide +kernel
    have top : ((10 : Int) ^ (64 : Int).toNat * 10 ^ (64 : Int).toNat * 10 ^ (64 : Int).toNat * 10 ^ (64 : Int).toNat * 10 ^ (64 : Int).toNat * 10 ^ (64 : Int).toNat).natAbs < 2 ^ 2000 := by decide +kernel
    have nn := Int.emod_nonneg (if cell < 0 then -cell else cell) (Int.ne_of_gt pos)
    have lt := Int.emod_lt_of_pos (if cell < 0 then -cell else cell) pos
    refine q _ p (s2.trans (same_upd hp)) (s2.free hp) ⟨_, upd_same, nn, ?_⟩
    refine Nat.lt_of_le_of_lt ?_ top
    generalize (if cell < 0 then -cell else cell) % (10 ^ (64 : Int).toNat * 10 ^ (64 : Int).toNat * 10 ^ (64 : Int).toNat * 10 ^ (64 : Int).toNat * 10 ^ (64 : Int).toNat * 10 ^ (64 : Int).toNat) = r at nn lt ⊢
    generalize (10 : Int) ^ (64 : Int).toNat * 10 ^ (64 : Int).toNat * 10 ^ (64 : Int).toNat * 10 ^ (64 : Int).toNat * 10 ^ (64 : Int).toNat * 10 ^ (64 : Int).toNat = t at lt pos ⊢
    omega
  have p18 := pw 10 18 (by decide) (by decide) (by decide)
  refine ⟨.int cell, rfl, cell, 0, rfl, rfl, _, rfl, ite2 (fun h1 => ?_) (fun h1 => ?_)⟩
  · exact iteT (great H1 s1)
  have c0 : ¬ cell < 0 := of_decide_eq_false (Bool.eq_false_iff.mpr h1)
  refine ⟨.int cell, rfl, 10, 18, rfl, rfl, p18, cell, _, rfl, rfl, _, rfl, ite2 (fun h2 => ?_) (fun h2 => ?_)⟩
  · exact great H1 s1
  have c1 : ¬ (10 : Int) ^ 18 ≤ cell := of_decide_eq_false (Bool.eq_false_iff.mpr h2)
  -- mixed digits
  refine ⟨.int cell, rfl, cell, 48271, rfl, rfl, .inr (by decide), .int k, rfl, 977, k, rfl, rfl, .inl (by decide), .int k, rfl, _, k, rfl, rfl, .inr (by omega), _, _, rfl, rfl, _, 13, rfl, rfl, ?_⟩
  refine ⟨27, rfl, by decide, by decide, for_range (lo := 0) (n := 27) (fun i σ H2 => H2 = H1 ∧ ∃ (more found : Int) (y : Option V), σ = [some (.ref a), some (.int k), some (.int cell), some (.int more), some (.int found), y] ∧ 0 ≤ found ∧ found < 10 ^ (11 * i))
    ⟨rfl, _, 0, none, rfl, Int.le_refl 0, by decide⟩ (fun i σ H2 hi hP => ?_) (fun σ H2 hP => ?_)⟩
  · obtain ⟨rfl, more, found, y, rfl, f0, f1⟩ := hP
    refine ⟨.int more, rfl, more, 999999999989, rfl, rfl, (show (0 : Int) < 999999999989 by decide), _, 69621, rfl, rfl, .inr (by decide), .int (0 + (i : Int)), rfl, 40503, _, rfl, rfl, .inl (by decide), _, _, rfl, rfl, _, 271, rfl, rfl, _, 999999999989, rfl, rfl, (show (0 : Int) < 999999999989 by decide), ?_⟩
    dsimp only
    generalize (more % 999999999989 * 69621 + 40503 * (0 + (i : Int)) + 271) % 999999999989 = mo
    have m1 := Int.emod_nonneg mo (show (65537 : Int) ≠ 0 by decide)
    have m2 := Int.emod_lt_of_pos mo (show (0 : Int) < 65537 by decide)
    refine ⟨.int found, rfl, 10, 11, rfl, rfl, pw 10 11 (by decide) (by decide) (by decide), found, _, rfl, rfl, .inr (by decide), .int mo, rfl, .int mo, rfl, mo, 65537, rfl, rfl, (show (0 : Int) < 65537 by decide), _, 3, rfl, rfl, mo, _, rfl, rfl, .inr (by omega), _, 99999999977, rfl, rfl, (show (0 : Int) < 99999999977 by decide), _, _, rfl, rfl, ?_⟩
    have g := grow_step f0 f1 (Int.emod_nonneg (mo * (mo % 65537 + 3)) (show (99999999977 : Int) ≠ 0 by decide)) (Int.emod_lt_of_pos (mo * (mo % 65537 + 3)) (show (0 : Int) < 99999999977 by decide))
    exact ⟨rfl, mo, _, _, rfl, g.1, g.2⟩
  · obtain ⟨rfl, more, found, y, rfl, f0, f1⟩ := hP
    refine ⟨.int found, rfl, (by show 1 ≤ sizeLine; decide), fun p hp => ?_⟩
    refine q _ p (s1.trans (same_upd hp)) (s1.free hp) ⟨found, upd_same, f0, ?_⟩
    have top : ((10 : Int) ^ (11 * 27)).natAbs < 2 ^ 2000 := by decide +kernel
    refine Nat.lt_of_le_of_lt ?_ top
    generalize (10 : Int) ^ (11 * 27) = t at f1 ⊢
    omega
end
end Dy
/-! DyF8: the law's draws, its beats. -/
namespace Dy
open PySem PySem.Spec PyProof.Rows L2
def B0 : Int := 10 ^ 30 - 201
theorem big_val : BIG = 1000000000000000000000000000000 := by decide +kernel
theorem b0_val : B0 = 1000000000000000000000000000000 - 201 := by decide +kernel
section
variable {P : Program} {w : World} {K : PySem.W.Frag} {mg : Str → Option Value} {base : Heap} {f : Addr} {fd : FuncData}
def spDrawn : Sp := fun vs H Q _ => ∃ a : Addr, vs = [.ref a] ∧ PoolAt H a ∧ ∀ (H' : Hp) (p : Addr) (cs : List Call), But a H H' → PoolAt H' a → Calls H' p cs → OkC 11 B0 cs → Q (.ref p) H'
theorem three {d : Int} (h0 : 0 ≤ d) (h3 : d < 3) : d = 0 ∨ d = 1 ∨ d = 2 := by omega
theorem four {d : Int} (h0 : 0 ≤ d) (h4 : d < 4) : d = 0 ∨ d = 1 ∨ d = 2 ∨ d = 3 := by omega
theorem at3 {x y z : Int} {d : Int} (h0 : 0 ≤ d) (h3 : d < 3) : ∃ v : Int, atI ([.int x, .int y, .int z] : List V) d = some (.int v) ∧ (v = x ∨ v = y ∨ v = z) := by
  rcases three h0 h3 with e | e | e
  · subst e; exact ⟨x, rfl, .inl rfl⟩
  · subst e; exact ⟨y, rfl, .inr (.inl rfl)⟩
  · subst e; exact ⟨z, rfl, .inr (.inr rfl)⟩
theorem at4 {x y z u : Int} {d : Int} (h0 : 0 ≤ d) (h4 : d < 4) : ∃ v : Int, atI ([.int x, .int y, .int z, .int u] : List V) d = some (.int v) ∧ (v = x ∨ v = y ∨ v = z ∨ v = u) := by
  rcases four h0 h4 with e | e | e | e
  · subst e; exact ⟨x, rfl, .inl rfl⟩
  · subst e; exact ⟨y, rfl, .inr (.inl rfl)⟩
  · subst e; exact ⟨z, rfl, .inr (.inr (.inl rfl))⟩
  · subst e; exact ⟨u, rfl, .inr (.inr (.inr rfl))⟩
theorem ok_drawn (F : Fun K "_law_drawn" "_law_drawn" sDrawn f fd) (ct : C8.Cal P w K mg base 1 "_law_take" spTake []) (mr : mg "range" = none) (mt : mg "tuple" = none) (ms : mg "sorted" = none) : FnOk P w K mg base CX0 2 f fd ["_law_pool_here"] spDrawn := by
  refine F.ok scDrawn (fun vs H Q E h => ?_) (fun cdv A outer s H vs Q E hr h => ?_)
  · obtain ⟨a, rfl, _⟩ := h
    rfl
  obtain ⟨a, rfl, hP, q⟩ := h
  refine ⟨_, pss_cons (ps_set (i := 1) scDrawn.nd rfl (.inl rfl) (pe_ix ix_list (pe_lst (pa_cons pe_int (pa_cons pe_int (pa_cons (pe_op op_sub (pe_op op_pow pe_int pe_int) pe_int) pa_nil)))) (C8.pe_c ct hr (by decide) (by rfl) (pa_cons (pv 0) (pa_cons pe_int pa_nil))) (fun _ _ => rfl)))
    (pss_cons (ps_par (i := 2) (j := 3) rfl scDrawn.nd rfl rfl (by decide) rfl rfl (pa_cons (pe_ix ix_list (pe_lst (pa_cons pe_int (pa_cons pe_int (pa_cons pe_int pa_nil)))) (C8.pe_c ct hr (by decide) (by rfl) (pa_cons (pv 0) (pa_cons pe_int pa_nil))) (fun _ _ => rfl))
        (pa_cons (pe_ix ix_list (pe_lst (pa_cons pe_int (pa_cons pe_int (pa_cons pe_int (pa_cons pe_int pa_nil))))) (C8.pe_c ct hr (by decide) (by rfl) (pa_cons (pv 0) (pa_cons pe_int pa_nil))) (fun _ _ => rfl)) pa_nil)) (by rfl))
    (pss_cons (ps_set (i := 4) scDrawn.nd rfl (.inl rfl) (pe_lst pa_nil))
    (pss_cons (ps_for PassesOwn.never rfl (pi_range1 (by rfl) mr (pa_cons (C8.pe_c ct hr (by decide) (by rfl) (pa_cons (pv 0) (pa_cons pe_int pa_nil))) pa_nil)) (pg_name (i := 5) scDrawn.nd rfl (.inl rfl))
      (pss_cons (ps_set (i := 6) scDrawn.nd rfl (.inl rfl) (pe_op op_add (pe_op op_add (pv 1) pe_int) (C8.pe_c ct hr (by decide) (by rfl) (pa_cons (pv 0) (pa_cons (pv 2) pa_nil)))))
      (pss_one (ps_expr (pe_bm PySem.F.plainAttrs_list PySem.F.slot_list_append PySem.F.type_list_append mt_append (pv 4) (pa_cons (pe_tup (pa_cons (pv 6) (pa_cons (pe_op op_add (pv 6) (C8.pe_c ct hr (by decide) (by rfl) (pa_cons (pv 0) (pa_cons (pv 3) pa_nil)))) pa_nil))) pa_nil))))))
    (pss_one (ps_ret (pe_callTy call_tuple_of (by rfl) mt (by decide +kernel) (pa_cons (pe_callB cr_sortedPO (by rfl) ms (by decide +kernel) (pa_cons (pv 4) pa_nil)) pa_nil))))))), ?_⟩
  -- base
  refine ⟨10, 30, rfl, rfl, ⟨by decide, by decide, by decide⟩, _, 300, rfl, rfl, (by show 3 ≤ sizeLine; decide), fun l1 hl1 => ?_⟩
  have s1 := same_upd (o := .lst [.int 0, .int 0, .int (10 ^ (30 : Int).toNat - 300)]) hl1
  refine ⟨.ref a, rfl, a, 3, rfl, hP.same s1, by decide, fun H2 d1 b2 P2 d10 d11 => ?_⟩
  have nl1 : l1 ≠ a := fun e => by
    obtain ⟨x, h1, _⟩ := hP
    rw [e, h1] at hl1
    cases hl1
  obtain ⟨v1, g1, bb⟩ := at3 (x := 0) (y := 0) (z := 10 ^ (30 : Int).toNat - 300) d10 d11
  refine ⟨l1, _, d1, .int v1, rfl, rfl, .inl (.inl (b2 _ _ nl1 upd_same)), g1, ?_⟩
  have B2 : But a H H2 := (Same.but s1).trans b2
  -- wide, late
  refine ⟨(by show 3 ≤ sizeLine; decide), fun l2 hl2 => ?_⟩
  have s3 := same_upd (o := .lst [.int 3, .int 8, .int 40]) hl2
  refine ⟨.ref a, rfl, a, 3, rfl, P2.same s3, by decide, fun H3 d2 b3 P3 d20 d21 => ?_⟩
  have nl2 : l2 ≠ a := fun e => by
    obtain ⟨x, h1, _⟩ := P2
    rw [e, h1] at hl2
    cases hl2
  obtain ⟨v2, g2, bw⟩ := at3 (x := 3) (y := 8) (z := 40) d20 d21
  refine ⟨l2, _, d2, .int v2, rfl, rfl, .inl (.inl (b3 _ _ nl2 upd_same)), g2, ?_⟩
  have B3 : But a H H3 := B2.trans ((Same.but s3).trans b3)
  refine ⟨(by show 4 ≤ sizeLine; decide), fun l3 hl3 => ?_⟩
  have s4 := same_upd (o := .lst [.int 1, .int 3, .int 6, .int 60]) hl3
  refine ⟨.ref a, rfl, a, 4, rfl, P3.same s4, by decide, fun H4 d3 b4 P4 d30 d31 => ?_⟩
  have nl3 : l3 ≠ a := fun e => by
    obtain ⟨x, h1, _⟩ := P3
    rw [e, h1] at hl3
    cases hl3
  obtain ⟨v3, g3, bl⟩ := at4 (x := 1) (y := 3) (z := 6) (u := 60) d30 d31
  refine ⟨l3, _, d3, .int v3, rfl, rfl, .inl (.inl (b4 _ _ nl3 upd_same)), g3, ?_⟩
  have B4 : But a H H4 := B3.trans ((Same.but s4).trans b4)
  refine ⟨.int v2, .int v3, rfl, ?_⟩
  -- found = []
  refine ⟨Nat.zero_le _, fun pf hpf => ?_⟩
  have s5 := same_upd (o := .lst []) hpf
  have npf : pf ≠ a := fun e => by
    obtain ⟨x, h1, _⟩ := P4
    rw [e, h1] at hpf
    cases hpf
  refine ⟨.ref a, rfl, a, 12, rfl, P4.same s5, by decide, fun H5 d4 b5 P5 d40 d41 => ?_⟩
  have fpf : H pf = none := by
    cases e : H pf with
    | none => rfl
    | some o =>
      rw [B4 _ _ npf e] at hpf
      cases hpf
  have B5 : But a H H5 := B4.trans ((Same.but s5).trans b5)
  have e30 : (10 : Int) ^ (30 : Int).toNat - 300 = 1000000000000000000000000000000 - 300 := by decide +kernel
  rw [e30] at bb
  have lim : ((d4.toNat : Nat) : Int) = d4 := by omega
  refine ⟨d4, rfl, by omega, by omega, for_range (lo := 0) (n := d4.toNat) (fun i σ H6 => ∃ (cs : List Call) (ys : List V) (y5 y6 : Option V), σ = [some (.ref a), some (.int v1), some (.int v2), some (.int v3), some (.ref pf), y5, y6] ∧ But a H H6 ∧ PoolAt H6 a ∧
      H6 pf = some (.lst ys) ∧ Pairs H6 ys cs ∧ cs.length = i ∧ ∀ c ∈ cs, 1 ≤ c.1 ∧ c.1 ≤ c.2 ∧ c.2 ≤ B0)
    ⟨[], [], none, none, rfl, B5, P5, b5 _ _ npf upd_same, Pairs.nil _, rfl, fun c hc => absurd hc List.not_mem_nil⟩ (fun i σ H6 hi hI => ?_) (fun σ H6 hI => ?_)⟩
  · obtain ⟨cs, ys, y5, y6, rfl, B6, P6, hy, py, hlen, okc⟩ := hI
    refine ⟨.int v1, rfl, v1, 1, rfl, rfl, .ref a, rfl, .int v2, rfl, a, v2, rfl, P6, by omega, fun H7 e1 b7 P7 e10 e11 => ?_⟩
    refine ⟨_, e1, rfl, rfl, ?_⟩
    have hy7 := b7 _ _ npf hy
    refine ⟨.ref pf, rfl, .inl ⟨rfl, _, .inl (.inl hy7)⟩, ?_⟩
    refine ⟨_, rfl, _, rfl, .ref a, rfl, .int v3, rfl, a, v3, rfl, P7, by omega, fun H8 e2 b8 P8 e20 e21 => ?_⟩
    refine ⟨_, e2, rfl, rfl, (by show 2 ≤ sizeLine; decide), fun t ht => ?_⟩
    have s9 := same_upd (o := .tup [.int (v1 + 1 + e1), .int (v1 + 1 + e1 + e2)]) ht
    have hy9 := s9 _ _ (b8 _ _ npf hy7)
    refine ⟨pf, ys, .ref t, rfl, rfl, hy9, small12 (by rw [py.1]; omega), ?_⟩
    have B9 : But a H (upd H8 t (.tup [.int (v1 + 1 + e1), .int (v1 + 1 + e1 + e2)])) := B6.trans (b7.trans (b8.trans (Same.but s9)))
    have ntp : t ≠ pf := fun e => by
      rw [e] at ht
      rw [b8 _ _ npf hy7] at ht
      cases ht
    have up : Tups H6 (upd (upd H8 t (.tup [.int (v1 + 1 + e1), .int (v1 + 1 + e1 + e2)])) pf (.lst (ys ++ [.ref t]))) := fun c zs hc => by
      rw [upd_ne (fun e => by rw [e, hy] at hc; cases hc)]
      exact s9 _ _ (b8.tupsP P7 _ _ (b7.tupsP P6 _ _ hc))
    refine ⟨cs ++ [(v1 + 1 + e1, v1 + 1 + e1 + e2)], ys ++ [.ref t], _, _, rfl, fun c o nc hc => ?_, ?_, upd_same, (py.of up).snoc ?_, ?_, ?_⟩
    · rw [upd_ne (ne_of_none hc fpf)]
      exact B9 c o nc hc
    · obtain ⟨x, x1, x2⟩ := P8.same s9
      refine ⟨x, ?_, x2⟩
      rw [upd_ne npf.symm]
      exact x1
    · rw [upd_ne ntp, upd_same]
    · rw [List.length_append, hlen]
      rfl
    · intro c hc
      rcases List.mem_append.mp hc with z | z
      · exact okc c z
      · rw [List.mem_singleton.mp z]
        show 1 ≤ v1 + 1 + e1 ∧ v1 + 1 + e1 ≤ v1 + 1 + e1 + e2 ∧ v1 + 1 + e1 + e2 ≤ B0
        rw [b0_val]
        omega
  · obtain ⟨cs, ys, y5, y6, rfl, B6, P6, hy, py, hlen, okc⟩ := hI
    -- tuple(sorted(found))
    refine ⟨.ref pf, rfl, pf, ys, kOf H6, rfl, .inl (.inl hy), py.all, fun zs rp srt stb hrp => ?_⟩
    obtain ⟨ds, pz, dperm, dsort⟩ := py.sorted stb.perm srt
    have s7 := same_upd (o := .lst zs) hrp
    refine ⟨rp, zs, rfl, .inl ⟨.inl (.inl upd_same), fun tp htp => ?_⟩⟩
    have s8 := same_upd (o := .tup zs) htp
    refine q _ tp ds (B6.trans (Same.but (s7.trans s8))) (P6.same (s7.trans s8)) ⟨zs, upd_same, pz.of (Same.tups (s7.trans s8))⟩ ⟨?_, fun c hc => okc c (dperm.mem_iff.mp hc), dsort⟩
    rw [dperm.length_eq, hlen]
    omega

def spBeats : Sp := fun vs H Q _ => ∃ (t : Addr) (x y n : Int), vs = [.ref t, .int n] ∧ H t = some (.tup [.int x, .int y]) ∧ 0 ≤ n ∧ n ≤ 1000 ∧ ∀ (H' : Hp) (p : Addr), Same H H' → H p = none → H' p = some (.lst ((span x (min y (x + n) + 1)).map V.int)) → Q (.ref p) H'
theorem ok_beats (F : Fun K "_law_beats" "_law_beats" sBeats f fd) (mL : mg "list" = none) (mr : mg "range" = none) (mm : mg "min" = none) : FnOk P w K mg base CX0 1 f fd nBeats spBeats := by
  refine F.ok scBeats (fun vs H Q E h => ?_) (fun cdv A outer s H vs Q E hr h => ?_)
  · obtain ⟨t, x, y, n, rfl, _⟩ := h
    rfl
  obtain ⟨t, x, y, n, rfl, ht, n0, n1, q⟩ := h
  refine ⟨_, pss_one (ps_ret (pe_listRgA (by rfl) (by rfl) mL (prg_2 (by rfl) mr (pe_ix ix_tup (pv 0) pe_int (fun _ _ => rfl)) (pe_op op_add (pe_callB (call_min2 rfl) (by rfl) mm (by decide +kernel) (pa_cons (pe_ix ix_tup (pv 0) pe_int (fun _ _ => rfl))
    (pa_cons (pe_op op_add (pe_ix ix_tup (pv 0) pe_int (fun _ _ => rfl)) (pv 1)) pa_nil))) pe_int)))), ?_⟩
  refine ⟨.ref t, rfl, t, _, 0, .int x, rfl, rfl, .inl (.inl ht), atI_nat (j := 0) rfl, ?_⟩
  refine ⟨.ref t, rfl, t, _, 1, .int y, rfl, rfl, .inl (.inl ht), atI_nat (j := 1) rfl, .ref t, rfl, t, _, 0, .int x, rfl, rfl, .inl (.inl ht), atI_nat (j := 0) rfl, .int n, rfl, x, n, rfl, rfl, y, x + n, rfl, ?_⟩
  have em : (if x + n < y then x + n else y) = min y (x + n) := by
    split <;> omega
  rw [em]
  refine ⟨_, 1, rfl, rfl, x, min y (x + n) + 1, rfl, rfl, by omega, fun p hp => ?_⟩
  refine q _ p (same_upd hp) hp ?_
  rw [upd_same]
  unfold rgV span
  rw [List.map_map]
  rfl
end
end Dy
/-! DyF9: one call finds a beat, others making room. -/
namespace Dy
open PySem PySem.Spec PyProof.Rows L2

/-! ### the two dicts -/
def encP (p : Plc) : List (Key × V) := p.map fun e => (Sum.inl e.1, V.int e.2)
def encT (tr : List Int) : List (Key × V) := tr.map fun b => (Sum.inl b, V.bl true)
theorem encP_get {p : Plc} (nd : (p.map (·.1)).Nodup) : ∀ {k b : Int}, (k, b) ∈ p → valV (encP p) (Sum.inl k) = some (.int b) := by
  induction p with
  | nil => intro k b h; cases h
  | cons e r ih =>
    intro k b h
    have nd2 := List.nodup_cons.mp nd
    by_cases q : e.1 = k
    · have hb : e.2 = b := by
        rcases List.mem_cons.mp h with z | z
        · rw [← z]
        · exact absurd (List.mem_map.mpr ⟨(k, b), z, q.symm⟩) nd2.1
      have e2 : valV (encP (e :: r)) (Sum.inl k) = some (.int e.2) := valV_pos (p := (Sum.inl e.1, V.int e.2)) (r := encP r) (by rw [q])
      rw [e2, hb]
    · have e2 : valV (encP (e :: r)) (Sum.inl k) = valV (encP r) (Sum.inl k) := valV_neg (p := (Sum.inl e.1, V.int e.2)) (r := encP r) (fun z => q (Sum.inl.inj z))
      rw [e2]
      refine ih nd2.2 ?_
      rcases List.mem_cons.mp h with z | z
      · exact absurd (by rw [← z]) q
      · exact z
theorem encT_get (tr : List Int) (b : Int) : (valV (encT tr) (Sum.inl b)).isSome = decide (b ∈ tr) := by
  rw [← valV_any]
  induction tr with
  | nil => rfl
  | cons x r ih =>
    show (decide ((Sum.inl x : Key) = Sum.inl b) || (encT r).any fun kv => decide (kv.1 = Sum.inl b)) = _
    rw [ih]
    by_cases e : x = b
    · subst e
      simp
    · have e2 : ¬ (Sum.inl x : Key) = Sum.inl b := fun z => e (Sum.inl.inj z)
      have e3 : ¬ b = x := fun z => e z.symm
      simp [e2, e3]
theorem encT_put {tr : List Int} {b : Int} (h : b ∉ tr) : putK (encT tr) (Sum.inl b) (.bl true) = encT (tr ++ [b]) := by
  rw [putK_new]
  · unfold encT
    rw [List.map_append]
    rfl
  · have q := encT_get tr b
    rw [decide_eq_false h] at q
    cases e : valV (encT tr) (Sum.inl b) with
    | none => rfl
    | some v =>
      rw [e] at q
      cases q
theorem encP_put (p : Plc) (k b : Int) : putK (encP p) (Sum.inl k) (.int b) = encP (putP p k b) := by
  unfold putK putP
  have e1 : ((encP p).any fun kv => decide (kv.1 = Sum.inl k)) = (p.any fun e => decide (e.1 = k)) := by
    unfold encP
    rw [List.any_map]
    congr 1
    funext e
    exact decide_eq_decide.mpr ⟨fun z => Sum.inl.inj z, fun z => congrArg Sum.inl z⟩
  rw [e1]
  split
  · unfold encP
    rw [List.map_map, List.map_map]
    refine List.map_congr_left fun e _ => ?_
    show (if (Sum.inl e.1 : Key) = Sum.inl k then ((Sum.inl e.1 : Key), V.int b) else (Sum.inl e.1, V.int e.2)) = (Sum.inl (if e.1 = k then (e.1, b) else e).1, V.int (if e.1 = k then (e.1, b) else e).2)
    by_cases q : e.1 = k
    · rw [if_pos (congrArg Sum.inl q), if_pos q]
    · rw [if_neg (fun z => q (Sum.inl.inj z)), if_neg q]
  · unfold encP
    rw [List.map_append]
    rfl
theorem there_yes {e : Int × Int} {b : Int} (h : e.2 = b) : there [e] b = [e.1] := by
  unfold there
  rw [List.filter_cons, if_pos (decide_eq_true h)]
  rfl
theorem there_no {e : Int × Int} {b : Int} (h : ¬ e.2 = b) : there [e] b = [] := by
  unfold there
  rw [List.filter_cons, if_neg (fun z => h (of_decide_eq_true z))]
  rfl
theorem encP_length (p : Plc) : (encP p).length = p.length := List.length_map _
theorem encT_length (tr : List Int) : (encT tr).length = tr.length := List.length_map _

theorem But2.tups {a b : Addr} {H H' : Hp} {x y : List (Key × V)} (h : But2 a b H H') (ha : H a = some (.dK x)) (hb : H b = some (.dK y)) : Tups H H' := fun c xs e => h c _ (fun z => by
  rw [z, ha] at e
  cases e) (fun z => by
  rw [z, hb] at e
  cases e) e
section
variable {P : Program} {w : World} {K : PySem.W.Frag} {mg : Str → Option Value} {base : Heap} {f : Addr} {fd : FuncData}
def spPlaced (N : Nat) : Sp := fun vs H Q _ => ∃ (a pl td : Addr) (cs : List Call) (m k : Int) (p : Plc) (tr : List Int), vs = [.ref a, .int m, .int k, .ref pl, .ref td] ∧ Calls H a cs ∧ OkC 12 BIG cs ∧ 1 ≤ m ∧ 0 ≤ k ∧ k < (cs.length : Int) ∧
  H pl = some (.dK (encP p)) ∧ H td = some (.dK (encT tr)) ∧ pl ≠ td ∧ Pl cs m p ∧ Trd p tr ∧ p.length < tr.length + N ∧
  (∀ (H' : Hp) (p' : Plc), But2 pl td H H' → H' pl = some (.dK (encP p')) → Succ cs m p tr k p' → Q (.bl true) H') ∧
  ∀ (H' : Hp) (tr' : List Int), But2 pl td H H' → H' pl = some (.dK (encP p)) → H' td = some (.dK (encT tr')) → Fail cs m p tr k tr' → Q (.bl false) H'
theorem ok_placed0 : FnOk P w K mg base CX0 1 f fd ["_law_calls", "_law_hands", "_law_at", "_law_places", "_law_tried"] (spPlaced 0) := by
  have no : ∀ vs H Q E, ¬ spPlaced 0 vs H Q E := fun vs H Q E h => by
    obtain ⟨a, pl, td, cs, m, k, p, tr, _, _, _, _, _, _, _, _, _, _, trd, lt, _⟩ := h
    have := trd.length
    omega
  exact ⟨fun vs H Q E h => absurd h (no vs H Q E), fun A outer s H args us vs Q E _ _ _ _ h => absurd h (no vs H Q E)⟩
theorem ok_placed {N : Nat} (F : Fun K "_law_placed" "_law_placed" sPlaced f fd) (cb : C8.Cal P w K mg base 1 "_law_beats" spBeats []) (G : C8.Cal P w K mg base (N + 1) "_law_placed" (spPlaced N) []) (ml : mg "len" = none) :
    FnOk P w K mg base CX0 (N + 2) f fd ["_law_calls", "_law_hands", "_law_at", "_law_places", "_law_tried"] (spPlaced (N + 1)) := by
  refine F.ok scPlaced (fun vs H Q E h => ?_) (fun cdv A outer s H vs Q E hr h => ?_)
  · obtain ⟨a, pl, td, cs, m, k, p, tr, rfl, _⟩ := h
    rfl
  obtain ⟨a, pl, td, cs, m, k, p, tr, rfl, hC, ok, m1, k0, k1, hpl, htd, npt, hP, hT, fuel, qs, qf⟩ := h
  obtain ⟨xs, ha, hp⟩ := id hC
  have hlen := ok.len
  have plen := hP.length
  have hu := hu_of hr
  refine ⟨_, pss_cons (ps_for PassesOwn.never rfl (pi_list (C8.pe_c cb hr (by omega) (by rfl) (pa_cons (pe_ix ix_tup (pv 0) (pv 2) (fun _ _ => rfl)) (pa_cons (pe_callB call_len_seq (by rfl) ml PySem.boot_len (pa_cons (pv 0) pa_nil)) pa_nil)))) (pg_name (i := 5) scPlaced.nd rfl (.inr rfl))
      (pss_one (ps_if (pt_cmp (pc_dnotin hu (pv 5) (pv 4)))
        (pss_cons (ps_dput hu (pv 4) (pv 5) pe_bl rfl)
        (pss_cons (ps_lock (ps_setLc (i := 6) (own := [("_law_k", 8)]) (g := gName 8) rfl scPlaced.nd rfl rfl (sw_true rfl rfl rfl (by decide +kernel)) (pi_keys (pv 3)) (blkOk_by (N := nPlaced) (sc := defScope sPlaced) (by decide +kernel))
            (fun _ _ _ _ _ => pg_name (i := 8) scPlaced.nd rfl (Or.inl rfl)) (fun _ _ _ _ _ => pts_one (pt_cmpR op_eq (pe_dget hu (pv 3) (pv 8) (fun _ _ => rfl)) (pv 5) (nomark _))) (fun _ _ _ _ _ => pv 8)))
        (pss_cons (ps_if (pt_cmpR op_lt (pe_callB call_len_seq (by rfl) ml PySem.boot_len (pa_cons (pv 6) pa_nil)) (pv 1) (nomark _)) (pss_cons (ps_dput hu (pv 3) (pv 2) (pv 5) rfl) (pss_one (ps_ret pe_bl))) pss_nil)
        (pss_one (ps_for PassesOwn.never rfl (pi_list (pv 6)) (pg_name (i := 7) scPlaced.nd rfl (.inl rfl))
          (pss_one (ps_if (pt_val (C8.pe_c G hr (by omega) (by rfl) (pa_cons (pv 0) (pa_cons (pv 1) (pa_cons (pv 7) (pa_cons (pv 3) (pa_cons (pv 4) pa_nil)))))))
            (pss_cons (ps_dput hu (pv 3) (pv 2) (pv 5) rfl) (pss_one (ps_ret pe_bl))) pss_nil)))))))
        pss_nil)))
    (pss_one (ps_ret pe_bl)), ?_⟩
  obtain ⟨t, g1, g2⟩ := call_at hp k0 k1
  -- for beat in beats(calls[at], len(calls))
  refine ⟨.ref a, rfl, .int k, rfl, a, xs, k, .ref t, rfl, rfl, .inl (.inl ha), g1, .ref a, rfl, a, xs, rfl, .inr (.inl (.inl ha)), ?_⟩
  rw [hp.1]
  refine ⟨t, fst cs k, lst cs k, (cs.length : Int), rfl, g2, by omega, by omega, fun H1 bp s1 hbp0 hbp => ?_⟩
  have hbt : span (fst cs k) (min (lst cs k) (fst cs k + (cs.length : Int)) + 1) = bts cs k := rfl
  rw [hbt] at hbp
  have nbp : bp ≠ pl := fun e => by
    rw [e, hpl] at hbp0
    cases hbp0
  have nbt : bp ≠ td := fun e => by
    rw [e, htd] at hbp0
    cases hbp0
  refine ⟨bp, rfl, ⟨_, .inl (.inl hbp)⟩, for_list (K := K) (xs := (bts cs k).map V.int) (fun i σ H2 => ∃ (tr2 : List Int) (y5 y6 y7 : Option V), σ = [some (.ref a), some (.int m), some (.int k), some (.ref pl), some (.ref td), y5, y6, y7, none] ∧ But2 pl td H1 H2 ∧
      H2 pl = some (.dK (encP p)) ∧ H2 td = some (.dK (encT tr2)) ∧ Go cs m p tr ((bts cs k).take i) tr2)
    ⟨tr, none, none, none, rfl, But2.refl _ _ _, s1 _ _ hpl, s1 _ _ htd, Go.start hT⟩ (fun i σ H2 _ hI => ?_) (fun i x σ H2 hx hI => ?_) (fun σ H2 hI => ?_)⟩
  · obtain ⟨tr2, y5, y6, y7, _, b2, _⟩ := hI
    exact .inl (.inl (b2 _ _ nbp nbt hbp))
  · obtain ⟨tr2, y5, y6, y7, rfl, b2, hpl2, htd2, go⟩ := hI
    rw [List.getElem?_map] at hx
    cases hbi : (bts cs k)[i]? with
    | none =>
      rw [hbi] at hx
      cases hx
    | some b =>
    rw [hbi] at hx
    have ex : V.int b = x := Option.some.inj hx
    subst ex
    have hbm : b ∈ bts cs k := List.mem_of_getElem? hbi
    have etk : (bts cs k).take (i + 1) = (bts cs k).take i ++ [b] := by
      rw [List.take_add_one, hbi]
      rfl
    have B2 : But2 pl td H H2 := (Same.but2 s1).trans b2
    have tl2 := go.trd.length
    -- if beat not in tried
    refine ⟨.int b, rfl, .ref td, rfl, td, valV (encT tr2) (Sum.inl b), rfl, DGet.k (k := Sum.inl b) htd2, _, rfl, ?_⟩
    rw [encT_get]
    by_cases hb : b ∈ tr2
    · rw [decide_eq_true hb]
      refine iteF ⟨tr2, _, _, _, rfl, b2, hpl2, htd2, ?_⟩
      rw [etk]
      exact go.skip hb
    rw [decide_eq_false hb]
    -- tried[beat] = True
    refine ⟨.ref td, rfl, .int b, rfl, td, _, rfl, DPut.k (k := Sum.inl b) htd2 (by rw [encT_length]; exact small12 (by omega)), ?_⟩
    rw [encT_put hb]
    generalize hH3 : upd H2 td (.dK (encT (tr2 ++ [b]))) = H3
    have htd3 : H3 td = some (.dK (encT (tr2 ++ [b]))) := by
      rw [← hH3, upd_same]
    have hpl3 : H3 pl = some (.dK (encP p)) := by
      rw [← hH3, upd_ne npt]
      exact hpl2
    have b3 : But2 pl td H2 H3 := fun c o n1 n2 hc => by
      rw [← hH3, upd_ne n2]
      exact hc
    -- there = [k for k in places if places[k] == beat]
    refine ⟨pl, .dK (encP p), hpl3, trivial, fun od => ?_⟩
    refine ⟨.ref pl, rfl, pl, od, rfl, .inl ⟨encP p, upd_same, fun D hD => ?_⟩⟩
    have nD : D ≠ pl := fun e => by
      rw [e, upd_same] at hD
      cases hD
    have fD : H3 D = none := by
      rw [upd_ne nD] at hD
      exact hD
    refine lc_it walk_keys (fun j H4 => H4 = upd (upd H3 pl (.frz od (.dK (encP p)))) D (.lst ((there (p.take j) b).map V.int))) rfl (fun j H4 _ e => ?_) (fun j x H4 H5 hj e y => ?_) (fun H4 e => ?_)
    · subst e
      rw [upd_ne nD.symm, upd_same]
    · subst e
      obtain ⟨rfl, kk, vv, hkv, rfl⟩ := y
      unfold encP at hkv
      rw [List.getElem?_map] at hkv
      cases hpj : p[j]? with
      | none =>
        rw [hpj] at hkv
        cases hkv
      | some e =>
      rw [hpj] at hkv
      have e2 := Option.some.inj hkv
      rw [Prod.mk.injEq] at e2
      obtain ⟨e3, e4⟩ := e2
      subst e3
      have hget : valV (encP p) (Sum.inl e.1) = some (.int e.2) := encP_get hP.nd (List.mem_of_getElem? hpj)
      have hpf : (upd (upd H3 pl (.frz od (.dK (encP p)))) D (.lst ((there (p.take j) b).map V.int))) pl = some (.frz od (.dK (encP p))) := by
        rw [upd_ne nD.symm, upd_same]
      refine ⟨rfl, ?_⟩
      refine ⟨.ref pl, rfl, .int e.1, rfl, pl, .int e.2, rfl, .inl ⟨encP p, Sum.inl e.1, .inr ⟨od, hpf⟩, rfl, hget.symm⟩, .int b, rfl, rfl, _, rfl, ?_⟩
      have etj : there (p.take (j + 1)) b = there (p.take j) b ++ there [e] b := by
        rw [List.take_add_one, hpj]
        unfold there
        show ((p.take j ++ [e]).filter _).map _ = _
        rw [List.filter_append, List.map_append]
      by_cases hv : e.2 = b
      · have ed : decide (V.int e.2 = V.int b) = true := decide_eq_true (by rw [hv])
        rw [ed]
        refine ⟨.int e.1, rfl, _, upd_same, small12 ?_, ?_⟩
        · rw [List.length_map, there_length]
          have := List.countP_le_length (p := fun e : Int × Int => decide (e.2 = b)) (l := p.take j)
          unfold cnt
          rw [List.length_take] at this
          omega
        · rw [upd_upd, etj, List.map_append]
          rw [there_yes hv]
          rfl
      · have ed : decide (V.int e.2 = V.int b) = false := decide_eq_false (fun z => hv (V.int.inj z))
        rw [ed]
        refine iteF ?_
        rw [etj]
        rw [there_no hv, List.append_nil]
    subst e
    rw [encP_length, List.take_length]
    refine ⟨by rw [upd_ne nD.symm, upd_same], ?_⟩
    generalize hH6 : upd (upd (upd H3 pl (.frz od (.dK (encP p)))) D (.lst ((there p b).map V.int))) pl (.dK (encP p)) = H6
    have hpl6 : H6 pl = some (.dK (encP p)) := by
      rw [← hH6, upd_same]
    have hD6 : H6 D = some (.lst ((there p b).map V.int)) := by
      rw [← hH6, upd_ne nD, upd_same]
    have ntd : td ≠ D := fun e => by
      rw [← e, htd3] at fD
      cases fD
    have htd6 : H6 td = some (.dK (encT (tr2 ++ [b]))) := by
      rw [← hH6, upd_ne npt.symm, upd_ne ntd, upd_ne npt.symm]
      exact htd3
    have b6 : But2 pl td H3 H6 := fun c o n1 n2 hc => by
      rw [← hH6, upd_ne n1, upd_ne (ne_of_none hc fD), upd_ne n1]
      exact hc
    have B6 : But2 pl td H H6 := B2.trans (b3.trans b6)
    -- if len(there) < hands
    refine ⟨.ref D, rfl, D, _, rfl, .inl (.inl (.inl hD6)), .int m, rfl, _, m, rfl, rfl, _, rfl, ?_⟩
    rw [List.length_map, there_length]
    refine ite2 (fun h1 => ?_) (fun h1 => ?_)
    · have h1' : (cnt p b : Int) < m := of_decide_eq_true h1
      refine ⟨.int b, rfl, .ref pl, rfl, .int k, rfl, pl, _, rfl, DPut.k (k := Sum.inl k) hpl6 (by rw [encP_length]; exact small12 (by omega)), ?_⟩
      rw [encP_put]
      refine qs _ (putP p k b) (fun c o n1 n2 hc => ?_) upd_same (Succ.here hP ⟨k0, k1⟩ hbm (fun z => hb (go.sub b z)) h1')
      rw [upd_ne n1]
      exact B6 c o n1 n2 hc
    have h1' : ¬ (cnt p b : Int) < m := of_decide_eq_false (Bool.eq_false_iff.mpr h1)
    have try0 := Try.start go hb m1 (by omega)
    have nDt : D ≠ td := ntd.symm
    -- for other in there
    refine ⟨.ref D, rfl, D, rfl, ⟨_, .inl (.inl hD6)⟩, for_list (K := K) (xs := (there p b).map V.int) (fun j σ H7 => ∃ (tr3 : List Int) (y7 : Option V), σ = [some (.ref a), some (.int m), some (.int k), some (.ref pl), some (.ref td), some (.int b), some (.ref D), y7, none] ∧ But2 pl td H6 H7 ∧
        H7 pl = some (.dK (encP p)) ∧ H7 td = some (.dK (encT tr3)) ∧ Try cs m p tr ((bts cs k).take i) b ((there p b).take j) tr3 ∧ tr2.length + 1 ≤ tr3.length)
      ⟨tr2 ++ [b], y7, rfl, But2.refl _ _ _, hpl6, htd6, by rw [List.take_zero]; exact try0, by rw [List.length_append]; exact Nat.le_refl _⟩ (fun j σ H7 _ hJ => ?_) (fun j x σ H7 hx hJ => ?_) (fun σ H7 hJ => ?_)⟩
    · obtain ⟨tr3, y7, _, b7, _⟩ := hJ
      exact .inl (.inl (b7 _ _ nD nDt hD6))
    · obtain ⟨tr3, y7, rfl, b7, hpl7, htd7, tr_, lt3⟩ := hJ
      rw [List.getElem?_map] at hx
      cases hoj : (there p b)[j]? with
      | none =>
        rw [hoj] at hx
        cases hx
      | some o =>
      rw [hoj] at hx
      have ex : V.int o = x := Option.some.inj hx
      subst ex
      have hom : (o, b) ∈ p := mem_there.mp (List.mem_of_getElem? hoj)
      have orng := hP.inr _ hom
      have B7 : But2 pl td H H7 := B6.trans b7
      have hC7 : Calls H7 a cs := hC.of (B7.tups hpl htd)
      have sublen : tr.length ≤ tr2.length := nd_length hT.nd go.sub
      refine ⟨.ref a, rfl, .int m, rfl, .int o, rfl, .ref pl, rfl, .ref td, rfl, a, pl, td, cs, m, o, p, tr3, rfl, hC7, ok, m1, orng.1, orng.2, hpl7, htd7, npt, hP, tr_.trd, by omega, fun H8 p2 b8 hpl8 su => ?_, fun H8 tr4 b8 hpl8 htd8 fa => ?_⟩
      · refine ⟨true, rfl, ?_⟩
        refine ⟨.int b, rfl, .ref pl, rfl, .int k, rfl, pl, _, rfl, DPut.k (k := Sum.inl k) hpl8 (by rw [encP_length]; have := su.pl.length; exact small12 (by omega)), ?_⟩
        rw [encP_put]
        refine qs _ (putP p2 k b) (fun c o n1 n2 hc => ?_) upd_same (Succ.there hP tr_ hom su ⟨k0, k1⟩ hbm)
        rw [upd_ne n1]
        exact b8 c o n1 n2 (B7 c o n1 n2 hc)
      · refine ⟨false, rfl, iteF ⟨tr4, _, rfl, b7.trans b8, hpl8, htd8, ?_, Nat.le_trans lt3 (nd_length tr_.trd.nd fa.sub)⟩⟩
        have e : (there p b).take (j + 1) = (there p b).take j ++ [o] := by
          rw [List.take_add_one, hoj]
          rfl
        rw [e]
        exact tr_.more fa
    · obtain ⟨tr3, y7, rfl, b7, hpl7, htd7, tr_, lt3⟩ := hJ
      rw [List.length_map, List.take_length] at tr_
      refine ⟨tr3, _, _, _, rfl, b2.trans (b3.trans (b6.trans b7)), hpl7, htd7, ?_⟩
      rw [etk]
      exact tr_.done (by omega)
  · obtain ⟨tr2, y5, y6, y7, rfl, b2, hpl2, htd2, go⟩ := hI
    rw [List.length_map, List.take_length] at go
    exact qf H2 tr2 ((Same.but2 s1).trans b2) hpl2 htd2 go.fin
end
end Dy
/-! DyF10: whether all find a beat. -/
namespace Dy
open PySem PySem.Spec PyProof.Rows L2
def datC (cs : List Call) : List PyData := cs.map fun c => .tuple [.int c.1, .int c.2]
theorem lay_calls : ∀ cs : List Call, PyData.canLayAll0 (datC cs) = true
  | [] => by simp [datC, PyData.canLayAll0]
  | c :: r => by
    have ih := lay_calls r
    unfold datC at ih ⊢
    simp [PyData.canLay0, PyData.canLayAll0, ih]
theorem depth_calls : ∀ cs : List Call, PyData.depthAll (datC cs) ≤ 1
  | [] => by decide
  | c :: r => by
    have ih := depth_calls r
    show max (PyData.depth (.tuple [.int c.1, .int c.2])) (PyData.depthAll (datC r)) ≤ 1
    have e : PyData.depth (.tuple [.int c.1, .int c.2]) = 1 := rfl
    rw [e]
    omega
theorem shaped_calls (cs : List Call) : SeqAt.shaped (.tuple (datC cs)) = true := by
  unfold SeqAt.shaped
  rw [Bool.and_eq_true]
  refine ⟨?_, decide_eq_true ?_⟩
  · have := lay_calls cs
    simpa [PyData.canLay0] using this
  · have := depth_calls cs
    show PyData.depthAll (datC cs) + 1 ≤ 64
    omega
theorem dp_calls {K : PySem.W.Frag} {H : Hp} : ∀ {xs : List V} {cs : List Call}, Pairs H xs cs → DpAll K H xs (datC cs)
  | [], [], _ => .nil
  | [], c :: cs, h => by have := h.1; simp at this
  | x :: xs, [], h => by have := h.1; simp at this
  | x :: xs, c :: cs, h => by
    obtain ⟨t, e1, e2⟩ := h.2 0 c rfl
    have ex : x = .ref t := Option.some.inj e1
    subst ex
    refine .cons (.tup (.inl (.inl e2)) (.cons (.int _) (.cons (.int _) .nil))) (dp_calls (xs := xs) (cs := cs) ⟨by have := h.1; simpa using this, fun i d e => ?_⟩)
    obtain ⟨t', q1, q2⟩ := h.2 (i + 1) d (by simpa using e)
    exact ⟨t', by simpa using q1, q2⟩
theorem eq_nil_calls (cs : List Call) : PyData.eqv (.tuple (datC cs)) (.tuple []) = cs.isEmpty := by
  cases cs with
  | nil => rfl
  | cons c r => rfl
section
variable {P : Program} {w : World} {K : PySem.W.Frag} {mg : Str → Option Value} {base : Heap} {f : Addr} {fd : FuncData}
def spAll : Sp := fun vs H Q _ => ∃ (a : Addr) (cs : List Call) (m : Int), vs = [.ref a, .int m] ∧ Calls H a cs ∧ OkC 12 BIG cs ∧ 0 ≤ m ∧
  ∀ (H' : Hp) (b : Bool), Same H H' → (b = true → Hall cs m) → ((∃ ps : List Int, Fits (near cs) ps ∧ ∀ x, (ps.count x : Int) ≤ m) → b = true) → Q (.bl b) H'
theorem ok_all (F : Fun K "_law_all_placed" "_law_all_placed" sAll f fd) (cp : C8.Cal P w K mg base 14 "_law_placed" (spPlaced 13) []) (ma : mg "all" = none) (mr : mg "range" = none) (ml : mg "len" = none) :
    FnOk P w K mg base CX0 15 f fd ["_law_calls", "_law_hands"] spAll := by
  refine F.ok scAll (fun vs H Q E h => ?_) (fun cdv A outer s H vs Q E hr h => ?_)
  · obtain ⟨a, cs, m, rfl, _⟩ := h
    rfl
  obtain ⟨a, cs, m, rfl, hC, ok, m0, q⟩ := h
  obtain ⟨xs, ha, hp⟩ := id hC
  have hlen := ok.len
  refine ⟨_, pss_cons (ps_set (i := 2) scAll.nd rfl (.inr rfl) pe_dnewK)
    (pss_cons (ps_if (pt_cmpR op_eq (pv 1) pe_int (nomark _)) (pss_one (ps_ret (pe_cmpR (op_eqD hr.units) (pv 0) (pe_tup pa_nil) (nomark _)))) pss_nil)
    (pss_one (ps_ret (pe_callB (cr_all rfl) (by rfl) ma (by decide +kernel) (pa_cons (pe_lc (own := [("_law_at", 3)]) (g := gName 3) (tt := tYes) rfl scAll.nd
      (pi_range1 (by rfl) mr (pa_cons (pe_callB call_len_seq (by rfl) ml PySem.boot_len (pa_cons (pv 0) pa_nil)) pa_nil)) (blkOk_by (N := nAll) (sc := defScope sAll) (by decide +kernel))
      (fun _ _ _ _ _ => pg_name (i := 3) scAll.nd rfl (Or.inl rfl)) (fun _ _ _ _ _ => pts_nil)
      (fun _ _ _ _ _ => C8.pe_c cp hr (by decide) (by rfl) (pa_cons (pv 0) (pa_cons (pv 1) (pa_cons (pv 3) (pa_cons (pv 2) (pa_cons pe_dnewK pa_nil))))))) pa_nil))))), ?_⟩
  intro pd hpd
  have s1 := same_upd (o := .dK []) hpd
  have hp1 := hp.of (Same.tups s1)
  refine ⟨.int m, rfl, rfl, _, rfl, ite2 (fun h1 => ?_) (fun h1 => ?_)⟩
  · -- no hands
    have em : m = 0 := V.int.inj (of_decide_eq_true h1)
    subst em
    refine ⟨.ref a, rfl, Nat.zero_le _, fun t ht => ?_⟩
    have s2 := same_upd (o := .tup []) ht
    refine ⟨.tuple (datC cs), .tuple [], .tup (.inl (.inl (s2 _ _ (s1 _ _ ha)))) (dp_calls (hp1.of (Same.tups s2))), .tup (.inl (.inl upd_same)) .nil, shaped_calls cs, rfl, ?_⟩
    rw [eq_nil_calls]
    refine q _ _ (s1.trans s2) (fun e => ?_) (fun ⟨ps, f1, f2⟩ => ?_)
    · have e2 : cs = [] := List.isEmpty_iff.mp e
      subst e2
      intro b l hbl
      rw [wn_nil]
      omega
    · have e2 : ps = [] := List.eq_nil_iff_forall_not_mem.mpr fun x hx => by
        have h2 := f2 x
        have h3 := List.count_pos_iff.mpr hx
        omega
      have e3 := f1.length
      rw [e2] at e3
      unfold near at e3
      rw [List.length_map] at e3
      exact List.isEmpty_iff.mpr (List.eq_nil_of_length_eq_zero e3.symm)
  have hm : m ≠ 0 := fun e => h1 (decide_eq_true (congrArg V.int e))
  have m1 : 1 ≤ m := by omega
  refine ⟨.ref a, rfl, a, xs, rfl, .inr (.inl (.inl (s1 _ _ ha))), _, rfl, by have := hp.1; omega, by have := hp.1; omega, fun D hD => ?_⟩
  rw [hp.1, Int.toNat_natCast]
  have nD : D ≠ pd := fun e => by
    rw [e, upd_same] at hD
    cases hD
  have fD : H D = none := s1.free hD
  refine lc_range (lo := 0) (n := cs.length) (fun i H2 => ∃ (p : Plc) (bs : List Bool), Same H H2 ∧ H2 pd = some (.dK (encP p)) ∧ H2 D = some (.lst (bs.map V.bl)) ∧ Pl cs m p ∧ (∀ k ∈ p.map (·.1), k < (i : Int)) ∧ bs.length = i ∧
      (bs.all id = true → ∀ k : Nat, k < i → (k : Int) ∈ p.map (·.1)) ∧ ((∃ ps : List Int, Fits (near cs) ps ∧ ∀ x, (ps.count x : Int) ≤ m) → bs.all id = true))
    ⟨[], [], s1.trans (same_upd hD), ?_, upd_same, Pl.nil cs m0, fun k hk => absurd hk List.not_mem_nil, rfl, fun _ k hk => absurd hk (Nat.not_lt_zero k), fun _ => rfl⟩ (fun i H2 hi hI => ?_) (fun H2 hI => ?_)
  · rw [upd_ne nD.symm, upd_same]
    rfl
  · obtain ⟨p, bs, s2, hpd2, hD2, hP, below, blen, full, fits⟩ := hI
    have irng : 0 ≤ (0 + (i : Int)) ∧ (0 + (i : Int)) < (cs.length : Int) := by omega
    have notin : (0 + (i : Int)) ∉ p.map (·.1) := fun z => by
      have := below _ z
      omega
    refine ⟨rfl, ?_⟩
    refine ⟨.ref a, rfl, .int m, rfl, .int (0 + (i : Int)), rfl, .ref pd, rfl, fun td htd => ?_⟩
    have s3 := same_upd (o := .dK []) htd
    have ntd : pd ≠ td := ne_of_none hpd2 htd
    have nDt : D ≠ td := ne_of_none hD2 htd
    have ftd : H td = none := s2.free htd
    have plen := hP.length
    have keep : ∀ (H4 : Hp) (p' : Plc) (b : Bool), But2 pd td (upd H2 td (.dK [])) H4 → H4 pd = some (.dK (encP p')) → Same H (upd H4 D (.lst (bs.map V.bl ++ [.bl b]))) ∧ (upd H4 D (.lst (bs.map V.bl ++ [.bl b]))) pd = some (.dK (encP p')) ∧ H4 D = some (.lst (bs.map V.bl)) := fun H4 p' b b4 h4 => by
      refine ⟨Same.mut (fun c o hc => b4 c o (ne_of_none hc hpd) (ne_of_none hc ftd) (s3 _ _ (s2 _ _ hc))) fD, ?_, b4 D _ nD nDt (s3 _ _ hD2)⟩
      rw [upd_ne nD.symm]
      exact h4
    refine ⟨a, pd, td, cs, m, 0 + (i : Int), p, [], rfl, hC.same (s2.trans s3), ok, m1, irng.1, irng.2, s3 _ _ hpd2, upd_same, ntd, hP, Trd.nil p, by show p.length < 0 + 13; omega, fun H4 p2 b4 hpl4 su => ?_, fun H4 tr4 b4 hpl4 htd4 fa => ?_⟩
    · obtain ⟨k1, k2, k3⟩ := keep H4 p2 true b4 hpl4
      refine ⟨_, k3, small12 (by rw [List.length_map]; omega), p2, bs ++ [true], k1, k2, by rw [upd_same, List.map_append]; rfl, su.pl, fun k hk => ?_, by rw [List.length_append, blen]; rfl, fun hall k hk => ?_, fun hf => ?_⟩
      · rcases (su.keys k).mp hk with z | z
        · have := below k z
          omega
        · omega
      · rw [List.all_append, Bool.and_eq_true] at hall
        by_cases e : k = i
        · exact (su.keys _).mpr (.inr (by omega))
        · exact (su.keys _).mpr (.inl (full hall.1 k (by omega)))
      · rw [List.all_append, fits hf]
        rfl
    · obtain ⟨k1, k2, k3⟩ := keep H4 p false b4 hpl4
      refine ⟨_, k3, small12 (by rw [List.length_map]; omega), p, bs ++ [false], k1, k2, by rw [upd_same, List.map_append]; rfl, hP, fun k hk => ?_, by rw [List.length_append, blen]; rfl, fun hall k hk => ?_, fun ⟨ps, f1, f2⟩ => ?_⟩
      · have := below k hk
        omega
      · rw [List.all_append, Bool.and_eq_true] at hall
        exact absurd hall.2 (by decide)
      · exact (fail_top hP irng notin fa f1 f2).elim
  · obtain ⟨p, bs, s2, hpd2, hD2, hP, below, blen, full, fits⟩ := hI
    exact ⟨D, bs, rfl, .inl (.inl hD2), q H2 _ s2 (fun e => succ_all hP (full e)) fits⟩
end
end Dy
/-! DyF11: a plan, a short stretch. -/
namespace Dy
open PySem PySem.Spec PyProof.Rows L2
theorem walk_zipT {K : PySem.W.Frag} {a b : Addr} {xs ys : List V} {n : Nat} (hn : n = min xs.length ys.length) : Walk (RZ.ItzT K a b) n (fun H => SqT K H a xs ∧ SqT K H b ys) (YPair (fun i => xs[i]?) (fun i => ys[i]?)) :=
  ⟨fun i H hi q => ⟨xs, ys, xs[i], ys[i], q.1, q.2, List.getElem?_eq_getElem (by omega), List.getElem?_eq_getElem (by omega)⟩,
    fun H q => ⟨xs, ys, q.1, q.2, by omega⟩,
    fun i H v H' hi q y => by
      obtain ⟨T, x, z, e1, e2, e3, e4, e5⟩ := y
      exact ⟨T, x, z, e1, e2, e3, e4 xs q.1, e5 ys q.2⟩⟩
theorem Fits.at {cs : List Call} {ps : List Int} (h : Fits cs ps) {i : Nat} {c : Call} {x : Int} (hc : cs[i]? = some c) (hx : ps[i]? = some x) : c.1 ≤ x ∧ x ≤ c.2 := by
  obtain ⟨y, hy, q⟩ := h.get i c hc
  rw [hx] at hy
  have e : x = y := Option.some.inj hy
  rw [e]
  exact q
section
variable {P : Program} {w : World} {K : PySem.W.Frag} {mg : Str → Option Value} {base : Heap} {f : Addr} {fd : FuncData}
def spIsPlan : Sp := fun vs H Q _ => ∃ (a p : Addr) (cs : List Call) (m : Int), vs = [.ref a, .ref p, .int m] ∧ Calls H a cs ∧ OkC 12 BIG cs ∧ 0 ≤ m ∧ PlanAt H p cs m ∧ ∀ H', Same H H' → Q (.bl true) H'
theorem ok_isplan (F : Fun K "_law_is_plan" "_law_is_plan" sIsPlan f fd) (cw : C8.Cal P w K mg base 1 "_law_whole" spWhole []) (mI : mg "isinstance" = none) (mt : mg "tuple" = none) (ml : mg "len" = none) (ma : mg "all" = none) (mz : mg "zip" = none) (mM : mg "max" = none) :
    FnOk P w K mg base CX0 2 f fd ["_law_calls", "_law_plan", "_law_hands"] spIsPlan := by
  refine F.ok scIsPlan (fun vs H Q E h => ?_) (fun cdv A outer s H vs Q E hr h => ?_)
  · obtain ⟨a, p, cs, m, rfl, _⟩ := h
    rfl
  obtain ⟨a, p, cs, m, rfl, hC, ok, m0, ⟨ps, ⟨ob, hpl, ob1, ob2⟩, f1, f2, f3⟩, q⟩ := h
  obtain ⟨xs, ha, hp⟩ := id hC
  have hlen := ok.len
  have plen := f1.length
  refine ⟨_, pss_cons (ps_if (PW.pt (pw_or (pt_not (pt_val (pe_callB call_isi (by rfl) mI (by decide +kernel) (pa_cons (pv 1) (pa_cons (pe_bltn (v := .ty "tuple") (by rfl) mt (by decide +kernel) rfl) pa_nil)))))
      (pw_or (pt_cmpR op_ne (pe_callB call_len_seq (by rfl) ml PySem.boot_len (pa_cons (pv 1) pa_nil)) (pe_callB call_len_seq (by rfl) ml PySem.boot_len (pa_cons (pv 0) pa_nil)) (nomark _))
      (pw_or1 (pt_not (pt_val (pe_callB (cr_all rfl) (by rfl) ma (by decide +kernel) (pa_cons (pe_lc (own := [("_law_beat", 3)]) (g := gName 3) (tt := tYes) rfl scIsPlan.nd (pi_tup (pv 1))
          (blkOk_by (N := nIsPlan) (sc := defScope sIsPlan) (by decide +kernel)) (fun _ _ _ _ _ => pg_name (i := 3) scIsPlan.nd rfl (Or.inl rfl)) (fun _ _ _ _ _ => pts_nil)
          (fun _ _ _ _ _ => C8.pe_c cw hr (by decide) (by rfl) (pa_cons (pv 3) pa_nil))) pa_nil)))))))) (pss_one (ps_ret pe_bl)) pss_nil)
    (pss_cons (ps_if (pt_not (pt_val (pe_callB (cr_all rfl) (by rfl) ma (by decide +kernel) (pa_cons (pe_lc (own := [("_law_call", 4), ("_law_beat", 3)]) (g := gTup K 2 (gCons (gName 4) (gCons (gName 3) gNil))) (tt := tYes) rfl scIsPlan.nd
          (RZ.pi_zipA (by rfl) mz (pa_cons (pv 0) (pa_cons (pv 1) pa_nil))) (blkOk_by (N := nIsPlan) (sc := defScope sIsPlan) (by decide +kernel))
          (fun _ _ _ _ _ => pg_tup (by rfl) (pgs_cons (pg_name (i := 4) scIsPlan.nd rfl (.inl rfl)) (pgs_cons (pg_name (i := 3) scIsPlan.nd rfl (.inl rfl)) pgs_nil))) (fun _ _ _ _ _ => pts_nil)
          (fun _ _ _ _ _ => pe_chain op_le op_le (pe_ix (ixT K) (pv 4) pe_int (fun _ _ => rfl)) (pv 3) (pe_ix (ixT K) (pv 4) pe_int (fun _ _ => rfl)))) pa_nil)))) (pss_one (ps_ret pe_bl)) pss_nil)
    (pss_one (ps_ret (pe_cmpR op_le (pe_callB (cr_max rfl) (by rfl) mM (by decide +kernel) (pa_cons (pe_op op_cat (pe_lst (pa_cons pe_int pa_nil))
        (pe_lc (own := [("_law_beat", 3)]) (g := gName 3) (tt := tYes) rfl scIsPlan.nd (pi_tup (pv 1)) (blkOk_by (N := nIsPlan) (sc := defScope sIsPlan) (by decide +kernel)) (fun _ _ _ _ _ => pg_name (i := 3) scIsPlan.nd rfl (Or.inl rfl)) (fun _ _ _ _ _ => pts_nil)
          (fun _ _ _ _ _ => pe_tcount (pv 1) (pv 3)))) pa_nil)) (pv 2) (nomark _))))), ?_⟩
  have sq : ∀ H1 : Hp, Same H H1 → SqT K H1 p (ps.map V.int) := fun H1 s => .inl (.inr ⟨ob, s _ _ hpl⟩)
  have sqa : ∀ H1 : Hp, Same H H1 → SqT K H1 a xs := fun H1 s => .inl (.inl (s _ _ ha))
  -- isinstance, len
  refine ⟨.ref p, rfl, .ref p, .ty "tuple", .type "tuple", .type "tuple", true, rfl, .ty _, .fTuple hpl, kit_ty (by decide +kernel), true, rfl, iteF ?_⟩
  refine ⟨.ref p, rfl, p, _, rfl, .inr (sq H (Same.refl H)), .ref a, rfl, a, xs, rfl, .inr (sqa H (Same.refl H)), rfl, false, ?_, iteF ?_⟩
  · show V.bl (!decide _) = _
    rw [List.length_map, plen, hp.1, decide_eq_true rfl]
    rfl
  -- all whole
  refine ⟨.ref p, rfl, p, rfl, ⟨_, sq H (Same.refl H)⟩, fun D hD => ?_⟩
  refine lc_tup (xs := ps.map V.int) (fun i H2 => H2 = upd H D (.lst (List.replicate i (.bl true)))) rfl (fun i H2 _ e => by subst e; exact sq _ (same_upd hD)) (fun i x H2 hx e => ?_) (fun H2 e => ?_)
  · subst e
    rw [List.getElem?_map] at hx
    cases hi : ps[i]? with
    | none =>
      rw [hi] at hx
      cases hx
    | some b =>
    rw [hi] at hx
    have ex : V.int b = x := Option.some.inj hx
    subst ex
    have il := (List.getElem?_eq_some_iff.mp hi).1
    refine ⟨rfl, ?_⟩
    refine ⟨.int b, rfl, b, rfl, _, upd_same, by rw [List.length_replicate]; exact small12 (by omega), ?_⟩
    rw [upd_upd, List.replicate_succ']
  subst e
  have s1 := same_upd (o := .lst (List.replicate (ps.map V.int).length (.bl true))) hD
  refine ⟨D, List.replicate (ps.map V.int).length true, rfl, .inl (.inl (by rw [upd_same, List.map_replicate])), true, ?_, iteF ?_⟩
  · have e : (List.replicate (ps.map V.int).length true).all id = true := List.all_eq_true.mpr fun b hb => List.eq_of_mem_replicate hb
    rw [e]
  generalize upd H D (.lst (List.replicate (ps.map V.int).length (.bl true))) = H1 at s1 ⊢
  -- all within
  refine ⟨.ref a, rfl, .ref p, rfl, a, p, xs, ps.map V.int, rfl, .inr ⟨sqa H1 s1, sq H1 s1, fun D2 hD2 => ?_⟩⟩
  have s1D := s1.trans (same_upd (o := .lst []) hD2)
  refine lc_it (walk_zipT (K := K) (a := a) (b := p) (xs := xs) (ys := ps.map V.int) (n := cs.length) (by rw [List.length_map, plen, hp.1]; omega)) (fun i H2 => Same H1 H2 ∧ H2 D2 = some (.lst (List.replicate i (.bl true)))) ⟨same_upd hD2, upd_same⟩
    (fun i H2 _ e => ⟨sqa H2 (s1.trans e.1), sq H2 (s1.trans e.1)⟩) (fun i v H2 H3 hi e y => ?_) (fun H2 e => ?_)
  · obtain ⟨s2, hD⟩ := e
    obtain ⟨T, x, z, rfl, hT, rfl, e4, e5⟩ := y
    obtain ⟨t, c, rfl, hc, ht⟩ := hp.at e4
    have e5 : (ps.map V.int)[i]? = some z := e5
    rw [List.getElem?_map] at e5
    cases hb : ps[i]? with
    | none =>
      rw [hb] at e5
      cases e5
    | some b =>
    rw [hb] at e5
    have ez : V.int b = z := Option.some.inj e5
    subst ez
    have bd := f1.at hc hb
    have s3 := same_upd (o := .tup [.ref t, .int b]) hT
    have ht3 := s3 _ _ (s2 _ _ (s1 _ _ ht))
    refine ⟨T, _, rfl, .inl (.inl upd_same), rfl, .ref t, [.int b], rfl, .int b, [], rfl, rfl, rfl, ?_⟩
    refine ⟨.ref t, rfl, t, _, 0, .int c.1, rfl, rfl, .inl (.inl ht3), atI_nat (j := 0) rfl, .int b, rfl, c.1, b, rfl, rfl, true, congrArg V.bl (decide_eq_true bd.1), iteT ?_⟩
    refine ⟨.ref t, rfl, t, _, 1, .int c.2, rfl, rfl, .inl (.inl ht3), atI_nat (j := 1) rfl, b, c.2, rfl, rfl, ?_⟩
    refine ⟨_, s3 _ _ hD, by rw [List.length_replicate]; exact small12 (by omega), Same.mut (s2.trans s3) hD2, ?_⟩
    rw [upd_same, List.replicate_succ']
    show some (HO.lst (List.replicate i (.bl true) ++ [.bl (decide (b ≤ c.2))])) = _
    rw [decide_eq_true bd.2]
  obtain ⟨s2, hD⟩ := e
  refine ⟨D2, List.replicate cs.length true, rfl, .inl (.inl (by rw [hD, List.map_replicate])), true, ?_, iteF ?_⟩
  · have e : (List.replicate cs.length true).all id = true := List.all_eq_true.mpr fun b hb => List.eq_of_mem_replicate hb
    rw [e]
  have S2 := s1.trans s2
  -- max([0] + [..]) <= hands
  refine ⟨(by show 1 ≤ sizeLine; decide), fun l0 hl0 => ?_⟩
  have s3 := same_upd (o := .lst [.int 0]) hl0
  have S3 := S2.trans s3
  refine ⟨.ref p, rfl, p, rfl, ⟨_, sq _ S3⟩, fun D3 hD3 => ?_⟩
  refine lc_tup (xs := ps.map V.int) (fun i H4 => H4 = upd (upd H2 l0 (.lst [.int 0])) D3 (.lst (((ps.take i).map fun b => ((ps.count b : Nat) : Int)).map V.int))) rfl (fun i H4 _ e => by subst e; exact sq _ (S3.trans (same_upd hD3))) (fun i x H4 hx e => ?_) (fun H4 e => ?_)
  · subst e
    rw [List.getElem?_map] at hx
    cases hi : ps[i]? with
    | none =>
      rw [hi] at hx
      cases hx
    | some b =>
    rw [hi] at hx
    have ex : V.int b = x := Option.some.inj hx
    subst ex
    have il := (List.getElem?_eq_some_iff.mp hi).1
    have tf : TupF (upd (upd H2 l0 (.lst [.int 0])) D3 (.lst (((ps.take i).map fun b => ((ps.count b : Nat) : Int)).map V.int))) p (ps.map V.int) := ⟨ob, (S3.trans (same_upd hD3)) _ _ hpl, ob1, ob2⟩
    refine ⟨rfl, ?_⟩
    refine ⟨.ref p, rfl, p, ps, rfl, tf, .int b, rfl, b, rfl, tf, _, upd_same, small12 ?_, ?_⟩
    · rw [List.length_map, List.length_map, List.length_take]
      omega
    · rw [upd_upd, List.take_add_one, hi, List.map_append, List.map_append]
      rfl
  subst e
  rw [List.length_map, List.take_length]
  have s4 := same_upd (o := .lst ((ps.map fun b => ((ps.count b : Nat) : Int)).map V.int)) hD3
  refine ⟨l0, D3, _, _, rfl, rfl, s4 _ _ upd_same, upd_same, szL (by rw [List.length_map, List.length_map, List.length_singleton]; omega), fun mp hmp => ?_⟩
  refine ⟨mp, 0 :: ps.map (fun b => ((ps.count b : Nat) : Int)), rfl, .inl (.inl (by rw [upd_same]; rfl)), by rw [List.length_cons]; omega, fun mx mmem _ => ?_⟩
  have le : mx ≤ m := by
    rcases List.mem_cons.mp mmem with e | e
    · omega
    · obtain ⟨b, hb, e2⟩ := List.mem_map.mp e
      have := f3 b
      omega
  refine ⟨.int m, rfl, mx, m, rfl, rfl, ?_⟩
  show Q (.bl (decide (mx ≤ m))) _
  rw [decide_eq_true le]
  exact q _ (S3.trans (s4.trans (same_upd hmp)))

def spIsShort : Sp := fun vs H Q _ => ∃ (a : Addr) (cs : List Call) (b l m : Int), vs = [.ref a, .int b, .int l, .int m] ∧ Calls H a cs ∧ cs.length ≤ 12 ∧ 0 ≤ m ∧ m ≤ 1000 ∧ Short cs m b l ∧ ∀ H', Same H H' → Q (.bl true) H'
theorem ok_isshort (F : Fun K "_law_is_short" "_law_is_short" sIsShort f fd) (cw : C8.Cal P w K mg base 1 "_law_whole" spWhole []) (ml : mg "len" = none) : FnOk P w K mg base CX0 2 f fd ["_law_calls", "_law_first", "_law_last", "_law_hands"] spIsShort := by
  refine F.ok scIsShort (fun vs H Q E h => ?_) (fun cdv A outer s H vs Q E hr h => ?_)
  · obtain ⟨a, cs, b, l, m, rfl, _⟩ := h
    rfl
  obtain ⟨a, cs, b, l, m, rfl, hC, hl, m0, m1, sh, q⟩ := h
  obtain ⟨xs, ha, hp⟩ := id hC
  refine ⟨_, pss_cons (ps_if (PW.pt (pw_or (pt_not (pt_val (C8.pe_c cw hr (by decide) (by rfl) (pa_cons (pv 1) pa_nil)))) (pw_or (pt_not (pt_val (C8.pe_c cw hr (by decide) (by rfl) (pa_cons (pv 2) pa_nil))))
      (pw_or1 (pt_not (pt_cmpR op_le (pv 1) (pv 2) (nomark _))))))) (pss_one (ps_ret pe_bl)) pss_nil)
    (pss_one (ps_ret (pe_cmpR op_gt (pe_callB call_len_seq (by rfl) ml PySem.boot_len (pa_cons (pe_lc (own := [("_law_call", 4)]) (g := gName 4) rfl scIsShort.nd (pi_tup (pv 0))
      (blkOk_by (N := nIsShort) (sc := defScope sIsShort) (by decide +kernel)) (fun _ _ _ _ _ => pg_name (i := 4) scIsShort.nd rfl (Or.inl rfl))
      (fun _ _ _ _ _ => pts_one (PW.pt (pw_and (pt_cmpR op_le (pv 1) (pe_ix (ixT K) (pv 4) pe_int (fun _ _ => rfl)) (nomark _)) (pw_and1 (pt_cmpR op_le (pe_ix (ixT K) (pv 4) pe_int (fun _ _ => rfl)) (pv 2) (nomark _))))))
      (fun _ _ _ _ _ => pe_int)) pa_nil)) (pe_op op_mul (pv 3) (pe_op op_add (pe_op op_sub (pv 2) (pv 1)) pe_int)) (nomark _)))), ?_⟩
  refine ⟨.int b, rfl, b, rfl, true, rfl, iteF ?_⟩
  refine ⟨.int l, rfl, l, rfl, true, rfl, iteF ?_⟩
  refine ⟨.int b, rfl, .int l, rfl, b, l, rfl, rfl, true, congrArg V.bl (decide_eq_true sh.1), iteF ?_⟩
  refine ⟨.ref a, rfl, a, rfl, ⟨xs, .inl (.inl ha)⟩, fun D hD => ?_⟩
  have keep : ∀ (ys : List V) (c : Addr) (zs : List V), H c = some (.tup zs) → (upd H D (.lst ys)) c = some (.tup zs) := fun ys c zs hc => by
    rw [upd_ne (ne_of_none hc hD)]
    exact hc
  have tk : ∀ {i : Nat} {c : Call}, cs[i]? = some c → (cs.take (i + 1)).filter (inS b l) = (cs.take i).filter (inS b l) ++ if inS b l c = true then [c] else [] := fun {i c} hc => by
    rw [List.take_add_one, hc, List.filter_append]
    show _ ++ List.filter (inS b l) [c] = _
    rw [List.filter_cons]
    rfl
  refine lc_tup (xs := xs) (fun i H2 => ∃ ys : List V, H2 = upd H D (.lst ys) ∧ ys.length = ((cs.take i).filter (inS b l)).length) ⟨[], rfl, rfl⟩ (fun i H2 _ e => ?_) (fun i x H2 hx e => ?_) (fun H2 e => ?_)
  · obtain ⟨ys, rfl, _⟩ := e
    exact .inl (.inl (keep ys a xs ha))
  · obtain ⟨ys, rfl, hy⟩ := e
    obtain ⟨t, c, rfl, hc, ht⟩ := hp.at hx
    have hle : ys.length ≤ 12 := by
      rw [hy]
      refine Nat.le_trans (List.length_filter_le _ _) ?_
      rw [List.length_take]
      omega
    have ht2 := keep ys t _ ht
    refine ⟨rfl, ?_⟩
    refine ⟨.int b, rfl, .ref t, rfl, t, _, 0, .int c.1, rfl, rfl, .inl (.inl ht2), atI_nat (j := 0) rfl, _, _, rfl, rfl, _, rfl, ite2 (fun h1 => ?_) (fun h1 => ?_)⟩
    · have h1' : b ≤ c.1 := of_decide_eq_true h1
      refine ⟨.ref t, rfl, t, _, 1, .int c.2, rfl, rfl, .inl (.inl ht2), atI_nat (j := 1) rfl, .int l, rfl, _, _, rfl, rfl, _, rfl, ite2 (fun h2 => ?_) (fun h2 => ?_)⟩
      · have h2' : c.2 ≤ l := of_decide_eq_true h2
        refine ⟨ys, upd_same, small12 hle, ys ++ [.int 1], by rw [upd_upd], ?_⟩
        rw [tk hc, if_pos (inS_iff.mpr ⟨h1', h2'⟩), List.length_append, List.length_append, hy]
        rfl
      · have h2' : ¬ c.2 ≤ l := of_decide_eq_false (Bool.eq_false_iff.mpr h2)
        refine ⟨ys, rfl, ?_⟩
        rw [tk hc, if_neg (fun z => h2' (inS_iff.mp z).2), List.append_nil]
        exact hy
    · have h1' : ¬ b ≤ c.1 := of_decide_eq_false (Bool.eq_false_iff.mpr h1)
      refine iteF ⟨ys, rfl, ?_⟩
      rw [tk hc, if_neg (fun z => h1' (inS_iff.mp z).1), List.append_nil]
      exact hy
  obtain ⟨ys, rfl, hy⟩ := e
  refine ⟨D, ys, rfl, .inl (.inl (.inl upd_same)), .int m, rfl, .int l, rfl, .int b, rfl, l, b, rfl, rfl, l - b, 1, rfl, rfl, m, _, rfl, rfl, .inl (by omega), _, _, rfl, rfl, ?_⟩
  have e2 : ((ys.length : Nat) : Int) = (wn cs b l : Int) := by
    rw [hy, hp.1, List.take_length]
    unfold wn
    rw [List.countP_eq_length_filter]
  show Q (.bl (decide (m * (l - b + 1) < ((ys.length : Nat) : Int)))) _
  rw [e2, decide_eq_true sh.2]
  exact q _ (same_upd hD)
end
end Dy
/-! DyF12: the least number of hands, as the law sees it; some hands. -/
namespace Dy
open PySem PySem.Spec PyProof.Rows L2
section
variable {P : Program} {w : World} {K : PySem.W.Frag} {mg : Str → Option Value} {base : Heap} {f : Addr} {fd : FuncData}
def spHow : Sp := fun vs H Q _ => ∃ (a : Addr) (cs : List Call), vs = [.ref a] ∧ Calls H a cs ∧ OkC 12 BIG cs ∧ ∀ (H' : Hp) (m : Int), Same H H' → Need cs m → Q (.int m) H'
theorem ok_how (F : Fun K "_law_how" "_law_how" sHow f fd) (cl : C8.Cal P w K mg base 6 "least_hands" spLeast []) (cw : C8.Cal P w K mg base 1 "_law_whole" spWhole []) (ci : C8.Cal P w K mg base 2 "_law_is_plan" spIsPlan []) (ca : C8.Cal P w K mg base 15 "_law_all_placed" spAll [])
    (cs_ : C8.Cal P w K mg base 2 "_law_is_short" spIsShort []) (mI : mg "isinstance" = none) (mt : mg "tuple" = none) (ml : mg "len" = none) (mi : mg "int" = none) : FnOk P w K mg base CX0 16 f fd ["_law_calls"] spHow := by
  refine F.ok scHow (fun vs H Q E h => ?_) (fun cdv A outer s H vs Q E hr h => ?_)
  · obtain ⟨a, cs, rfl, _⟩ := h
    rfl
  obtain ⟨a, cs, rfl, hC, ok, q⟩ := h
  refine ⟨_, pss_cons (ps_set (i := 1) scHow.nd rfl (.inl rfl) (C8.pe_c cl hr (by decide) (by rfl) (pa_cons (pv 0) pa_nil)))
    (pss_cons (ps_if (PW.pt (pw_or (pt_not (pt_val (pe_callB call_isi (by rfl) mI (by decide +kernel) (pa_cons (pv 1) (pa_cons (pe_bltn (v := .ty "tuple") (by rfl) mt (by decide +kernel) rfl) pa_nil)))))
        (pw_or (pt_cmpR op_ne (pe_callB call_len_seq (by rfl) ml PySem.boot_len (pa_cons (pv 1) pa_nil)) pe_int (nomark _))
        (pw_or1 (pt_not (pt_val (C8.pe_c cw hr (by decide) (by rfl) (pa_cons (pe_ix ix_tup (pv 1) pe_int (fun _ _ => rfl)) pa_nil)))))))) (pss_one (ps_ret pe_non)) pss_nil)
    (pss_cons (ps_asg (pv 1) (pg_tup (by rfl) (pgs_cons (pg_name (i := 2) scHow.nd rfl (.inl rfl)) (pgs_cons (pg_name (i := 3) scHow.nd rfl (.inl rfl)) (pgs_cons (pg_name (i := 4) scHow.nd rfl (.inl rfl)) pgs_nil)))))
    (pss_cons (ps_if (PW.pt (pw_or (pt_not (pt_val (C8.pe_c ci hr (by decide) (by rfl) (pa_cons (pv 0) (pa_cons (pv 3) (pa_cons (pv 2) pa_nil))))))
        (pw_or1 (pt_not (pt_val (C8.pe_c ca hr (by decide) (by rfl) (pa_cons (pv 0) (pa_cons (pv 2) pa_nil)))))))) (pss_one (ps_ret pe_non)) pss_nil)
    (pss_cons (ps_if (pt_cmpR op_eq (pv 2) pe_int (nomark _)) (pss_one (ps_ret (pe_ix ix_list (pe_lst (pa_cons pe_non (pa_cons pe_int pa_nil)))
        (pe_callTy call_int1 (by rfl) mi (by decide +kernel) (pa_cons (pe_and (pe_cmpR (op_eqD hr.units) (pv 0) (pe_tup pa_nil) (nomark _)) (pe_one (pe_cmp (pc_isN (pv 4)) rfl))) pa_nil)) (fun _ _ => rfl)))) pss_nil)
    (pss_cons (ps_if (PW.pt (pw_or (pt_not (pt_val (pe_callB call_isi (by rfl) mI (by decide +kernel) (pa_cons (pv 4) (pa_cons (pe_bltn (v := .ty "tuple") (by rfl) mt (by decide +kernel) rfl) pa_nil)))))
        (pw_or (pt_cmpR op_ne (pe_callB call_len_seq (by rfl) ml PySem.boot_len (pa_cons (pv 4) pa_nil)) pe_int (nomark _))
        (pw_or1 (pt_val (C8.pe_c ca hr (by decide) (by rfl) (pa_cons (pv 0) (pa_cons (pe_op op_sub (pv 2) pe_int) pa_nil)))))))) (pss_one (ps_ret pe_non)) pss_nil)
    (pss_one (ps_ret (pe_ix ix_list (pe_lst (pa_cons pe_non (pa_cons (pv 2) pa_nil)))
        (pe_callTy call_int1 (by rfl) mi (by decide +kernel) (pa_cons (C8.pe_c cs_ hr (by decide) (by rfl) (pa_cons (pv 0) (pa_cons (pe_ix ix_tup (pv 4) pe_int (fun _ _ => rfl)) (pa_cons (pe_ix ix_tup (pv 4) pe_int (fun _ _ => rfl)) (pa_cons (pe_op op_sub (pv 2) pe_int) pa_nil))))) pa_nil)) (fun _ _ => rfl))))))))), ?_⟩
  refine ⟨.ref a, rfl, a, cs, rfl, hC, ok, fun H1 p pa m v st s1 hp hst hm hn hpl => ?_⟩
  refine ⟨.ref p, rfl, .ref p, .ty "tuple", .type "tuple", .type "tuple", true, rfl, .ty _, .base (.tup hp), kit_ty (by decide +kernel), true, rfl, iteF ?_⟩
  refine ⟨.ref p, rfl, p, _, rfl, .inr (.inl (.inl hp)), rfl, false, rfl, iteF ?_⟩
  refine ⟨.ref p, rfl, p, _, 0, .int m, rfl, rfl, .inl (.inl hp), atI_nat (j := 0) rfl, m, rfl, true, rfl, iteF ?_⟩
  refine ⟨.ref p, rfl, p, _, rfl, .inl (.inl hp), rfl, .int m, [.ref pa, v], rfl, .ref pa, [v], rfl, v, [], rfl, rfl, ?_⟩
  refine ⟨.ref a, rfl, .ref pa, rfl, .int m, rfl, a, pa, cs, m, rfl, hC.same s1, ok, hn.1, hpl, fun H2 s2 => ⟨true, rfl, iteF ?_⟩⟩
  refine ⟨.ref a, rfl, .int m, rfl, a, cs, m, rfl, hC.same (s1.trans s2), ok, hn.1, fun H3 b s3 _ hb => ⟨true, ?_, iteF ?_⟩⟩
  · obtain ⟨ps, _, _, f2, f3⟩ := hpl.ex
    rw [hb ⟨ps, f2, f3⟩]
  have S3 := s1.trans (s2.trans s3)
  have hst3 := hst.of (Same.tups (s2.trans s3))
  refine ⟨.int m, rfl, rfl, _, rfl, ite2 (fun h1 => ?_) (fun h1 => ?_)⟩
  · have em : m = 0 := V.int.inj (of_decide_eq_true h1)
    subst em
    have ec : cs = [] := need_zero ok.le hn
    have ev : v = .non := by
      rcases hst3 with ⟨_, e⟩ | ⟨q, b, l, e, _⟩
      · exact e
      · have := (hm.here b l e).1
        omega
    subst ev
    refine ⟨(by show 2 ≤ sizeLine; decide), fun l0 hl0 => ?_⟩
    have s4 := same_upd (o := .lst [.non, .int 0]) hl0
    obtain ⟨xs, ha, hpr⟩ := hC.same (S3.trans s4)
    refine ⟨.ref a, rfl, Nat.zero_le _, fun t ht => ?_⟩
    have s5 := same_upd (o := .tup []) ht
    refine ⟨.tuple (datC cs), .tuple [], .tup (.inl (.inl (s5 _ _ ha))) (dp_calls (hpr.of (Same.tups s5))), .tup (.inl (.inl upd_same)) .nil, shaped_calls cs, rfl, ?_⟩
    rw [eq_nil_calls, ec]
    refine ⟨true, rfl, iteT ?_⟩
    refine ⟨.non, rfl, .inr ⟨true, rfl, ?_⟩⟩
    refine ⟨l0, _, 1, .int 0, rfl, rfl, .inl (.inl (s5 _ _ upd_same)), atI_nat (j := 1) rfl, ?_⟩
    exact q _ 0 (S3.trans (s4.trans s5)) hn
  have hm0 : m ≠ 0 := fun e => h1 (decide_eq_true (congrArg V.int e))
  have m1 : 1 ≤ m := by
    have := hn.1
    omega
  rcases hst3 with ⟨e, _⟩ | ⟨q1, b1, l1, e, rfl, hq1⟩
  · exact absurd (hm.zero e) hm0
  have sh := (hm.here b1 l1 e).2
  have mle := need_le_length hn
  have hlen := ok.len
  refine ⟨.ref q1, rfl, .ref q1, .ty "tuple", .type "tuple", .type "tuple", true, rfl, .ty _, .base (.tup hq1), kit_ty (by decide +kernel), true, rfl, iteF ?_⟩
  refine ⟨.ref q1, rfl, q1, _, rfl, .inr (.inl (.inl hq1)), rfl, false, rfl, iteF ?_⟩
  refine ⟨.ref a, rfl, .int m, rfl, m, 1, rfl, rfl, a, cs, m - 1, rfl, hC.same S3, ok, by omega, fun H4 b s4 hb _ => ⟨b, rfl, ?_⟩⟩
  have bf : b = false := by
    cases b with
    | false => rfl
    | true => exact absurd (hb rfl) sh.not_hall
  subst bf
  refine iteF ?_
  refine ⟨.int m, rfl, (by show 2 ≤ sizeLine; decide), fun l0 hl0 => ?_⟩
  have s5 := same_upd (o := .lst [.non, .int m]) hl0
  have hq5 := s5 _ _ (s4 _ _ hq1)
  refine ⟨.ref a, rfl, .ref q1, rfl, q1, _, 0, .int b1, rfl, rfl, .inl (.inl hq5), atI_nat (j := 0) rfl, .ref q1, rfl, q1, _, 1, .int l1, rfl, rfl, .inl (.inl hq5), atI_nat (j := 1) rfl, .int m, rfl, m, 1, rfl, rfl, ?_⟩
  refine ⟨a, cs, b1, l1, m - 1, rfl, hC.same (S3.trans (s4.trans s5)), hlen, by omega, by omega, sh, fun H6 s6 => .inr ⟨true, rfl, ?_⟩⟩
  refine ⟨l0, _, 1, .int m, rfl, rfl, .inl (.inl (s6 _ _ upd_same)), atI_nat (j := 1) rfl, ?_⟩
  exact q _ m (S3.trans (s4.trans (s5.trans s6))) hn

def spSome : Sp := fun vs H Q _ => ∃ (a : Addr) (cs : List Call) (m : Int), vs = [.ref a, .int m] ∧ Calls H a cs ∧ OkC 12 BIG cs ∧ Need cs m ∧ ∀ H', Same H H' → Q (.bl true) H'
theorem ok_some (F : Fun K "_law_some_hands" "_law_some_hands" sSome f fd) (cw : C8.Cal P w K mg base 6 "with_hands" spWithH []) (ci : C8.Cal P w K mg base 2 "_law_is_plan" spIsPlan []) (cs_ : C8.Cal P w K mg base 2 "_law_is_short" spIsShort [])
    (mI : mg "isinstance" = none) (mt : mg "tuple" = none) (ml : mg "len" = none) (mr : mg "range" = none) : FnOk P w K mg base CX0 7 f fd ["_law_calls", "_law_how_here"] spSome := by
  refine F.ok scSome (fun vs H Q E h => ?_) (fun cdv A outer s H vs Q E hr h => ?_)
  · obtain ⟨a, cs, m, rfl, _⟩ := h
    rfl
  obtain ⟨a, cs, m, rfl, hC, ok, hn, q⟩ := h
  have hn0 := hn.1
  have mle := need_le_length hn
  have hlen := ok.len
  refine ⟨_, pss_cons (ps_for PassesOwn.never rfl (pi_list (pe_lst (pa_cons (pv 1) (pa_cons (pe_op op_add (pv 1) pe_int) (pa_cons (pe_op op_add (pv 1) pe_int) (pa_cons (pe_op op_pow pe_int pe_int) pa_nil)))))) (pg_name (i := 2) scSome.nd rfl (.inl rfl))
      (pss_cons (ps_set (i := 3) scSome.nd rfl (.inl rfl) (C8.pe_c cw hr (by decide) (by rfl) (pa_cons (pv 0) (pa_cons (pv 2) pa_nil))))
      (pss_cons (ps_if (PW.pt (pw_or (pt_not (pt_val (pe_callB call_isi (by rfl) mI (by decide +kernel) (pa_cons (pv 3) (pa_cons (pe_bltn (v := .ty "tuple") (by rfl) mt (by decide +kernel) rfl) pa_nil)))))
          (pw_or (pt_cmpR op_ne (pe_callB call_len_seq (by rfl) ml PySem.boot_len (pa_cons (pv 3) pa_nil)) pe_int (nomark _))
          (pw_or1 (pt_cmpR op_ne (pe_ix ix_tup (pv 3) pe_int (fun _ _ => rfl)) pe_str (nomark _)))))) (pss_one (ps_ret pe_bl)) pss_nil)
      (pss_one (ps_if (pt_not (pt_val (C8.pe_c ci hr (by decide) (by rfl) (pa_cons (pv 0) (pa_cons (pe_ix ix_tup (pv 3) pe_int (fun _ _ => rfl)) (pa_cons (pv 2) pa_nil)))))) (pss_one (ps_ret pe_bl)) pss_nil)))))
    (pss_cons (ps_for PassesOwn.never rfl (pi_range1 (by rfl) mr (pa_cons (pv 1) pa_nil)) (pg_name (i := 2) scSome.nd rfl (.inl rfl))
      (pss_cons (ps_set (i := 3) scSome.nd rfl (.inl rfl) (C8.pe_c cw hr (by decide) (by rfl) (pa_cons (pv 0) (pa_cons (pv 2) pa_nil))))
      (pss_cons (ps_if (PW.pt (pw_or (pt_not (pt_val (pe_callB call_isi (by rfl) mI (by decide +kernel) (pa_cons (pv 3) (pa_cons (pe_bltn (v := .ty "tuple") (by rfl) mt (by decide +kernel) rfl) pa_nil)))))
          (pw_or (pt_cmpR op_ne (pe_callB call_len_seq (by rfl) ml PySem.boot_len (pa_cons (pv 3) pa_nil)) pe_int (nomark _))
          (pw_or1 (pt_cmpR op_ne (pe_ix ix_tup (pv 3) pe_int (fun _ _ => rfl)) pe_str (nomark _)))))) (pss_one (ps_ret pe_bl)) pss_nil)
      (pss_one (ps_if (pt_not (pt_val (C8.pe_c cs_ hr (by decide) (by rfl) (pa_cons (pv 0) (pa_cons (pe_ix ix_tup (pv 3) pe_int (fun _ _ => rfl)) (pa_cons (pe_ix ix_tup (pv 3) pe_int (fun _ _ => rfl)) (pa_cons (pv 2) pa_nil))))))) (pss_one (ps_ret pe_bl)) pss_nil)))))
    (pss_one (ps_ret pe_bl))), ?_⟩
  -- with as many hands, and with more
  refine ⟨.int m, rfl, .int m, rfl, m, 1, rfl, rfl, .int m, rfl, m, 7, rfl, rfl, 10, 30, rfl, rfl, ⟨by decide, by decide, by decide⟩, (by show 4 ≤ sizeLine; decide), fun l0 hl0 => ?_⟩
  have s0 := same_upd (o := .lst [.int m, .int (m + 1), .int (m + 7), .int (10 ^ (30 : Int).toNat)]) hl0
  refine ⟨l0, rfl, ⟨_, .inl (.inl upd_same)⟩, for_list (K := K) (xs := [.int m, .int (m + 1), .int (m + 7), .int (10 ^ (30 : Int).toNat)]) (fun i σ H2 => Same (upd H l0 (.lst [.int m, .int (m + 1), .int (m + 7), .int (10 ^ (30 : Int).toNat)])) H2 ∧ ∃ y2 y3 : Option V, σ = [some (.ref a), some (.int m), y2, y3])
    ⟨Same.refl _, none, none, rfl⟩ (fun i σ H2 _ hP => .inl (.inl (hP.1 _ _ upd_same))) (fun i x σ H2 hx hP => ?_) (fun σ H2 hP => ?_)⟩
  · obtain ⟨s2, y2, y3, rfl⟩ := hP
    obtain ⟨k, rfl, hk⟩ : ∃ k : Int, x = .int k ∧ m ≤ k := by
      have hm := List.mem_of_getElem? hx
      have e30 : (10 : Int) ^ (30 : Int).toNat = 1000000000000000000000000000000 := by decide +kernel
      rcases List.mem_cons.mp hm with e | hm
      · exact ⟨m, e, Int.le_refl m⟩
      rcases List.mem_cons.mp hm with e | hm
      · exact ⟨_, e, by omega⟩
      rcases List.mem_cons.mp hm with e | hm
      · exact ⟨_, e, by omega⟩
      · exact ⟨_, List.mem_singleton.mp hm, by rw [e30]; omega⟩
    have S2 := s0.trans s2
    have hal : Hall cs k := hn.2.1.mono hk
    refine ⟨.ref a, rfl, .int k, rfl, a, cs, k, rfl, hC.same S2, ok, by omega, fun H3 p pa s3 _ hp hpl => ?_, fun H3 p b l s3 no _ _ => absurd hal no⟩
    refine ⟨.ref p, rfl, .ref p, .ty "tuple", .type "tuple", .type "tuple", true, rfl, .ty _, .base (.tup hp), kit_ty (by decide +kernel), true, rfl, iteF ?_⟩
    refine ⟨.ref p, rfl, p, _, rfl, .inr (.inl (.inl hp)), rfl, false, rfl, iteF ?_⟩
    refine ⟨.ref p, rfl, p, _, 0, .str "plan", rfl, rfl, .inl (.inl hp), atI_nat (j := 0) rfl, rfl, false, congrArg (fun z => V.bl (!z)) (decide_eq_true rfl), iteF ?_⟩
    refine ⟨.ref a, rfl, .ref p, rfl, p, _, 1, .ref pa, rfl, rfl, .inl (.inl hp), atI_nat (j := 1) rfl, .int k, rfl, a, pa, cs, k, rfl, hC.same (S2.trans s3), ok, by omega, hpl, fun H4 s4 => ⟨true, rfl, iteF ?_⟩⟩
    exact ⟨s2.trans (s3.trans s4), _, _, rfl⟩
  obtain ⟨s2, y2, y3, rfl⟩ := hP
  have S2 := s0.trans s2
  -- with fewer
  refine ⟨.int m, rfl, m, rfl, by omega, by omega, for_range (lo := 0) (n := m.toNat) (fun i σ H3 => Same H2 H3 ∧ ∃ y2 y3 : Option V, σ = [some (.ref a), some (.int m), y2, y3]) ⟨Same.refl _, y2, y3, rfl⟩ (fun i σ H3 hi hP => ?_) (fun σ H3 hP => ?_)⟩
  · obtain ⟨s3, y2, y3, rfl⟩ := hP
    have S3 := S2.trans s3
    have hk : (0 + (i : Int)) < m := by omega
    have no : ¬ Hall cs (0 + (i : Int)) := fun z => by
      have := (hn.hall_iff (k := 0 + (i : Int)) (by omega)).mp z
      omega
    refine ⟨.ref a, rfl, .int (0 + (i : Int)), rfl, a, cs, 0 + (i : Int), rfl, hC.same S3, ok, by omega, fun H4 p pa s4 hal _ _ => absurd hal no, fun H4 p b l s4 _ hp sh => ?_⟩
    refine ⟨.ref p, rfl, .ref p, .ty "tuple", .type "tuple", .type "tuple", true, rfl, .ty _, .base (.tup hp), kit_ty (by decide +kernel), true, rfl, iteF ?_⟩
    refine ⟨.ref p, rfl, p, _, rfl, .inr (.inl (.inl hp)), rfl, false, rfl, iteF ?_⟩
    refine ⟨.ref p, rfl, p, _, 0, .str "short", rfl, rfl, .inl (.inl hp), atI_nat (j := 0) rfl, rfl, false, congrArg (fun z => V.bl (!z)) (decide_eq_true rfl), iteF ?_⟩
    refine ⟨.ref a, rfl, .ref p, rfl, p, _, 1, .int b, rfl, rfl, .inl (.inl hp), atI_nat (j := 1) rfl, .ref p, rfl, p, _, 2, .int l, rfl, rfl, .inl (.inl hp), atI_nat (j := 2) rfl, .int (0 + (i : Int)), rfl, a, cs, b, l, 0 + (i : Int), rfl, hC.same (S3.trans s4), hlen, by omega, by omega, sh, fun H5 s5 => ⟨true, rfl, iteF ?_⟩⟩
    exact ⟨s3.trans (s4.trans s5), _, _, rfl⟩
  · exact q H3 (S2.trans hP.1)
end
end Dy
/-! DyF13: other calls. -/
namespace Dy
open PySem PySem.Spec PyProof.Rows L2
theorem cat_read {K : PySem.W.Frag} {H : Hp} {a b : Addr} {xs ys : List V} {Q : VK} (ha : H a = some (.tup xs)) (hb : H b = some (.tup ys)) (hl : xs.length + ys.length ≤ 1000) (q : ∀ (H' : Hp) (p : Addr), Same H H' → H' p = some (.tup (xs ++ ys)) → Q (.ref p) H') :
    rCatA K (.ref a) (.ref b) H Q := by
  refine ⟨a, b, xs, ys, rfl, rfl, .inl (.inl ha), .inl (.inl hb), szL hl, fun e => ?_, fun _ e => ?_, fun _ _ p hp => q _ p (same_upd hp) upd_same⟩
  · subst e
    exact q H b (Same.refl H) hb
  · subst e
    refine q H a (Same.refl H) ?_
    rw [List.append_nil]
    exact ha
theorem slice_read {K : PySem.W.Frag} {H : Hp} {a : Addr} {xs : List V} {lo hi : Option Int} {Q : VK} (ha : H a = some (.tup xs)) (q : ∀ (H' : Hp) (p : Addr), Same H H' → H' p = some (.tup (cutV xs lo hi)) → Q (.ref p) H') : rSlA K (.ref a) lo hi H Q := by
  refine ⟨a, xs, rfl, .inl (.inl ha), fun e => ?_, fun _ p hp => q _ p (same_upd hp) upd_same⟩
  refine q H a (Same.refl H) ?_
  have e2 : cutV xs lo hi = xs := by
    unfold cutV
    rw [e.1, e.2, List.drop_zero, Nat.sub_zero, List.take_length]
  rw [e2]
  exact ha
/-- sorted(t) -/
theorem srt_read {K : PySem.W.Frag} {H : Hp} {a : Addr} {cs : List Call} {R : VK} (hC : Calls H a cs) (q : ∀ (H' : Hp) (p : Addr) (ys : List V) (ds : List Call), Same H H' → H' p = some (.lst ys) → Pairs H' ys ds → ds.Perm cs → ds.Pairwise lexle → R (.ref p) H') :
    rSortedPT K [.ref a] H R := by
  obtain ⟨xs, ha, hp⟩ := hC
  refine ⟨a, xs, kOf H, rfl, .inl (.inl ha), hp.all, fun ys p srt stb hp1 => ?_⟩
  obtain ⟨ds, pz, dperm, dsort⟩ := hp.sorted stb.perm srt
  have s1 := same_upd (o := .lst ys) hp1
  exact q _ p ys ds s1 upd_same (pz.of (Same.tups s1)) dperm dsort
theorem Pairs.one {H : Hp} {t : Addr} {c : Call} (h : H t = some (.tup [.int c.1, .int c.2])) : Pairs H [.ref t] [c] := (Pairs.nil H).snoc h
theorem OkC.perm {n : Nat} {B : Int} {cs ds : List Call} (h : ∀ c ∈ cs, 1 ≤ c.1 ∧ c.1 ≤ c.2 ∧ c.2 ≤ B) (hl : cs.length ≤ n) (p : ds.Perm cs) (s : ds.Pairwise lexle) : OkC n B ds :=
  ⟨by rw [p.length_eq]; exact hl, fun c hc => h c (p.mem_iff.mp hc), s⟩
theorem without {cs : List Call} {k : Nat} {c : Call} (h : cs[k]? = some c) : cs.Perm ((cs.take k ++ cs.drop (k + 1)) ++ [c]) ∧ (cs.take k ++ cs.drop (k + 1)).Sublist cs := by
  obtain ⟨hk, e⟩ := List.getElem?_eq_some_iff.mp h
  refine ⟨?_, ?_⟩
  · have e1 : cs = cs.take k ++ c :: cs.drop (k + 1) := by
      rw [← e, ← List.drop_eq_getElem_cons hk, List.take_append_drop]
    refine (List.Perm.of_eq e1).trans ?_
    refine List.perm_middle.trans ?_
    exact (List.perm_append_singleton c _).symm
  · rw [← List.eraseIdx_eq_take_drop_succ]
    exact List.eraseIdx_sublist cs k
theorem cut_head (xs : List V) {k : Nat} (h : k ≤ xs.length) : cutV xs none (some (k : Int)) = xs.take k := by
  unfold cutV
  rw [HT.sIx_none, HT.sIx_nat, List.drop_zero, Nat.sub_zero, Nat.min_eq_left h]
theorem cut_tail (xs : List V) {k : Nat} (h : k ≤ xs.length) : cutV xs (some (k : Int)) none = xs.drop k := by
  unfold cutV
  rw [HT.sIx_none, HT.sIx_nat, Nat.min_eq_left h, ← List.length_drop, List.take_length]
theorem Pairs.drop {H : Hp} {xs : List V} {cs : List Call} (h : Pairs H xs cs) (n : Nat) : Pairs H (xs.drop n) (cs.drop n) := by
  refine ⟨by rw [List.length_drop, List.length_drop, h.1], fun i c e => ?_⟩
  rw [List.getElem?_drop] at e ⊢
  exact h.2 _ c e

/-! ### what is gathered -/
def Goods (H : Hp) (zs : List V) : Prop := ∀ z ∈ zs, ∃ (t u : Addr) (ds : List Call) (lo hi : Int), z = .ref t ∧ H t = some (.tup [.ref u, .int lo, .int hi]) ∧ Calls H u ds ∧ OkC 12 BIG ds ∧ ∀ k, Need ds k → lo ≤ k ∧ k ≤ hi
theorem Goods.of {H H' : Hp} {zs : List V} (h : Goods H zs) (s : Tups H H') : Goods H' zs := fun z hz => by
  obtain ⟨t, u, ds, lo, hi, e, h1, h2, h3⟩ := h z hz
  exact ⟨t, u, ds, lo, hi, e, s _ _ h1, h2.of s, h3⟩
theorem Goods.snoc {H : Hp} {zs : List V} {t u : Addr} {ds : List Call} {lo hi : Int} (h : Goods H zs) (h1 : H t = some (.tup [.ref u, .int lo, .int hi])) (h2 : Calls H u ds) (h3 : OkC 12 BIG ds) (h4 : ∀ k, Need ds k → lo ≤ k ∧ k ≤ hi) : Goods H (zs ++ [.ref t]) := fun z hz => by
  rcases List.mem_append.mp hz with e | e
  · exact h z e
  · exact ⟨t, u, ds, lo, hi, List.mem_singleton.mp e, h1, h2, h3, h4⟩
/-- the list at fl, the pool, all else that H0 knew -/
structure Oth (H0 : Hp) (pool fl : Addr) (n : Nat) (zs : List V) (H : Hp) : Prop where
  but : But pool H0 H
  pool : PoolAt H pool
  here : H fl = some (.lst zs)
  len : zs.length ≤ n
  good : Goods H zs
theorem Oth.same {H0 H H' : Hp} {pool fl : Addr} {n : Nat} {zs : List V} (h : Oth H0 pool fl n zs H) (s : Same H H') : Oth H0 pool fl n zs H' :=
  ⟨h.but.trans (Same.but s), h.pool.same s, s _ _ h.here, h.len, h.good.of (Same.tups s)⟩
theorem Oth.took {H0 H H' : Hp} {pool fl : Addr} {n : Nat} {zs : List V} (h : Oth H0 pool fl n zs H) (nf : fl ≠ pool) (b : But pool H H') (p : PoolAt H' pool) : Oth H0 pool fl n zs H' :=
  ⟨h.but.trans b, p, b _ _ nf h.here, h.len, h.good.of (b.tupsP h.pool)⟩
theorem Oth.more {H0 H : Hp} {pool fl : Addr} {n : Nat} {zs : List V} {t u : Addr} {ds : List Call} {lo hi : Int} (h : Oth H0 pool fl n zs H) (n0 : H0 fl = none) (nf : fl ≠ pool) (h1 : H t = some (.tup [.ref u, .int lo, .int hi])) (h2 : Calls H u ds) (h3 : OkC 12 BIG ds) (h4 : ∀ k, Need ds k → lo ≤ k ∧ k ≤ hi) :
    Oth H0 pool fl (n + 1) (zs ++ [.ref t]) (upd H fl (.lst (zs ++ [.ref t]))) := by
  have tt : Tups H (upd H fl (.lst (zs ++ [.ref t]))) := fun c us hc => by
    rw [upd_ne (fun e => by rw [e, h.here] at hc; cases hc)]
    exact hc
  refine ⟨fun c o hc e => ?_, ?_, upd_same, by rw [List.length_append]; exact Nat.succ_le_succ h.len, (h.good.of tt).snoc (tt _ _ h1) (h2.of tt) h3 h4⟩
  · rw [upd_ne (ne_of_none e n0)]
    exact h.but c o hc e
  · obtain ⟨x, x1, x2⟩ := h.pool
    refine ⟨x, ?_, x2⟩
    rw [upd_ne nf.symm]
    exact x1
end Dy
/-! DyF14: the walk over other calls. -/
namespace Dy
open PySem PySem.Spec PyProof.Rows L2
theorem tnil_go {σ : L2.St} {H : Hp} {Q : List V → Hp → Prop} (h : Q [] H) : tNil σ H Q := h
theorem nopart_go {σ : L2.St} {H : Hp} {Q : Option Int → Hp → Prop} (h : Q none H) : tNoPart σ H Q := h
section
variable {P : Program} {w : World} {K : PySem.W.Frag} {mg : Str → Option Value} {base : Heap} {f : Addr} {fd : FuncData}
def spOthers : Sp := fun vs H Q _ => ∃ (pool a : Addr) (cs : List Call) (m : Int), vs = [.ref pool, .ref a, .int m] ∧ PoolAt H pool ∧ Calls H a cs ∧ OkC 11 B0 cs ∧ Need cs m ∧
  ∀ (H' : Hp) (p : Addr) (zs : List V), But pool H H' → H' p = some (.lst zs) → zs.length ≤ 6 → Goods H' zs → Q (.ref p) H'
theorem ok_others (F : Fun K "_law_others" "_law_others" sOthers f fd) (ct : C8.Cal P w K mg base 1 "_law_take" spTake []) (mt : mg "tuple" = none) (ms : mg "sorted" = none) (ml : mg "len" = none) (mM : mg "max" = none) :
    FnOk P w K mg base CX0 2 f fd ["_law_pool_here", "_law_calls", "_law_how_here"] spOthers := by
  refine F.ok scOthers (fun vs H Q E h => ?_) (fun cdv A outer s H vs Q E hr h => ?_)
  · obtain ⟨pool, a, cs, m, rfl, _⟩ := h
    rfl
  obtain ⟨pool, a, cs, m, rfl, hP, hC, ok, hn, q⟩ := h
  have hlen := ok.len
  have ok0 : ∀ c ∈ cs, 1 ≤ c.1 ∧ c.1 ≤ c.2 ∧ c.2 ≤ 1000000000000000000000000000000 - 201 := fun c hc => by
    have := ok.ok c hc
    rw [b0_val] at this
    exact this
  refine ⟨_, pss_cons (ps_set (i := 3) scOthers.nd rfl (.inl rfl) (pe_op op_add pe_int (C8.pe_c ct hr (by decide) (by rfl) (pa_cons (pv 0) (pa_cons pe_int pa_nil)))))
    (pss_cons (ps_set (i := 4) scOthers.nd rfl (.inl rfl) (pe_lst (pa_cons (pe_tup (pa_cons (pe_callTy call_tuple_of (by rfl) mt (by decide +kernel) (pa_cons (pe_callB cr_sortedPT (by rfl) ms (by decide +kernel) (pa_cons (pe_op op_catA (pv 1)
        (pe_tup (pa_cons (pe_tup (pa_cons (pv 3) (pa_cons (pe_op op_add (pv 3) (C8.pe_c ct hr (by decide) (by rfl) (pa_cons (pv 0) (pa_cons pe_int pa_nil)))) pa_nil))) pa_nil))) pa_nil)) pa_nil)) (pa_cons (pv 2) (pa_cons (pe_op op_add (pv 2) pe_int) pa_nil)))) pa_nil)))
    (pss_cons (ps_set (i := 5) scOthers.nd rfl (.inr rfl) (C8.pe_c ct hr (by decide) (by rfl) (pa_cons (pv 0) (pa_cons pe_int pa_nil))))
    (pss_cons (ps_expr (pe_bm PySem.F.plainAttrs_list PySem.F.slot_list_append PySem.F.type_list_append mt_append (pv 4) (pa_cons (pe_tup (pa_cons (pe_callTy call_tuple_of (by rfl) mt (by decide +kernel) (pa_cons
        (pe_lc (own := [("_law_one", 6), ("_law_other", 7)]) (g := gTup K 2 (gCons (gName 6) (gCons (gName 7) gNil))) (tt := tYes) rfl scOthers.nd (pi_tup (pv 1)) (blkOk_by (N := nOthers) (sc := defScope sOthers) (by decide +kernel))
          (fun _ _ _ _ _ => pg_tup (by rfl) (pgs_cons (pg_name (i := 6) scOthers.nd rfl (.inl rfl)) (pgs_cons (pg_name (i := 7) scOthers.nd rfl (.inl rfl)) pgs_nil))) (fun _ _ _ _ _ => pts_nil)
          (fun _ _ _ _ _ => pe_tup (pa_cons (pe_op op_add (pv 6) (pv 5)) (pa_cons (pe_op op_add (pv 7) (pv 5)) pa_nil)))) pa_nil)) (pa_cons (pv 2) (pa_cons (pv 2) pa_nil)))) pa_nil)))
    (C8.pss_cut (ps_if (pt_cmpR op_lt (pe_callB call_len_seq (by rfl) ml PySem.boot_len (pa_cons (pv 1) pa_nil)) pe_int (nomark _))
        (pss_one (ps_expr (pe_bm PySem.F.plainAttrs_list PySem.F.slot_list_append PySem.F.type_list_append mt_append (pv 4) (pa_cons (pe_tup (pa_cons (pe_callTy call_tuple_of (by rfl) mt (by decide +kernel) (pa_cons (pe_callB cr_sortedPT (by rfl) ms (by decide +kernel) (pa_cons
          (pe_op op_catA (pv 1) (pv 1)) pa_nil)) pa_nil)) (pa_cons (pv 2) (pa_cons (pe_op op_mul pe_int (pv 2)) pa_nil)))) pa_nil)))) pss_nil)
    (C8.pss_cut (ps_if (pt_cmpR (op_neD hr.units) (pv 1) (pe_tup pa_nil) (nomark _))
        (pss_cons (ps_set (i := 8) scOthers.nd rfl (.inl rfl) (C8.pe_c ct hr (by decide) (by rfl) (pa_cons (pv 0) (pa_cons (pe_callB call_len_seq (by rfl) ml PySem.boot_len (pa_cons (pv 1) pa_nil)) pa_nil))))
        (pss_cons (ps_asg (pe_tup (pa_cons (pe_op op_catA (pe_slice sl_tupA (pv 1) po_none (po_some (pv 8))) (pe_slice sl_tupA (pv 1) (po_some (pe_op op_add (pv 8) pe_int)) po_none)) (pa_cons (pe_ix ix_tup (pv 1) (pv 8) (fun _ _ => rfl)) pa_nil)))
            (pg_tup (by rfl) (pgs_cons (pg_name (i := 9) scOthers.nd rfl (.inl rfl)) (pgs_cons (pg_tup (by rfl) (pgs_cons (pg_name (i := 6) scOthers.nd rfl (.inl rfl)) (pgs_cons (pg_name (i := 7) scOthers.nd rfl (.inl rfl)) pgs_nil))) pgs_nil))))
        (pss_cons (ps_expr (pe_bm PySem.F.plainAttrs_list PySem.F.slot_list_append PySem.F.type_list_append mt_append (pv 4) (pa_cons (pe_tup (pa_cons (pv 9) (pa_cons (pe_op op_sub (pv 2) pe_int) (pa_cons (pv 2) pa_nil)))) pa_nil)))
        (pss_cons (ps_expr (pe_bm PySem.F.plainAttrs_list PySem.F.slot_list_append PySem.F.type_list_append mt_append (pv 4) (pa_cons (pe_tup (pa_cons (pe_callTy call_tuple_of (by rfl) mt (by decide +kernel) (pa_cons (pe_callB cr_sortedPT (by rfl) ms (by decide +kernel) (pa_cons (pe_op op_catA (pv 9)
          (pe_tup (pa_cons (pe_tup (pa_cons (pv 6) (pa_cons (pe_op op_add (pv 7) (C8.pe_c ct hr (by decide) (by rfl) (pa_cons (pv 0) (pa_cons pe_int pa_nil)))) pa_nil))) pa_nil))) pa_nil)) pa_nil)) (pa_cons (pe_op op_sub (pv 2) pe_int) (pa_cons (pv 2) pa_nil)))) pa_nil)))
        (pss_one (ps_expr (pe_bm PySem.F.plainAttrs_list PySem.F.slot_list_append PySem.F.type_list_append mt_append (pv 4) (pa_cons (pe_tup (pa_cons (pe_callTy call_tuple_of (by rfl) mt (by decide +kernel) (pa_cons (pe_callB cr_sortedPT (by rfl) ms (by decide +kernel) (pa_cons (pe_op op_catA (pv 9)
          (pe_tup (pa_cons (pe_tup (pa_cons (pv 6) (pa_cons (pe_callB (call_max2 rfl) (by rfl) mM (by decide +kernel) (pa_cons (pv 6) (pa_cons (pe_op op_sub (pv 7) (C8.pe_c ct hr (by decide) (by rfl) (pa_cons (pv 0) (pa_cons pe_int pa_nil)))) pa_nil))) pa_nil))) pa_nil))) pa_nil)) pa_nil))
          (pa_cons (pv 2) (pa_cons (pe_op op_add (pv 2) pe_int) pa_nil)))) pa_nil)))))))) pss_nil)
    (pss_one (ps_ret (pv 4)))))))), ?_⟩
  -- first = 1 + take(40)
  refine ⟨.ref pool, rfl, pool, 40, rfl, hP, by decide, fun H1 d1 b1 P1 d10 d11 => ?_⟩
  refine ⟨1, d1, rfl, rfl, ?_⟩
  have hC1 := hC.of (b1.tupsP hP)
  obtain ⟨xs, ha1, hp1⟩ := id hC1
  -- one call more
  refine ⟨.ref a, rfl, .int (1 + d1), rfl, .int (1 + d1), rfl, .ref pool, rfl, pool, 4, rfl, P1, by decide, fun H2 d2 b2 P2 d20 d21 => ?_⟩
  refine ⟨1 + d1, d2, rfl, rfl, (by show 2 ≤ sizeLine; decide), fun t2 ht2 => ⟨(by show 1 ≤ sizeLine; decide), fun u2 hu2 => ?_⟩⟩
  have sA := same_upd (o := .tup [.int (1 + d1), .int (1 + d1 + d2)]) ht2
  have sB := same_upd (o := .tup [.ref t2]) hu2
  have hC2 := (hC1.of (b2.tupsP P1)).same (sA.trans sB)
  obtain ⟨xs2, ha2, hp2⟩ := id hC2
  have one2 := Pairs.one (c := (1 + d1, 1 + d1 + d2)) (sB _ _ (upd_same (H := H2) (a := t2) (o := .tup [.int (1 + d1), .int (1 + d1 + d2)])))
  refine cat_read ha2 upd_same (by rw [hp2.1, List.length_singleton]; omega) fun H3 p3 s3 hp3 => ?_
  have pr3 := (hp2.append one2).of (Same.tups s3)
  refine tnil_go (srt_read (K := K) ⟨_, hp3, pr3⟩ fun H4a p4a ys4 ds4 s4a hy4 py4 perm4 sort4 => ?_)
  refine ⟨p4a, ys4, rfl, .inl ⟨.inl (.inl hy4), fun p4 hp4n => ?_⟩⟩
  have s4 := s4a.trans (same_upd (o := .tup ys4) hp4n)
  have hds4 : Calls (upd H4a p4 (.tup ys4)) p4 ds4 := ⟨ys4, upd_same, py4.of (Same.tups (same_upd hp4n))⟩
  generalize upd H4a p4 (.tup ys4) = H4 at s4 hds4 ⊢
  refine ⟨.int m, rfl, .int m, rfl, m, 1, rfl, rfl, (by show 3 ≤ sizeLine; decide), fun t5 ht5 => ⟨(by show 1 ≤ sizeLine; decide), fun fl hfl => ?_⟩⟩
  have s5 := same_upd (o := .tup [.ref p4, .int m, .int (m + 1)]) ht5
  have s6 := same_upd (o := .lst [.ref t5]) hfl
  have B4 : But pool H H4 := b1.trans (b2.trans (Same.but (sA.trans (sB.trans (s3.trans s4)))))
  have P4 : PoolAt H4 pool := P2.same (sA.trans (sB.trans (s3.trans s4)))
  have B6 := B4.trans (Same.but (s5.trans s6))
  have P6 := P4.same (s5.trans s6)
  have nf : fl ≠ pool := fun e => by
    obtain ⟨x, h1, _⟩ := P4.same s5
    rw [e, h1] at hfl
    cases hfl
  have n0 : H fl = none := by
    cases e : H fl with
    | none => rfl
    | some o =>
      rw [(B4.trans (Same.but s5)) _ _ nf e] at hfl
      cases hfl
  have O1 : Oth H pool fl 1 [.ref t5] (upd (upd H4 t5 (.tup [.ref p4, .int m, .int (m + 1)])) fl (.lst [.ref t5])) :=
    ⟨B6, P6, upd_same, Nat.le_refl 1, fun z hz => ⟨t5, p4, ds4, m, m + 1, List.mem_singleton.mp hz, s6 _ _ upd_same, hds4.same (s5.trans s6),
      OkC.perm (cs := cs ++ [(1 + d1, 1 + d1 + d2)]) (fun c hc => by
        rw [big_val]
        rcases List.mem_append.mp hc with z | z
        · have := ok0 c z
          omega
        · rw [List.mem_singleton.mp z]
          show 1 ≤ 1 + d1 ∧ 1 + d1 ≤ 1 + d1 + d2 ∧ 1 + d1 + d2 ≤ _
          omega) (by rw [List.length_append, List.length_singleton]; omega) perm4 sort4, fun k hk => need_more perm4 hn hk⟩⟩
  generalize upd (upd H4 t5 (.tup [.ref p4, .int m, .int (m + 1)])) fl (.lst [.ref t5]) = H6 at O1 ⊢
  -- move = take(200)
  refine ⟨.ref pool, rfl, pool, 200, rfl, O1.pool, by decide, fun H7 d7 b7 P7 d70 d71 => ?_⟩
  have O7 := O1.took nf b7 P7
  have hC7 := hC.of (O7.but.tupsP hP)
  obtain ⟨xs7, ha7, hp7⟩ := id hC7
  -- all later
  refine ⟨.ref fl, rfl, .inl ⟨rfl, _, .inl (.inl O7.here)⟩, ?_⟩
  refine ⟨.ref a, rfl, a, rfl, ⟨_, .inl (.inl ha7)⟩, fun D hD => ?_⟩
  refine lc_tup (K := K) (xs := xs7) (fun i H8 => Same H7 H8 ∧ ∃ ys : List V, H8 D = some (.lst ys) ∧ Pairs H8 ys ((cs.take i).map fun c => (c.1 + d7, c.2 + d7))) ⟨same_upd hD, [], upd_same, Pairs.nil _⟩ (fun i H8 _ e => .inl (.inl (e.1 _ _ ha7))) (fun i x H8 hx e => ?_) (fun H8 e => ?_)
  · obtain ⟨s8, ys, hy, py⟩ := e
    obtain ⟨t, c, rfl, hc, ht⟩ := hp7.at hx
    refine ⟨t, _, rfl, .inl (.inl (s8 _ _ ht)), rfl, .int c.1, [.int c.2], rfl, .int c.2, [], rfl, rfl, rfl, ?_⟩
    refine ⟨.int c.1, rfl, .int d7, rfl, c.1, d7, rfl, rfl, .int c.2, rfl, .int d7, rfl, c.2, d7, rfl, rfl, (by show 2 ≤ sizeLine; decide), fun t9 ht9 => ?_⟩
    have s9 := same_upd (o := .tup [.int (c.1 + d7), .int (c.2 + d7)]) ht9
    have nt : t9 ≠ D := fun e => by
      rw [e, hy] at ht9
      cases ht9
    have up : Tups H8 (upd (upd H8 t9 (.tup [.int (c.1 + d7), .int (c.2 + d7)])) D (.lst (ys ++ [.ref t9]))) := fun b us hb => by
      rw [upd_ne (fun e => by rw [e, hy] at hb; cases hb)]
      exact s9 _ _ hb
    refine ⟨ys, s9 _ _ hy, small12 ?_, Same.mut (s8.trans s9) hD, _, upd_same, ?_⟩
    · rw [py.1, List.length_map, List.length_take]
      omega
    · rw [List.take_add_one, hc, List.map_append]
      refine (py.of up).snoc (c := (c.1 + d7, c.2 + d7)) ?_
      rw [upd_ne nt, upd_same]
  obtain ⟨s8, ys, hy, py⟩ := e
  rw [hp7.1, List.take_length] at py
  refine ⟨D, ys, rfl, .inl ⟨.inl (.inl hy), fun p9 hp9 => ?_⟩⟩
  have s9 := same_upd (o := .tup ys) hp9
  refine ⟨.int m, rfl, .int m, rfl, (by show 3 ≤ sizeLine; decide), fun t10 ht10 => ?_⟩
  have s10 := same_upd (o := .tup [.ref p9, .int m, .int m]) ht10
  have O10 := O7.same (s8.trans (s9.trans s10))
  have hc10 : Calls (upd (upd H8 p9 (.tup ys)) t10 (.tup [.ref p9, .int m, .int m])) p9 (cs.map fun c => (c.1 + d7, c.2 + d7)) := ⟨ys, s10 _ _ upd_same, py.of (Same.tups (s9.trans s10))⟩
  refine ⟨fl, _, .ref t10, rfl, rfl, O10.here, small12 (Nat.le_trans O10.len (by decide)), ?_⟩
  have okm : OkC 12 BIG (cs.map fun c => (c.1 + d7, c.2 + d7)) := by
    refine ⟨by rw [List.length_map]; omega, fun c hc => ?_, ?_⟩
    · obtain ⟨c0, h0, rfl⟩ := List.mem_map.mp hc
      have := ok0 c0 h0
      rw [big_val]
      show 1 ≤ c0.1 + d7 ∧ c0.1 + d7 ≤ c0.2 + d7 ∧ c0.2 + d7 ≤ _
      omega
    · rw [List.pairwise_map]
      refine ok.up.imp fun {c d} h => ?_
      unfold lexle at h ⊢
      show c.1 + d7 < d.1 + d7 ∨ (c.1 + d7 = d.1 + d7 ∧ c.2 + d7 ≤ d.2 + d7)
      omega
  have O11 := O10.more n0 nf upd_same hc10 okm fun k hk => by
    have := need_moved hn hk
    omega
  clear O10
  generalize upd (upd (upd H8 p9 (.tup ys)) t10 (.tup [.ref p9, .int m, .int m])) fl (.lst ([.ref t5] ++ [.ref t10])) = H11 at O11 ⊢
  -- each twice
  refine ⟨fun σ H12 => ∃ zs : List V, σ = [some (.ref pool), some (.ref a), some (.int m), some (.int (1 + d1)), some (.ref fl), some (.int d7), none, none, none, none] ∧ Oth H pool fl 3 zs H12, ?_, fun σ H12 hM => ?_⟩
  · have hC11 := hC.of (O11.but.tupsP hP)
    obtain ⟨xs11, ha11, hp11⟩ := id hC11
    refine ⟨.ref a, rfl, a, _, rfl, .inr (.inl (.inl ha11)), _, 7, rfl, rfl, _, rfl, ite2 (fun h1 => ?_) (fun h1 => ?_)⟩
    · have l7 : ((xs11.length : Nat) : Int) < 7 := of_decide_eq_true h1
      rw [hp11.1] at l7
      refine ⟨.ref fl, rfl, .inl ⟨rfl, _, .inl (.inl O11.here)⟩, ?_⟩
      refine ⟨.ref a, rfl, .ref a, rfl, cat_read ha11 ha11 (by rw [hp11.1]; omega) fun H12 p12 s12 hp12 => ?_⟩
      refine tnil_go (srt_read (K := K) ⟨_, hp12, (hp11.append hp11).of (Same.tups s12)⟩ fun H13a p13a ys13 ds13 s13a hy13 py13 perm13 sort13 => ?_)
      refine ⟨p13a, ys13, rfl, .inl ⟨.inl (.inl hy13), fun p13 hp13n => ?_⟩⟩
      have s13 := s13a.trans (same_upd (o := .tup ys13) hp13n)
      have hds13 : Calls (upd H13a p13 (.tup ys13)) p13 ds13 := ⟨ys13, upd_same, py13.of (Same.tups (same_upd hp13n))⟩
      generalize upd H13a p13 (.tup ys13) = H13 at s13 hds13 ⊢
      refine ⟨.int m, rfl, .int m, rfl, 2, m, rfl, rfl, .inl (by decide), (by show 3 ≤ sizeLine; decide), fun t14 ht14 => ?_⟩
      have s14 := same_upd (o := .tup [.ref p13, .int m, .int (2 * m)]) ht14
      have O14 := O11.same (s12.trans (s13.trans s14))
      refine ⟨fl, _, .ref t14, rfl, rfl, O14.here, small12 (Nat.le_trans O14.len (by decide)), ?_⟩
      refine ⟨_, rfl, O14.more n0 nf upd_same (hds13.same s14) (OkC.perm (cs := cs ++ cs) (fun c hc => ?_) (by rw [List.length_append]; omega) perm13 sort13) fun k hk => need_twice perm13 hn hk⟩
      have := ok0 c ((List.mem_append.mp hc).elim id id)
      rw [big_val]
      omega
    · exact ⟨_, rfl, O11.but, O11.pool, O11.here, Nat.le_succ_of_le O11.len, O11.good⟩
  obtain ⟨zs12, rfl, O12⟩ := hM
  -- one left out, later, sooner
  refine ⟨fun σ H13 => ∃ (zs : List V) (y6 y7 y8 y9 : Option V), σ = [some (.ref pool), some (.ref a), some (.int m), some (.int (1 + d1)), some (.ref fl), some (.int d7), y6, y7, y8, y9] ∧ Oth H pool fl 6 zs H13, ?_, fun σ H13 hM => ?_⟩
  · have hC12 := hC.of (O12.but.tupsP hP)
    obtain ⟨xs12, ha12, hp12⟩ := id hC12
    refine ⟨.ref a, rfl, Nat.zero_le _, fun e0 he0 => ?_⟩
    have s0 := same_upd (o := .tup []) he0
    refine ⟨.tuple (datC cs), .tuple [], .tup (.inl (.inl (s0 _ _ ha12))) (dp_calls (hp12.of (Same.tups s0))), .tup (.inl (.inl upd_same)) .nil, shaped_calls cs, rfl, _, rfl, ?_⟩
    rw [eq_nil_calls]
    have O13 := O12.same s0
    generalize upd H12 e0 (.tup []) = H13 at O13 s0 ⊢
    cases hcs : cs with
    | nil => exact iteF ⟨zs12, none, none, none, none, rfl, O13.but, O13.pool, O13.here, Nat.le_trans O13.len (by decide), O13.good⟩
    | cons c0 cr =>
    have hpos : 0 < cs.length := by
      rw [hcs]
      exact Nat.succ_pos _
    rw [← hcs]
    have eE : (!cs.isEmpty) = true := by
      rw [hcs]
      rfl
    rw [eE]
    have hC13 := hC12.same s0
    obtain ⟨xs13, ha13, hp13⟩ := id hC13
    -- at = take(len(calls))
    refine ⟨.ref pool, rfl, .ref a, rfl, a, _, rfl, .inr (.inl (.inl ha13)), pool, _, rfl, O13.pool, by rw [hp13.1]; omega, fun H14 d14 b14 P14 d140 d141 => ?_⟩
    rw [hp13.1] at d141
    have O14 := O13.took nf b14 P14
    have hC14 := hC.of (O14.but.tupsP hP)
    obtain ⟨xs14, ha14, hp14⟩ := id hC14
    have kn : d14.toNat < cs.length := by omega
    have ek : ((d14.toNat : Nat) : Int) = d14 := by omega
    have hck : cs[d14.toNat]? = some cs[d14.toNat] := List.getElem?_eq_getElem kn
    generalize hc : cs[d14.toNat] = c at hck
    have okc := ok0 c (List.mem_of_getElem? hck)
    obtain ⟨pw, psub⟩ := without hck
    -- rest, (one, other) = ..
    refine ⟨.ref a, rfl, .int d14, rfl, d14, rfl, slice_read ha14 fun H15 p15 s15 hp15 => ?_⟩
    have ha15 := s15 _ _ ha14
    refine ⟨.ref a, rfl, .int d14, rfl, d14, 1, rfl, rfl, d14 + 1, rfl, nopart_go (slice_read ha15 fun H16 p16 s16 hp16 => ?_)⟩
    have x1 : cutV xs14 none (some d14) = xs14.take d14.toNat := by
      rw [← ek, cut_head xs14 (by rw [hp14.1]; omega), Int.toNat_natCast]
    have x2 : cutV xs14 (some (d14 + 1)) none = xs14.drop (d14.toNat + 1) := by
      rw [show d14 + 1 = ((d14.toNat + 1 : Nat) : Int) by omega]
      exact cut_tail xs14 (by rw [hp14.1]; omega)
    rw [x1] at hp15
    rw [x2] at hp16
    refine cat_read (s16 _ _ hp15) hp16 (by rw [List.length_take, List.length_drop, hp14.1]; omega) fun H17 p17 s17 hp17 => ?_
    have S17 := s15.trans (s16.trans s17)
    have pr17 : Pairs H17 (xs14.take d14.toNat ++ xs14.drop (d14.toNat + 1)) (cs.take d14.toNat ++ cs.drop (d14.toNat + 1)) := ((hp14.take _).append (hp14.drop _)).of (Same.tups S17)
    generalize hrest : cs.take d14.toNat ++ cs.drop (d14.toNat + 1) = rest at pr17 pw psub
    have hR17 : Calls H17 p17 rest := ⟨_, hp17, pr17⟩
    have hn14 := hp14.2 d14.toNat c hck
    obtain ⟨tc, e1, e2⟩ := hn14
    refine ⟨.ref a, rfl, .int d14, rfl, a, xs14, d14, .ref tc, rfl, rfl, .inl (.inl (S17 _ _ ha14)), at_of (j := d14.toNat) ek.symm e1, (by show 2 ≤ sizeLine; decide), fun t18 ht18 => ?_⟩
    have s18 := same_upd (o := .tup [.ref p17, .ref tc]) ht18
    refine ⟨t18, _, rfl, .inl (.inl upd_same), rfl, .ref p17, [.ref tc], rfl, .ref tc, [], rfl, tc, _, rfl, .inl (.inl (s18 _ _ (S17 _ _ e2))), rfl, .int c.1, [.int c.2], rfl, .int c.2, [], rfl, rfl, rfl, ?_⟩
    have O18 := O14.same (S17.trans s18)
    have hR18 := hR17.same s18
    clear O14
    generalize upd H17 t18 (.tup [.ref p17, .ref tc]) = H18 at O18 hR18 ⊢
    have rlen : rest.length + 1 = cs.length := by
      have := pw.length_eq
      rw [List.length_append, List.length_singleton] at this
      exact this.symm
    have rok : ∀ d ∈ rest, 1 ≤ d.1 ∧ d.1 ≤ d.2 ∧ d.2 ≤ 1000000000000000000000000000000 - 201 := fun d hd => ok0 d (psub.subset hd)
    have okr : OkC 12 BIG rest := ⟨by omega, fun d hd => by have := rok d hd; rw [big_val]; omega, ok.up.sublist psub⟩
    -- the rest
    refine ⟨.ref fl, rfl, .inl ⟨rfl, _, .inl (.inl O18.here)⟩, .ref p17, rfl, .int m, rfl, m, 1, rfl, rfl, .int m, rfl, (by show 3 ≤ sizeLine; decide), fun t19 ht19 => ?_⟩
    have s19 := same_upd (o := .tup [.ref p17, .int (m - 1), .int m]) ht19
    have O19 := O18.same s19
    refine ⟨fl, _, .ref t19, rfl, rfl, O19.here, small12 (Nat.le_trans O19.len (by decide)), ?_⟩
    have O20 := O19.more n0 nf upd_same (hR18.same s19) okr fun k hk => need_less pw hn hk
    have t20 : Tups H18 (upd (upd H18 t19 (.tup [.ref p17, .int (m - 1), .int m])) fl (.lst (zs12 ++ [.ref t19]))) := fun b us hb => by
      rw [upd_ne (fun e => by rw [e, O18.here] at hb; cases hb)]
      exact s19 _ _ hb
    have hR20 := hR18.of t20
    clear O18 O19 t20
    generalize upd (upd H18 t19 (.tup [.ref p17, .int (m - 1), .int m])) fl (.lst (zs12 ++ [.ref t19])) = H20 at O20 hR20 ⊢
    -- later
    refine ⟨.ref fl, rfl, .inl ⟨rfl, _, .inl (.inl O20.here)⟩, .ref p17, rfl, .int c.1, rfl, .int c.2, rfl, .ref pool, rfl, pool, 9, rfl, O20.pool, by decide, fun H21 d21 b21 P21 d210 d211 => ?_⟩
    have O21 := O20.took nf b21 P21
    have hR21 := hR20.of (b21.tupsP O20.pool)
    refine ⟨c.2, d21, rfl, rfl, (by show 2 ≤ sizeLine; decide), fun t22 ht22 => ⟨(by show 1 ≤ sizeLine; decide), fun u22 hu22 => ?_⟩⟩
    have sC := same_upd (o := .tup [.int c.1, .int (c.2 + d21)]) ht22
    have sD := same_upd (o := .tup [.ref t22]) hu22
    obtain ⟨xs22, ha22, hp22⟩ := hR21.same (sC.trans sD)
    have one22 := Pairs.one (c := (c.1, c.2 + d21)) (sD _ _ (upd_same (H := H21) (a := t22) (o := .tup [.int c.1, .int (c.2 + d21)])))
    refine cat_read ha22 upd_same (by rw [hp22.1, List.length_singleton]; omega) fun H23 p23 s23 hp23 => ?_
    refine tnil_go (srt_read (K := K) ⟨_, hp23, (hp22.append one22).of (Same.tups s23)⟩ fun H24a p24a ys24 ds24 s24a hy24 py24 perm24 sort24 => ?_)
    refine ⟨p24a, ys24, rfl, .inl ⟨.inl (.inl hy24), fun p24 hp24n => ?_⟩⟩
    have s24 := s24a.trans (same_upd (o := .tup ys24) hp24n)
    have hds24 : Calls (upd H24a p24 (.tup ys24)) p24 ds24 := ⟨ys24, upd_same, py24.of (Same.tups (same_upd hp24n))⟩
    generalize upd H24a p24 (.tup ys24) = H24 at s24 hds24 ⊢
    refine ⟨.int m, rfl, m, 1, rfl, rfl, .int m, rfl, (by show 3 ≤ sizeLine; decide), fun t25 ht25 => ?_⟩
    have s25 := same_upd (o := .tup [.ref p24, .int (m - 1), .int m]) ht25
    have S25 := sC.trans (sD.trans (s23.trans (s24.trans s25)))
    have O25 := O21.same S25
    refine ⟨fl, _, .ref t25, rfl, rfl, O25.here, small12 (Nat.le_trans O25.len (by decide)), ?_⟩
    have ok24 : OkC 12 BIG ds24 := OkC.perm (cs := rest ++ [(c.1, c.2 + d21)]) (fun d hd => by
      rw [big_val]
      rcases List.mem_append.mp hd with z | z
      · have := rok d z
        omega
      · rw [List.mem_singleton.mp z]
        show 1 ≤ c.1 ∧ c.1 ≤ c.2 + d21 ∧ c.2 + d21 ≤ _
        omega) (by rw [List.length_append, List.length_singleton]; omega) perm24 sort24
    have O26 := O25.more n0 nf upd_same (hds24.same s25) ok24 fun k hk => need_later pw perm24 rfl (show c.2 ≤ c.2 + d21 by omega) hn hk
    have t26 : Tups H21 (upd (upd H24 t25 (.tup [.ref p24, .int (m - 1), .int m])) fl (.lst (zs12 ++ [.ref t19] ++ [.ref t25]))) := fun b us hb => by
      rw [upd_ne (fun e => by rw [e, O21.here] at hb; cases hb)]
      exact S25 _ _ hb
    have hR26 := hR21.of t26
    clear O20 O21 O25 t26
    generalize upd (upd H24 t25 (.tup [.ref p24, .int (m - 1), .int m])) fl (.lst (zs12 ++ [.ref t19] ++ [.ref t25])) = H26 at O26 hR26 ⊢
    -- sooner
    refine ⟨.ref fl, rfl, .inl ⟨rfl, _, .inl (.inl O26.here)⟩, .ref p17, rfl, .int c.1, rfl, .int c.1, rfl, .int c.2, rfl, .ref pool, rfl, pool, 4, rfl, O26.pool, by decide, fun H27 d27 b27 P27 d270 d271 => ?_⟩
    have O27 := O26.took nf b27 P27
    have hR27 := hR26.of (b27.tupsP O26.pool)
    refine ⟨c.2, d27, rfl, rfl, c.1, c.2 - d27, rfl, ?_⟩
    generalize hmx : (if c.2 - d27 > c.1 then c.2 - d27 else c.1) = e
    have he1 : c.1 ≤ e := by
      rw [← hmx]
      split <;> omega
    have he2 : e ≤ c.2 := by
      rw [← hmx]
      split <;> omega
    refine ⟨(by show 2 ≤ sizeLine; decide), fun t28 ht28 => ⟨(by show 1 ≤ sizeLine; decide), fun u28 hu28 => ?_⟩⟩
    have sE := same_upd (o := .tup [.int c.1, .int e]) ht28
    have sF := same_upd (o := .tup [.ref t28]) hu28
    obtain ⟨xs28, ha28, hp28⟩ := hR27.same (sE.trans sF)
    have one28 := Pairs.one (c := (c.1, e)) (sF _ _ (upd_same (H := H27) (a := t28) (o := .tup [.int c.1, .int e])))
    refine cat_read ha28 upd_same (by rw [hp28.1, List.length_singleton]; omega) fun H29 p29 s29 hp29 => ?_
    refine tnil_go (srt_read (K := K) ⟨_, hp29, (hp28.append one28).of (Same.tups s29)⟩ fun H30a p30a ys30 ds30 s30a hy30 py30 perm30 sort30 => ?_)
    refine ⟨p30a, ys30, rfl, .inl ⟨.inl (.inl hy30), fun p30 hp30n => ?_⟩⟩
    have s30 := s30a.trans (same_upd (o := .tup ys30) hp30n)
    have hds30 : Calls (upd H30a p30 (.tup ys30)) p30 ds30 := ⟨ys30, upd_same, py30.of (Same.tups (same_upd hp30n))⟩
    generalize upd H30a p30 (.tup ys30) = H30 at s30 hds30 ⊢
    refine ⟨.int m, rfl, .int m, rfl, m, 1, rfl, rfl, (by show 3 ≤ sizeLine; decide), fun t31 ht31 => ?_⟩
    have s31 := same_upd (o := .tup [.ref p30, .int m, .int (m + 1)]) ht31
    have O31 := O27.same (sE.trans (sF.trans (s29.trans (s30.trans s31))))
    refine ⟨fl, _, .ref t31, rfl, rfl, O31.here, small12 (Nat.le_trans O31.len (by decide)), ?_⟩
    have ok30 : OkC 12 BIG ds30 := OkC.perm (cs := rest ++ [(c.1, e)]) (fun d hd => by
      rw [big_val]
      rcases List.mem_append.mp hd with z | z
      · have := rok d z
        omega
      · rw [List.mem_singleton.mp z]
        show 1 ≤ c.1 ∧ c.1 ≤ e ∧ e ≤ _
        omega) (by rw [List.length_append, List.length_singleton]; omega) perm30 sort30
    exact ⟨_, _, _, _, _, rfl, O31.more n0 nf upd_same (hds30.same s31) ok30 fun k hk => need_sooner pw perm30 rfl he2 hn hk⟩
  · obtain ⟨zs, y6, y7, y8, y9, rfl, O⟩ := hM
    exact ⟨.ref fl, rfl, q H13 fl zs O.but O.here O.len O.good⟩
end
end Dy
/-! DyF15: the law. -/
namespace Dy
open PySem PySem.Spec PyProof.Rows L2
/-- what a fresh pool's changes leave -/
theorem same_but {H H1 H2 : Hp} {p : Addr} (s : Same H H1) (hp : H p = none) (b : But p H1 H2) : Same H H2 := fun c o e => b c o (ne_of_none e hp) (s c o e)
section
variable {P : Program} {w : World} {K : PySem.W.Frag} {mg : Str → Option Value} {base : Heap} {f : Addr} {fd : FuncData}
def spLaw (K : PySem.W.Frag) : Sp := fun vs H Q _ => ∃ (a : Addr) (ns : List Int), vs = [.ref a] ∧ SqL K H a (ns.map V.int) ∧ ns.length ≤ 63 ∧ ∀ H', Q (.bl true) H'
theorem ok_law (F : Fun K "law" "law" sLaw f fd) (cp : C8.Cal P w K mg base 1 "_law_pool" (spPool K) []) (cd : C8.Cal P w K mg base 2 "_law_drawn" spDrawn []) (ch : C8.Cal P w K mg base 16 "_law_how" spHow []) (cs_ : C8.Cal P w K mg base 7 "_law_some_hands" spSome [])
    (co : C8.Cal P w K mg base 2 "_law_others" spOthers []) (mr : mg "range" = none) (mM : mg "max" = none) (mm : mg "min" = none) (ml : mg "len" = none) : FnOk P w K mg base CX0 17 f fd ["_law_script"] (spLaw K) := by
  refine F.ok scLaw (fun vs H Q E h => ?_) (fun cdv A outer s H vs Q E hr h => ?_)
  · obtain ⟨a, ns, rfl, _⟩ := h
    rfl
  obtain ⟨a, ns, rfl, hS, h63, q⟩ := h
  refine ⟨_, pss_cons (ps_for PassesOwn.never rfl (pi_range1 (by rfl) mr (pa_cons (pe_callB (call_max2 rfl) (by rfl) mM (by decide +kernel) (pa_cons pe_int (pa_cons
        (pe_callB (call_min2 rfl) (by rfl) mm (by decide +kernel) (pa_cons (pe_callB call_len_seq (by rfl) ml PySem.boot_len (pa_cons (pv 0) pa_nil)) (pa_cons pe_int pa_nil))) pa_nil))) pa_nil)) (pg_name (i := 1) scLaw.nd rfl (.inl rfl))
      (pss_cons (ps_set (i := 2) scLaw.nd rfl (.inl rfl) (C8.pe_c cp hr (by decide) (by rfl) (pa_cons (pv 0) (pa_cons (pv 1) pa_nil))))
      (pss_cons (ps_set (i := 3) scLaw.nd rfl (.inl rfl) (C8.pe_c cd hr (by decide) (by rfl) (pa_cons (pv 2) pa_nil)))
      (pss_cons (ps_set (i := 4) scLaw.nd rfl (.inl rfl) (C8.pe_c ch hr (by decide) (by rfl) (pa_cons (pv 3) pa_nil)))
      (pss_cons (ps_if (PW.pt (pw_or (pt_cmp (pc_isN (pv 4))) (pw_or1 (pt_not (pt_val (C8.pe_c cs_ hr (by decide) (by rfl) (pa_cons (pv 3) (pa_cons (pv 4) pa_nil)))))))) (pss_one (ps_ret pe_bl)) pss_nil)
      (pss_one (ps_for PassesOwn.never rfl (pi_list (C8.pe_c co hr (by decide) (by rfl) (pa_cons (pv 2) (pa_cons (pv 3) (pa_cons (pv 4) pa_nil)))))
          (pg_tup (by rfl) (pgs_cons (pg_name (i := 5) scLaw.nd rfl (.inl rfl)) (pgs_cons (pg_name (i := 6) scLaw.nd rfl (.inl rfl)) (pgs_cons (pg_name (i := 7) scLaw.nd rfl (.inl rfl)) pgs_nil))))
        (pss_cons (ps_set (i := 8) scLaw.nd rfl (.inl rfl) (C8.pe_c ch hr (by decide) (by rfl) (pa_cons (pv 5) pa_nil)))
        (pss_one (ps_if (PW.pt (pw_or (pt_cmp (pc_isN (pv 8))) (pw_or1 (pt_not (pt_chain op_le op_le (pv 6) (pv 8) (pv 7)))))) (pss_one (ps_ret pe_bl)) pss_nil))))))))))
    (pss_one (ps_ret pe_bl)), ?_⟩
  refine ⟨.ref a, rfl, a, _, rfl, .inl hS, _, 10, rfl, 2, _, rfl, ?_⟩
  generalize ht : (if (if (10 : Int) < ((ns.map V.int).length : Nat) then (10 : Int) else ((ns.map V.int).length : Nat)) > 2 then (if (10 : Int) < ((ns.map V.int).length : Nat) then (10 : Int) else ((ns.map V.int).length : Nat)) else 2) = turns
  have t0 : 0 ≤ turns ∧ turns ≤ 10 := by
    rw [← ht]
    split
    · split <;> omega
    · omega
  refine ⟨turns, rfl, by omega, by omega, for_range (lo := 0) (n := turns.toNat) (fun i σ H1 => Same H H1 ∧ ∃ y1 y2 y3 y4 y5 y6 y7 y8 : Option V, σ = [some (.ref a), y1, y2, y3, y4, y5, y6, y7, y8]) ⟨Same.refl H, none, none, none, none, none, none, none, none, rfl⟩
    (fun i σ H1 hi hP => ?_) (fun σ H1 hP => q H1)⟩
  obtain ⟨s1, y1, y2, y3, y4, y5, y6, y7, y8, rfl⟩ := hP
  refine ⟨.ref a, rfl, .int (0 + (i : Int)), rfl, a, ns, 0 + (i : Int), rfl, s1.seq hS, by omega, by omega, fun H2 pp s2 hpp P2 => ?_⟩
  refine ⟨.ref pp, rfl, pp, rfl, P2, fun H3 pc cs b3 P3 hC ok => ?_⟩
  have s3 : Same H1 H3 := same_but s2 hpp b3
  have ok12 : OkC 12 BIG cs := ok.mono (by decide) (by rw [b0_val, big_val]; omega)
  refine ⟨.ref pc, rfl, pc, cs, rfl, hC, ok12, fun H4 m s4 hn => ?_⟩
  refine ⟨.int m, rfl, false, congrArg V.bl (decide_eq_false (fun z => nomatch z)), iteF ?_⟩
  refine ⟨.ref pc, rfl, .int m, rfl, pc, cs, m, rfl, hC.same s4, ok12, hn, fun H5 s5 => ⟨true, rfl, iteF ?_⟩⟩
  refine ⟨.ref pp, rfl, .ref pc, rfl, .int m, rfl, pp, pc, cs, m, rfl, P3.same (s4.trans s5), hC.same (s4.trans s5), ok, hn, fun H6 po zs b6 ho hz hg => ?_⟩
  have s6 : Same H1 H6 := same_but (s3.trans (s4.trans s5)) hpp b6
  refine ⟨po, rfl, ⟨_, .inl (.inl ho)⟩, for_list (K := K) (xs := zs) (fun j σ H7 => Same H6 H7 ∧ ∃ y5 y6 y7 y8 : Option V, σ = [some (.ref a), some (.int (0 + (i : Int))), some (.ref pp), some (.ref pc), some (.int m), y5, y6, y7, y8])
    ⟨Same.refl H6, y5, y6, y7, y8, rfl⟩ (fun j σ H7 _ hJ => .inl (.inl (hJ.1 _ _ ho))) (fun j x σ H7 hx hJ => ?_) (fun σ H7 hJ => ?_)⟩
  · obtain ⟨s7, y5, y6, y7, y8, rfl⟩ := hJ
    obtain ⟨t, u, ds, lo, hi', rfl, htt, hCu, oku, bnd⟩ := hg x (List.mem_of_getElem? hx)
    refine ⟨t, _, rfl, .inl (.inl (s7 _ _ htt)), rfl, .ref u, [.int lo, .int hi'], rfl, .int lo, [.int hi'], rfl, .int hi', [], rfl, rfl, ?_⟩
    refine ⟨.ref u, rfl, u, ds, rfl, hCu.same s7, oku, fun H8 k s8 hk => ?_⟩
    have bd := bnd k hk
    refine ⟨.int k, rfl, false, congrArg V.bl (decide_eq_false (fun z => nomatch z)), iteF ?_⟩
    refine ⟨.int lo, rfl, .int k, rfl, lo, k, rfl, rfl, true, congrArg V.bl (decide_eq_true bd.1), iteT ?_⟩
    refine ⟨.int hi', rfl, k, hi', rfl, rfl, true, congrArg V.bl (decide_eq_true bd.2), iteF ?_⟩
    exact ⟨s7.trans s8, _, _, _, _, rfl⟩
  · obtain ⟨s7, y5, y6, y7, y8, rfl⟩ := hJ
    exact ⟨s1.trans (s6.trans s7), _, _, _, _, _, _, _, _, rfl⟩
end
end Dy
/-! DyEnd: what the top has left. -/
namespace Dy
open PySem PySem.Spec PyProof.Rows L2
section
variable {P : Program} {w : World} {K : PySem.W.Frag} {mg : Str → Option Value} {base : Heap} {f : Addr} {fd : FuncData}
theorem cal {x : Str} {st : Stmt} {ps : List Str} {k : Nat} {sp : Sp} (F : Fun K x x st f fd) (m : mg x = some (.ref f)) (b : Binds K fd ps []) (ok : FnOk P w K mg base CX0 k f fd ps sp) : C8.Cal P w K mg base k x sp [] := ⟨f, fd, ps, [], ok, m, F.kp, b, .nil⟩
theorem cal_placed (F : Fun K "_law_placed" "_law_placed" sPlaced f fd) (m : mg "_law_placed" = some (.ref f)) (b : Binds K fd ["_law_calls", "_law_hands", "_law_at", "_law_places", "_law_tried"] []) (cb : C8.Cal P w K mg base 1 "_law_beats" spBeats []) (ml : mg "len" = none) :
    ∀ N : Nat, C8.Cal P w K mg base (N + 1) "_law_placed" (spPlaced N) []
  | 0 => cal F m b ok_placed0
  | N + 1 => cal F m b (ok_placed F cb (cal_placed F m b cb ml N) ml)
end
theorem all_mk {l : PySem.W.OpenLaw} {w : World} {K : PySem.W.Frag} {h : Heap} {mg : Str → Option Value} {fa f1 f2 f3 f4 f5 f6 f7 f8 f9 f10 f11 f12 f13 f14 f15 f16 f17 f18 f19 f20 f21 f22 f23 f24 : Addr} (X : K.In h) (G : h.Ns mainGlobals mg) (hfa : mg "law" = some (.ref fa))
    {od1 an1 od2 an2 od3 an3 od4 an4 od5 an5 od6 an6 od7 an7 od8 an8 od9 an9 od10 an10 od11 an11 od12 an12 od13 an13 od14 an14 od15 an15 od16 an16 od17 an17 od18 an18 od19 an19 od20 an20 od21 an21 od22 an22 od23 an23 od24 an24 : Option Addr} {sl1 sl2 sl3 sl4 sl5 sl6 sl7 sl8 sl9 sl10 sl11 sl12 sl13 sl14 sl15 sl16 sl17 sl18 sl19 sl20 sl21 sl22 sl23 sl24 : Array (Option Value)}
    {oc1 kV1 dc1 pm1 cd1 ct1 oc2 kV2 dc2 pm2 cd2 ct2 oc3 kV3 dc3 pm3 cd3 ct3 oc4 kV4 dc4 pm4 cd4 ct4 oc5 kV5 dc5 pm5 cd5 ct5 oc6 kV6 dc6 pm6 cd6 ct6 oc7 kV7 dc7 pm7 cd7 ct7 oc8 kV8 dc8 pm8 cd8 ct8 oc9 kV9 dc9 pm9 cd9 ct9 oc10 kV10 dc10 pm10 cd10 ct10 oc11 kV11 dc11 pm11 cd11 ct11 oc12 kV12 dc12 pm12 cd12 ct12 oc13 kV13 dc13 pm13 cd13 ct13 oc14 kV14 dc14 pm14 cd14 ct14 oc15 kV15 dc15 pm15 cd15 ct15 oc16 kV16 dc16 pm16 cd16 ct16 oc17 kV17 dc17 pm17 cd17 ct17 oc18 kV18 dc18 pm18 cd18 ct18 oc19 kV19 dc19 pm19 cd19 ct19 oc20 kV20 dc20 pm20 cd20 ct20 oc21 kV21 dc21 pm21 cd21 ct21 oc22 kV22 dc22 pm22 cd22 ct22 oc23 kV23 dc23 pm23 cd23 ct23 oc24 kV24 dc24 pm24 cd24 ct24 : Value} {tB tM : Tok}
    (a1 : PySem.W.nsIn K mainGlobals "is_whole" = some (some (.ref f1))) (l1 : K.lookup f1 = some ⟨oc1, od1, .func (PySem.W.fnOf "is_whole" "is_whole" (defArgs sWhole) (defBody sWhole) (defScope sWhole) .none kV1 dc1 pm1 an1 cd1 ct1), sl1⟩) (c1 : PySem.W.codeIn K cd1 "is_whole" = true) (k1 : PySem.W.keepIn K (.ref f1) = true)
    (a2 : PySem.W.nsIn K mainGlobals "is_between" = some (some (.ref f2))) (l2 : K.lookup f2 = some ⟨oc2, od2, .func (PySem.W.fnOf "is_between" "is_between" (defArgs sBetween) (defBody sBetween) (defScope sBetween) .none kV2 dc2 pm2 an2 cd2 ct2), sl2⟩) (c2 : PySem.W.codeIn K cd2 "is_between" = true) (k2 : PySem.W.keepIn K (.ref f2) = true)
    (a3 : PySem.W.nsIn K mainGlobals "is_stretch" = some (some (.ref f3))) (l3 : K.lookup f3 = some ⟨oc3, od3, .func (PySem.W.fnOf "is_stretch" "is_stretch" (defArgs sStretch) (defBody sStretch) (defScope sStretch) .none kV3 dc3 pm3 an3 cd3 ct3), sl3⟩) (c3 : PySem.W.codeIn K cd3 "is_stretch" = true) (k3 : PySem.W.keepIn K (.ref f3) = true)
    (a4 : PySem.W.nsIn K mainGlobals "are_calls" = some (some (.ref f4))) (l4 : K.lookup f4 = some ⟨oc4, od4, .func (PySem.W.fnOf "are_calls" "are_calls" (defArgs sAre) (defBody sAre) (defScope sAre) .none kV4 dc4 pm4 an4 cd4 ct4), sl4⟩) (c4 : PySem.W.codeIn K cd4 "are_calls" = true) (k4 : PySem.W.keepIn K (.ref f4) = true)
    (a5 : PySem.W.nsIn K mainGlobals "check_calls" = some (some (.ref f5))) (l5 : K.lookup f5 = some ⟨oc5, od5, .func (PySem.W.fnOf "check_calls" "check_calls" (defArgs sCheck) (defBody sCheck) (defScope sCheck) .none kV5 dc5 pm5 an5 cd5 ct5), sl5⟩) (c5 : PySem.W.codeIn K cd5 "check_calls" = true) (k5 : PySem.W.keepIn K (.ref f5) = true)
    (a6 : PySem.W.nsIn K mainGlobals "check_many" = some (some (.ref f6))) (l6 : K.lookup f6 = some ⟨oc6, od6, .func (PySem.W.fnOf "check_many" "check_many" (defArgs sMany) (defBody sMany) (defScope sMany) .none kV6 dc6 pm6 an6 cd6 ct6), sl6⟩) (c6 : PySem.W.codeIn K cd6 "check_many" = true) (k6 : PySem.W.keepIn K (.ref f6) = true)
    (a7 : PySem.W.nsIn K mainGlobals "within" = some (some (.ref f7))) (l7 : K.lookup f7 = some ⟨oc7, od7, .func (PySem.W.fnOf "within" "within" (defArgs sWithin) (defBody sWithin) (defScope sWithin) .none kV7 dc7 pm7 an7 cd7 ct7), sl7⟩) (c7 : PySem.W.codeIn K cd7 "within" = true) (k7 : PySem.W.keepIn K (.ref f7) = true)
    (a8 : PySem.W.nsIn K mainGlobals "wanted" = some (some (.ref f8))) (l8 : K.lookup f8 = some ⟨oc8, od8, .func (PySem.W.fnOf "wanted" "wanted" (defArgs sWanted) (defBody sWanted) (defScope sWanted) .none kV8 dc8 pm8 an8 cd8 ct8), sl8⟩) (c8 : PySem.W.codeIn K cd8 "wanted" = true) (k8 : PySem.W.keepIn K (.ref f8) = true)
    (a9 : PySem.W.nsIn K mainGlobals "plan_by" = some (some (.ref f9))) (l9 : K.lookup f9 = some ⟨oc9, od9, .func (PySem.W.fnOf "plan_by" "plan_by" (defArgs sPlan) (defBody sPlan) (defScope sPlan) .none kV9 dc9 pm9 an9 cd9 ct9), sl9⟩) (c9 : PySem.W.codeIn K cd9 "plan_by" = true) (k9 : PySem.W.keepIn K (.ref f9) = true)
    (a10 : PySem.W.nsIn K mainGlobals "least_hands" = some (some (.ref f10))) (l10 : K.lookup f10 = some ⟨oc10, od10, .func (PySem.W.fnOf "least_hands" "least_hands" (defArgs sLeast) (defBody sLeast) (defScope sLeast) .none kV10 dc10 pm10 an10 cd10 ct10), sl10⟩) (c10 : PySem.W.codeIn K cd10 "least_hands" = true) (k10 : PySem.W.keepIn K (.ref f10) = true)
    (a11 : PySem.W.nsIn K mainGlobals "with_hands" = some (some (.ref f11))) (l11 : K.lookup f11 = some ⟨oc11, od11, .func (PySem.W.fnOf "with_hands" "with_hands" (defArgs sWithH) (defBody sWithH) (defScope sWithH) .none kV11 dc11 pm11 an11 cd11 ct11), sl11⟩) (c11 : PySem.W.codeIn K cd11 "with_hands" = true) (k11 : PySem.W.keepIn K (.ref f11) = true)
    (a12 : PySem.W.nsIn K mainGlobals "_law_pool" = some (some (.ref f12))) (l12 : K.lookup f12 = some ⟨oc12, od12, .func (PySem.W.fnOf "_law_pool" "_law_pool" (defArgs sPool) (defBody sPool) (defScope sPool) .none kV12 dc12 pm12 an12 cd12 ct12), sl12⟩) (c12 : PySem.W.codeIn K cd12 "_law_pool" = true) (k12 : PySem.W.keepIn K (.ref f12) = true)
    (a13 : PySem.W.nsIn K mainGlobals "_law_take" = some (some (.ref f13))) (l13 : K.lookup f13 = some ⟨oc13, od13, .func (PySem.W.fnOf "_law_take" "_law_take" (defArgs sTake) (defBody sTake) (defScope sTake) .none kV13 dc13 pm13 an13 cd13 ct13), sl13⟩) (c13 : PySem.W.codeIn K cd13 "_law_take" = true) (k13 : PySem.W.keepIn K (.ref f13) = true)
    (a14 : PySem.W.nsIn K mainGlobals "_law_drawn" = some (some (.ref f14))) (l14 : K.lookup f14 = some ⟨oc14, od14, .func (PySem.W.fnOf "_law_drawn" "_law_drawn" (defArgs sDrawn) (defBody sDrawn) (defScope sDrawn) .none kV14 dc14 pm14 an14 cd14 ct14), sl14⟩) (c14 : PySem.W.codeIn K cd14 "_law_drawn" = true) (k14 : PySem.W.keepIn K (.ref f14) = true)
    (a15 : PySem.W.nsIn K mainGlobals "_law_beats" = some (some (.ref f15))) (l15 : K.lookup f15 = some ⟨oc15, od15, .func (PySem.W.fnOf "_law_beats" "_law_beats" (defArgs sBeats) (defBody sBeats) (defScope sBeats) .none kV15 dc15 pm15 an15 cd15 ct15), sl15⟩) (c15 : PySem.W.codeIn K cd15 "_law_beats" = true) (k15 : PySem.W.keepIn K (.ref f15) = true)
    (a16 : PySem.W.nsIn K mainGlobals "_law_placed" = some (some (.ref f16))) (l16 : K.lookup f16 = some ⟨oc16, od16, .func (PySem.W.fnOf "_law_placed" "_law_placed" (defArgs sPlaced) (defBody sPlaced) (defScope sPlaced) .none kV16 dc16 pm16 an16 cd16 ct16), sl16⟩) (c16 : PySem.W.codeIn K cd16 "_law_placed" = true) (k16 : PySem.W.keepIn K (.ref f16) = true)
    (a17 : PySem.W.nsIn K mainGlobals "_law_all_placed" = some (some (.ref f17))) (l17 : K.lookup f17 = some ⟨oc17, od17, .func (PySem.W.fnOf "_law_all_placed" "_law_all_placed" (defArgs sAll) (defBody sAll) (defScope sAll) .none kV17 dc17 pm17 an17 cd17 ct17), sl17⟩) (c17 : PySem.W.codeIn K cd17 "_law_all_placed" = true) (k17 : PySem.W.keepIn K (.ref f17) = true)
    (a18 : PySem.W.nsIn K mainGlobals "_law_whole" = some (some (.ref f18))) (l18 : K.lookup f18 = some ⟨oc18, od18, .func (PySem.W.fnOf "_law_whole" "_law_whole" (defArgs sLWhole) (defBody sLWhole) (defScope sLWhole) .none kV18 dc18 pm18 an18 cd18 ct18), sl18⟩) (c18 : PySem.W.codeIn K cd18 "_law_whole" = true) (k18 : PySem.W.keepIn K (.ref f18) = true)
    (a19 : PySem.W.nsIn K mainGlobals "_law_is_plan" = some (some (.ref f19))) (l19 : K.lookup f19 = some ⟨oc19, od19, .func (PySem.W.fnOf "_law_is_plan" "_law_is_plan" (defArgs sIsPlan) (defBody sIsPlan) (defScope sIsPlan) .none kV19 dc19 pm19 an19 cd19 ct19), sl19⟩) (c19 : PySem.W.codeIn K cd19 "_law_is_plan" = true) (k19 : PySem.W.keepIn K (.ref f19) = true)
    (a20 : PySem.W.nsIn K mainGlobals "_law_is_short" = some (some (.ref f20))) (l20 : K.lookup f20 = some ⟨oc20, od20, .func (PySem.W.fnOf "_law_is_short" "_law_is_short" (defArgs sIsShort) (defBody sIsShort) (defScope sIsShort) .none kV20 dc20 pm20 an20 cd20 ct20), sl20⟩) (c20 : PySem.W.codeIn K cd20 "_law_is_short" = true) (k20 : PySem.W.keepIn K (.ref f20) = true)
    (a21 : PySem.W.nsIn K mainGlobals "_law_how" = some (some (.ref f21))) (l21 : K.lookup f21 = some ⟨oc21, od21, .func (PySem.W.fnOf "_law_how" "_law_how" (defArgs sHow) (defBody sHow) (defScope sHow) .none kV21 dc21 pm21 an21 cd21 ct21), sl21⟩) (c21 : PySem.W.codeIn K cd21 "_law_how" = true) (k21 : PySem.W.keepIn K (.ref f21) = true)
    (a22 : PySem.W.nsIn K mainGlobals "_law_some_hands" = some (some (.ref f22))) (l22 : K.lookup f22 = some ⟨oc22, od22, .func (PySem.W.fnOf "_law_some_hands" "_law_some_hands" (defArgs sSome) (defBody sSome) (defScope sSome) .none kV22 dc22 pm22 an22 cd22 ct22), sl22⟩) (c22 : PySem.W.codeIn K cd22 "_law_some_hands" = true) (k22 : PySem.W.keepIn K (.ref f22) = true)
    (a23 : PySem.W.nsIn K mainGlobals "_law_others" = some (some (.ref f23))) (l23 : K.lookup f23 = some ⟨oc23, od23, .func (PySem.W.fnOf "_law_others" "_law_others" (defArgs sOthers) (defBody sOthers) (defScope sOthers) .none kV23 dc23 pm23 an23 cd23 ct23), sl23⟩) (c23 : PySem.W.codeIn K cd23 "_law_others" = true) (k23 : PySem.W.keepIn K (.ref f23) = true)
    (a24 : PySem.W.nsIn K mainGlobals "law" = some (some (.ref f24))) (l24 : K.lookup f24 = some ⟨oc24, od24, .func (PySem.W.fnOf "law" "law" (defArgs sLaw) (defBody sLaw) (defScope sLaw) .none kV24 dc24 pm24 an24 cd24 ct24), sl24⟩) (c24 : PySem.W.codeIn K cd24 "law" = true) (k24 : PySem.W.keepIn K (.ref f24) = true)
    (gB : PySem.W.nsIn K mainGlobals "BIG" = some (some (.int 1000000000000000000000000000000 tB))) (gM : PySem.W.nsIn K mainGlobals "MOST_CALLS" = some (some (.int 12 tM)))
    (z1 : PySem.W.nsIn K mainGlobals "isinstance" = some none) (z2 : PySem.W.nsIn K mainGlobals "int" = some none) (z3 : PySem.W.nsIn K mainGlobals "bool" = some none) (z4 : PySem.W.nsIn K mainGlobals "tuple" = some none) (z5 : PySem.W.nsIn K mainGlobals "len" = some none) (z6 : PySem.W.nsIn K mainGlobals "all" = some none) (z7 : PySem.W.nsIn K mainGlobals "range" = some none) (z8 : PySem.W.nsIn K mainGlobals "sorted" = some none) (z9 : PySem.W.nsIn K mainGlobals "set" = some none) (z10 : PySem.W.nsIn K mainGlobals "list" = some none) (z11 : PySem.W.nsIn K mainGlobals "max" = some none) (z12 : PySem.W.nsIn K mainGlobals "min" = some none) (z13 : PySem.W.nsIn K mainGlobals "sum" = some none) (z14 : PySem.W.nsIn K mainGlobals "abs" = some none) (z15 : PySem.W.nsIn K mainGlobals "divmod" = some none) (z16 : PySem.W.nsIn K mainGlobals "zip" = some none) :
    ∃ fd : FuncData, (∀ (s : Shared) (v : Value), BindsTo s fd ⟨[v], []⟩ [("_law_script", v)]) ∧ ∀ base : Heap, K.In base → base.Ns mainGlobals mg → FnOk l.prog w K mg base CX0 17 fa fd ["_law_script"] (spLaw K) := by
  have e := hfa.symm.trans (PySem.W.mg_of X G a24)
  cases e
  have F1 := fun_mk (st := sWhole) l1 c1 k1
  have b1 := F1.binds (ps := ["x"]) fun _ _ _ _ _ _ us hl => match us, hl with | [_], _ => rfl
  have m1 := PySem.W.mg_of X G a1
  have F2 := fun_mk (st := sBetween) l2 c2 k2
  have b2 := F2.binds (ps := ["x", "low", "high"]) fun _ _ _ _ _ _ us hl => match us, hl with | [_, _, _], _ => rfl
  have m2 := PySem.W.mg_of X G a2
  have F3 := fun_mk (st := sStretch) l3 c3 k3
  have b3 := F3.binds (ps := ["thing", "most"]) fun _ _ _ _ _ _ us hl => match us, hl with | [_, _], _ => rfl
  have m3 := PySem.W.mg_of X G a3
  have F4 := fun_mk (st := sAre) l4 c4 k4
  have b4 := F4.binds (ps := ["thing"]) fun _ _ _ _ _ _ us hl => match us, hl with | [_], _ => rfl
  have m4 := PySem.W.mg_of X G a4
  have F5 := fun_mk (st := sCheck) l5 c5 k5
  have b5 := F5.binds (ps := ["thing"]) fun _ _ _ _ _ _ us hl => match us, hl with | [_], _ => rfl
  have m5 := PySem.W.mg_of X G a5
  have F6 := fun_mk (st := sMany) l6 c6 k6
  have b6 := F6.binds (ps := ["many"]) fun _ _ _ _ _ _ us hl => match us, hl with | [_], _ => rfl
  have m6 := PySem.W.mg_of X G a6
  have F7 := fun_mk (st := sWithin) l7 c7 k7
  have b7 := F7.binds (ps := ["calls", "first", "last"]) fun _ _ _ _ _ _ us hl => match us, hl with | [_, _, _], _ => rfl
  have m7 := PySem.W.mg_of X G a7
  have F8 := fun_mk (st := sWanted) l8 c8 k8
  have b8 := F8.binds (ps := ["calls"]) fun _ _ _ _ _ _ us hl => match us, hl with | [_], _ => rfl
  have m8 := PySem.W.mg_of X G a8
  have F9 := fun_mk (st := sPlan) l9 c9 k9
  have b9 := F9.binds (ps := ["calls", "many"]) fun _ _ _ _ _ _ us hl => match us, hl with | [_, _], _ => rfl
  have m9 := PySem.W.mg_of X G a9
  have F10 := fun_mk (st := sLeast) l10 c10 k10
  have b10 := F10.binds (ps := ["calls"]) fun _ _ _ _ _ _ us hl => match us, hl with | [_], _ => rfl
  have m10 := PySem.W.mg_of X G a10
  have F11 := fun_mk (st := sWithH) l11 c11 k11
  have b11 := F11.binds (ps := ["calls", "many"]) fun _ _ _ _ _ _ us hl => match us, hl with | [_, _], _ => rfl
  have m11 := PySem.W.mg_of X G a11
  have F12 := fun_mk (st := sPool) l12 c12 k12
  have b12 := F12.binds (ps := ["_law_script", "_law_k"]) fun _ _ _ _ _ _ us hl => match us, hl with | [_, _], _ => rfl
  have m12 := PySem.W.mg_of X G a12
  have F13 := fun_mk (st := sTake) l13 c13 k13
  have b13 := F13.binds (ps := ["_law_pool_here", "_law_many"]) fun _ _ _ _ _ _ us hl => match us, hl with | [_, _], _ => rfl
  have m13 := PySem.W.mg_of X G a13
  have F14 := fun_mk (st := sDrawn) l14 c14 k14
  have b14 := F14.binds (ps := ["_law_pool_here"]) fun _ _ _ _ _ _ us hl => match us, hl with | [_], _ => rfl
  have m14 := PySem.W.mg_of X G a14
  have F15 := fun_mk (st := sBeats) l15 c15 k15
  have b15 := F15.binds (ps := ["_law_call", "_law_many"]) fun _ _ _ _ _ _ us hl => match us, hl with | [_, _], _ => rfl
  have m15 := PySem.W.mg_of X G a15
  have F16 := fun_mk (st := sPlaced) l16 c16 k16
  have b16 := F16.binds (ps := ["_law_calls", "_law_hands", "_law_at", "_law_places", "_law_tried"]) fun _ _ _ _ _ _ us hl => match us, hl with | [_, _, _, _, _], _ => rfl
  have m16 := PySem.W.mg_of X G a16
  have F17 := fun_mk (st := sAll) l17 c17 k17
  have b17 := F17.binds (ps := ["_law_calls", "_law_hands"]) fun _ _ _ _ _ _ us hl => match us, hl with | [_, _], _ => rfl
  have m17 := PySem.W.mg_of X G a17
  have F18 := fun_mk (st := sLWhole) l18 c18 k18
  have b18 := F18.binds (ps := ["_law_thing"]) fun _ _ _ _ _ _ us hl => match us, hl with | [_], _ => rfl
  have m18 := PySem.W.mg_of X G a18
  have F19 := fun_mk (st := sIsPlan) l19 c19 k19
  have b19 := F19.binds (ps := ["_law_calls", "_law_plan", "_law_hands"]) fun _ _ _ _ _ _ us hl => match us, hl with | [_, _, _], _ => rfl
  have m19 := PySem.W.mg_of X G a19
  have F20 := fun_mk (st := sIsShort) l20 c20 k20
  have b20 := F20.binds (ps := ["_law_calls", "_law_first", "_law_last", "_law_hands"]) fun _ _ _ _ _ _ us hl => match us, hl with | [_, _, _, _], _ => rfl
  have m20 := PySem.W.mg_of X G a20
  have F21 := fun_mk (st := sHow) l21 c21 k21
  have b21 := F21.binds (ps := ["_law_calls"]) fun _ _ _ _ _ _ us hl => match us, hl with | [_], _ => rfl
  have m21 := PySem.W.mg_of X G a21
  have F22 := fun_mk (st := sSome) l22 c22 k22
  have b22 := F22.binds (ps := ["_law_calls", "_law_how_here"]) fun _ _ _ _ _ _ us hl => match us, hl with | [_, _], _ => rfl
  have m22 := PySem.W.mg_of X G a22
  have F23 := fun_mk (st := sOthers) l23 c23 k23
  have b23 := F23.binds (ps := ["_law_pool_here", "_law_calls", "_law_how_here"]) fun _ _ _ _ _ _ us hl => match us, hl with | [_, _, _], _ => rfl
  have m23 := PySem.W.mg_of X G a23
  have F24 := fun_mk (st := sLaw) l24 c24 k24
  have zisinstance := PySem.W.mg_none_of X G z1
  have zint := PySem.W.mg_none_of X G z2
  have zbool := PySem.W.mg_none_of X G z3
  have ztuple := PySem.W.mg_none_of X G z4
  have zlen := PySem.W.mg_none_of X G z5
  have zall := PySem.W.mg_none_of X G z6
  have zrange := PySem.W.mg_none_of X G z7
  have zsorted := PySem.W.mg_none_of X G z8
  have zset := PySem.W.mg_none_of X G z9
  have zlist := PySem.W.mg_none_of X G z10
  have zmax := PySem.W.mg_none_of X G z11
  have zmin := PySem.W.mg_none_of X G z12
  have zsum := PySem.W.mg_none_of X G z13
  have zabs := PySem.W.mg_none_of X G z14
  have zdivmod := PySem.W.mg_none_of X G z15
  have zzip := PySem.W.mg_none_of X G z16
  have gBig : ∃ tk, mg "BIG" = some (.int BIG tk) := ⟨tB, by rw [PySem.W.mg_of X G gB, big_val]⟩
  have gMost : ∃ tk, mg "MOST_CALLS" = some (.int 12 tk) := ⟨tM, PySem.W.mg_of X G gM⟩
  refine ⟨PySem.W.fnOf "law" "law" (defArgs sLaw) (defBody sLaw) (defScope sLaw) .none kV24 dc24 pm24 an24 cd24 ct24, fun s v => .of_eq rfl, fun base _ _ => ?_⟩
  have Cis_whole := cal F1 m1 b1 (P := l.prog) (w := w) (base := base) (ok_whole F1 zisinstance zint zbool)
  have Cis_between := cal F2 m2 b2 (P := l.prog) (w := w) (base := base) (ok_between F2 Cis_whole)
  have Cis_stretch := cal F3 m3 b3 (P := l.prog) (w := w) (base := base) (ok_stretch F3 Cis_between gBig)
  have Care_calls := cal F4 m4 b4 (P := l.prog) (w := w) (base := base) (ok_are F4 Cis_stretch gBig gMost zisinstance ztuple zlen zall zrange)
  have Ccheck_calls := cal F5 m5 b5 (P := l.prog) (w := w) (base := base) (ok_check F5 Care_calls)
  have Ccheck_many := cal F6 m6 b6 (P := l.prog) (w := w) (base := base) (ok_many F6 Cis_whole)
  have Cwithin := cal F7 m7 b7 (P := l.prog) (w := w) (base := base) (ok_within F7 zlen)
  have Cwanted := cal F8 m8 b8 (P := l.prog) (w := w) (base := base) (ok_wanted F8 Cwithin zsorted zset)
  have Cplan_by := cal F9 m9 b9 (P := l.prog) (w := w) (base := base) (ok_plan F9 zlen zlist zrange zmax zmin zsorted ztuple)
  have Cleast_hands := cal F10 m10 b10 (P := l.prog) (w := w) (base := base) (ok_least F10 Ccheck_calls Cwanted Cplan_by)
  have Cwith_hands := cal F11 m11 b11 (P := l.prog) (w := w) (base := base) (ok_withH F11 Ccheck_calls Ccheck_many Cwanted Cplan_by)
  have C_law_pool := cal F12 m12 b12 (P := l.prog) (w := w) (base := base) (ok_pool F12 zsum zabs zrange)
  have C_law_take := cal F13 m13 b13 (P := l.prog) (w := w) (base := base) (ok_take F13 zdivmod)
  have C_law_drawn := cal F14 m14 b14 (P := l.prog) (w := w) (base := base) (ok_drawn F14 C_law_take zrange ztuple zsorted)
  have C_law_beats := cal F15 m15 b15 (P := l.prog) (w := w) (base := base) (ok_beats F15 zlist zrange zmin)
  have C_law_placed := cal_placed (P := l.prog) (w := w) (base := base) F16 m16 b16 C_law_beats zlen 13
  have C_law_all_placed := cal F17 m17 b17 (P := l.prog) (w := w) (base := base) (ok_all F17 C_law_placed zall zrange zlen)
  have C_law_whole := cal F18 m18 b18 (P := l.prog) (w := w) (base := base) (ok_lwhole F18 zisinstance zint zbool)
  have C_law_is_plan := cal F19 m19 b19 (P := l.prog) (w := w) (base := base) (ok_isplan F19 C_law_whole zisinstance ztuple zlen zall zzip zmax)
  have C_law_is_short := cal F20 m20 b20 (P := l.prog) (w := w) (base := base) (ok_isshort F20 C_law_whole zlen)
  have C_law_how := cal F21 m21 b21 (P := l.prog) (w := w) (base := base) (ok_how F21 Cleast_hands C_law_whole C_law_is_plan C_law_all_placed C_law_is_short zisinstance ztuple zlen zint)
  have C_law_some_hands := cal F22 m22 b22 (P := l.prog) (w := w) (base := base) (ok_some F22 Cwith_hands C_law_is_plan C_law_is_short zisinstance ztuple zlen zrange)
  have C_law_others := cal F23 m23 b23 (P := l.prog) (w := w) (base := base) (ok_others F23 C_law_take ztuple zsorted zlen zmax)
  exact ok_law F24 C_law_pool C_law_drawn C_law_how C_law_some_hands C_law_others zrange zmax zmin zlen
end Dy
open PySem PySem.W PyProof.Rows
set_option maxRecDepth 100000 in
set_option maxHeartbeats 0 in
theorem PySem.Challenge.cw_doffyard_k40_whole_calls_grown_and_moved_holds : PySem.Challenge.rw_doffyard_k40_whole_calls_grown_and_moved.Holds := by
  w_on; o_law; k_head; (case hw => w_witness2)
  k_fill
  refine L2.walk_of (l := PySem.Challenge.rw_doffyard_k40_whole_calls_grown_and_moved) (n := 63) (k := 17) (x := "_law_script") (CX := fun _ => L2.CX0) (sp := fun w => Dy.spLaw _) rfl (by decide) rfl ⟨rfl, by decide, by decide⟩ (fun w h Y => PySem.W.kIn_of Y) ?F (fun _ _ a ns hl _ hS => ⟨a, ns, rfl, hS, hl, fun _ => rfl⟩) (fun _ _ _ _ _ h => h)
  case F =>
    intro w mg fa h KX G hmg
    refine' Dy.all_mk KX G hmg ?a1 ?l1 ?c1 ?k1 ?a2 ?l2 ?c2 ?k2 ?a3 ?l3 ?c3 ?k3 ?a4 ?l4 ?c4 ?k4 ?a5 ?l5 ?c5 ?k5 ?a6 ?l6 ?c6 ?k6 ?a7 ?l7 ?c7 ?k7 ?a8 ?l8 ?c8 ?k8 ?a9 ?l9 ?c9 ?k9 ?a10 ?l10 ?c10 ?k10 ?a11 ?l11 ?c11 ?k11 ?a12 ?l12 ?c12 ?k12 ?a13 ?l13 ?c13 ?k13 ?a14 ?l14 ?c14 ?k14 ?a15 ?l15 ?c15 ?k15 ?a16 ?l16 ?c16 ?k16 ?a17 ?l17 ?c17 ?k17 ?a18 ?l18 ?c18 ?k18 ?a19 ?l19 ?c19 ?k19 ?a20 ?l20 ?c20 ?k20 ?a21 ?l21 ?c21 ?k21 ?a22 ?l22 ?c22 ?k22 ?a23 ?l23 ?c23 ?k23 ?a24 ?l24 ?c24 ?k24 ?gB ?gM ?z1 ?z2 ?z3 ?z4 ?z5 ?z6 ?z7 ?z8 ?z9 ?z10 ?z11 ?z12 ?z13 ?z14 ?z15 ?z16
    (case a1 => k_is); (case l1 => k_is); (case c1 => k_is); (case k1 => k_is)
    (case a2 => k_is); (case l2 => k_is); (case c2 => k_is); (case k2 => k_is)
    (case a3 => k_is); (case l3 => k_is); (case c3 => k_is); (case k3 => k_is)
    (case a4 => k_is); (case l4 => k_is); (case c4 => k_is); (case k4 => k_is)
    (case a5 => k_is); (case l5 => k_is); (case c5 => k_is); (case k5 => k_is)
    (case a6 => k_is); (case l6 => k_is); (case c6 => k_is); (case k6 => k_is)
    (case a7 => k_is); (case l7 => k_is); (case c7 => k_is); (case k7 => k_is)
    (case a8 => k_is); (case l8 => k_is); (case c8 => k_is); (case k8 => k_is)
    (case a9 => k_is); (case l9 => k_is); (case c9 => k_is); (case k9 => k_is)
    (case a10 => k_is); (case l10 => k_is); (case c10 => k_is); (case k10 => k_is)
    (case a11 => k_is); (case l11 => k_is); (case c11 => k_is); (case k11 => k_is)
    (case a12 => k_is); (case l12 => k_is); (case c12 => k_is); (case k12 => k_is)
    (case a13 => k_is); (case l13 => k_is); (case c13 => k_is); (case k13 => k_is)
    (case a14 => k_is); (case l14 => k_is); (case c14 => k_is); (case k14 => k_is)
    (case a15 => k_is); (case l15 => k_is); (case c15 => k_is); (case k15 => k_is)
    (case a16 => k_is); (case l16 => k_is); (case c16 => k_is); (case k16 => k_is)
    (case a17 => k_is); (case l17 => k_is); (case c17 => k_is); (case k17 => k_is)
    (case a18 => k_is); (case l18 => k_is); (case c18 => k_is); (case k18 => k_is)
    (case a19 => k_is); (case l19 => k_is); (case c19 => k_is); (case k19 => k_is)
    (case a20 => k_is); (case l20 => k_is); (case c20 => k_is); (case k20 => k_is)
    (case a21 => k_is); (case l21 => k_is); (case c21 => k_is); (case k21 => k_is)
    (case a22 => k_is); (case l22 => k_is); (case c22 => k_is); (case k22 => k_is)
    (case a23 => k_is); (case l23 => k_is); (case c23 => k_is); (case k23 => k_is)
    (case a24 => k_is); (case l24 => k_is); (case c24 => k_is); (case k24 => k_is)
    (case gB => k_is); (case gM => k_is); (case z1 => k_is); (case z2 => k_is)
    (case z3 => k_is); (case z4 => k_is); (case z5 => k_is); (case z6 => k_is)
    (case z7 => k_is); (case z8 => k_is); (case z9 => k_is); (case z10 => k_is)
    (case z11 => k_is); (case z12 => k_is); (case z13 => k_is); (case z14 => k_is)
    (case z15 => k_is); (case z16 => k_is)
