import PyProof.Rows.All
import Wide.All
import OpenK.AllK
import Wide.FinOn
import HandS.ForMost
import HandS.Wide
import HandS.WideBits
import HandS.IsInst
import HandS.Gcd
import HandS.Property
import HandS.Zip
import HandS.Conv
import HandS.FStr
import HandS.Flow
import HandS.Defaults
import HandS.Star
import KE.KOpsOwn
import KE.KMathGC
import PyProof.ReprNest
import PySem.Challenge.RW_pairsfree_k64_whole_trials
import PyProof.ReprDict
import PyProof.ReprReads
import PyProof.StrHeap
import PyProof.CallFns
import KE.RegKIsAll
set_option Elab.async false
set_option linter.all false
set_option maxRecDepth 100000
set_option maxHeartbeats 4000000
set_option autoImplicit false
/-! Plain mathematics: sums, kernels, pivots, ranks. -/
namespace K64

/-! ### finite sums -/
def sm : Nat → (Nat → Int) → Int
  | 0, _ => 0
  | n + 1, f => sm n f + f n
theorem sm_congr {n : Nat} {f g : Nat → Int} (h : ∀ j, j < n → f j = g j) : sm n f = sm n g := by
  induction n with
  | zero => rfl
  | succ n ih =>
    show sm n f + f n = sm n g + g n
    rw [ih fun j hj => h j (Nat.lt_succ_of_lt hj), h n (Nat.lt_succ_self n)]
theorem sm_zero {n : Nat} {f : Nat → Int} (h : ∀ j, j < n → f j = 0) : sm n f = 0 := by
  induction n with
  | zero => rfl
  | succ n ih =>
    show sm n f + f n = 0
    rw [ih fun j hj => h j (Nat.lt_succ_of_lt hj), h n (Nat.lt_succ_self n)]
    rfl
theorem sm_add (n : Nat) (f g : Nat → Int) : sm n (fun j => f j + g j) = sm n f + sm n g := by
  induction n with
  | zero => rfl
  | succ n ih =>
    show sm n (fun j => f j + g j) + (f n + g n) = sm n f + f n + (sm n g + g n)
    rw [ih]
    omega
theorem sm_sub (n : Nat) (f g : Nat → Int) : sm n (fun j => f j - g j) = sm n f - sm n g := by
  induction n with
  | zero => rfl
  | succ n ih =>
    show sm n (fun j => f j - g j) + (f n - g n) = sm n f + f n - (sm n g + g n)
    rw [ih]
    omega
theorem sm_mul (n : Nat) (c : Int) (f : Nat → Int) : sm n (fun j => c * f j) = c * sm n f := by
  induction n with
  | zero => exact (Int.mul_zero c).symm
  | succ n ih =>
    show sm n (fun j => c * f j) + c * f n = c * (sm n f + f n)
    rw [ih, Int.mul_add]
theorem sm_single {n : Nat} {f : Nat → Int} {i : Nat} (hi : i < n) (h : ∀ j, j < n → j ≠ i → f j = 0) : sm n f = f i := by
  induction n with
  | zero => exact absurd hi (Nat.not_lt_zero _)
  | succ n ih =>
    show sm n f + f n = f i
    by_cases e : i = n
    · subst e
      rw [sm_zero fun j hj => h j (Nat.lt_succ_of_lt hj) (Nat.ne_of_lt hj)]
      exact Int.zero_add _
    · rw [ih (by omega) fun j hj hn => h j (Nat.lt_succ_of_lt hj) hn, h n (Nat.lt_succ_self n) (fun q => e q.symm)]
      exact Int.add_zero _
theorem sm_swap (n m : Nat) (f : Nat → Nat → Int) : sm n (fun i => sm m (fun j => f i j)) = sm m (fun j => sm n (fun i => f i j)) := by
  induction n with
  | zero =>
    show (0 : Int) = sm m (fun _ => 0)
    exact (sm_zero fun _ _ => rfl).symm
  | succ n ih =>
    show sm n (fun i => sm m (fun j => f i j)) + sm m (fun j => f n j) = sm m (fun j => sm n (fun i => f i j) + f n j)
    rw [ih, ← sm_add]

/-! ### products with a row -/
abbrev Vec := Nat → Int
def dt (n : Nat) (f x : Vec) : Int := sm n fun j => f j * x j
def rowf (r : List Int) : Vec := fun j => r.getD j 0
theorem dt_lin (n : Nat) (f x y : Vec) (a b : Int) : dt n f (fun j => a * x j + b * y j) = a * dt n f x + b * dt n f y := by
  unfold dt
  rw [← sm_mul, ← sm_mul, ← sm_add]
  exact sm_congr fun j _ => by grind
theorem dt_linL (n : Nat) (f g x : Vec) (a b : Int) : dt n (fun j => a * f j + b * g j) x = a * dt n f x + b * dt n g x := by
  unfold dt
  rw [← sm_mul, ← sm_mul, ← sm_add]
  exact sm_congr fun j _ => by grind
theorem dt_congr {n : Nat} {f g x : Vec} (h : ∀ j, j < n → f j = g j) : dt n f x = dt n g x := sm_congr fun j hj => by rw [h j hj]
/-- the idle row -/
def idle (p : Nat) : Vec := fun j => if j = p then 1 else 0
theorem dt_idle {n p : Nat} (f : Vec) (hp : p < n) : dt n f (idle p) = f p := by
  unfold dt
  rw [sm_single hp fun j _ hn => ?_]
  · show f p * (if p = p then 1 else 0) = f p
    rw [if_pos rfl, Int.mul_one]
  · show f j * (if j = p then 1 else 0) = 0
    rw [if_neg hn, Int.mul_zero]

/-! ### kernels and pivots -/
abbrev Krn := Vec → Prop
def Ker (n : Nat) (M : List (List Int)) : Krn := fun x => ∀ r ∈ M, dt n (rowf r) x = 0
def Lin (K : Krn) : Prop := ∀ x y a b, K x → K y → K fun j => a * x j + b * y j
theorem Ker.lin (n : Nat) (M : List (List Int)) : Lin (Ker n M) := fun x y a b hx hy r hr => by
  rw [dt_lin, hx r hr, hy r hr]
  omega
/-- no vector of the kernel ends at p -/
def Piv (K : Krn) (p : Nat) : Prop := ∀ x, K x → (∀ j, p < j → x j = 0) → x p = 0
open Classical in
noncomputable def cnt (K : Krn) : Nat → Nat → Nat
  | _, 0 => 0
  | p, k + 1 => (if Piv K p then 1 else 0) + cnt K (p + 1) k
/-- how many pivots there are below n -/
noncomputable def rk (n : Nat) (K : Krn) : Nat := cnt K 0 n
theorem cnt_pos {K : Krn} {p k : Nat} (h : Piv K p) : cnt K p (k + 1) = cnt K (p + 1) k + 1 := by
  rw [cnt]
  rw [if_pos h, Nat.add_comm]
theorem cnt_neg {K : Krn} {p k : Nat} (h : ¬ Piv K p) : cnt K p (k + 1) = cnt K (p + 1) k := by
  rw [cnt]
  rw [if_neg h, Nat.zero_add]
theorem cnt_congr {K L : Krn} : ∀ {k p : Nat}, (∀ q, p ≤ q → q < p + k → (Piv K q ↔ Piv L q)) → cnt K p k = cnt L p k
  | 0, _, _ => rfl
  | k + 1, p, h => by
    have ih := cnt_congr (k := k) (p := p + 1) fun q h1 h2 => h q (by omega) (by omega)
    by_cases c : Piv K p
    · rw [cnt_pos c, cnt_pos ((h p (Nat.le_refl _) (by omega)).mp c), ih]
    · rw [cnt_neg c, cnt_neg (fun z => c ((h p (Nat.le_refl _) (by omega)).mpr z)), ih]
theorem cnt_le (K : Krn) : ∀ (k p : Nat), cnt K p k ≤ k
  | 0, _ => Nat.le_refl _
  | k + 1, p => by
    have ih := cnt_le K k (p + 1)
    by_cases c : Piv K p
    · rw [cnt_pos c]; omega
    · rw [cnt_neg c]; omega
theorem rk_le (n : Nat) (K : Krn) : rk n K ≤ n := cnt_le K n 0
theorem rk_congr {n : Nat} {K L : Krn} (h : ∀ x, K x ↔ L x) : rk n K = rk n L :=
  cnt_congr fun _ _ _ => ⟨fun z x hx => z x ((h x).mpr hx), fun z x hx => z x ((h x).mp hx)⟩

/-! ### one row more -/
theorem cnt_one {K : Krn} (L : Lin K) (n : Nat) (f : Vec) : ∀ (k p : Nat), cnt (fun x => K x ∧ dt n f x = 0) p k ≤ cnt K p k + 1
  | 0, _ => Nat.zero_le _
  | k + 1, p => by
    by_cases c : Piv K p
    · have c' : Piv (fun x => K x ∧ dt n f x = 0) p := fun x hx => c x hx.1
      rw [cnt_pos c, cnt_pos c']
      have ih := cnt_one L n f k (p + 1)
      omega
    · by_cases c' : Piv (fun x => K x ∧ dt n f x = 0) p
      · rw [cnt_neg c, cnt_pos c']
        have e : cnt (fun x => K x ∧ dt n f x = 0) (p + 1) k = cnt K (p + 1) k := cnt_congr fun q h1 _ => by
          refine ⟨fun z x hx hb => ?_, fun z x hx => z x hx.1⟩
          -- a vector y of K that ends at p
          obtain ⟨y, hy⟩ : ∃ y, ¬ (K y → (∀ j, p < j → y j = 0) → y p = 0) := Classical.not_forall.mp c
          have hyK : K y := Classical.byContradiction fun w => hy fun a => absurd a w
          have hyb : ∀ j, p < j → y j = 0 := Classical.byContradiction fun w => hy fun _ a => absurd a w
          have hyp : y p ≠ 0 := fun w => hy fun _ _ => w
          have hfy : dt n f y ≠ 0 := fun w => hyp (c' y ⟨hyK, w⟩ hyb)
          have hz : (fun x => K x ∧ dt n f x = 0) (fun j => dt n f y * x j + (- dt n f x) * y j) := ⟨L x y _ _ hx hyK, by rw [dt_lin]; grind⟩
          have hq := z _ hz fun j hj => by
            show dt n f y * x j + (- dt n f x) * y j = 0
            rw [hb j hj, hyb j (by omega)]
            omega
          have hq' : dt n f y * x q + (- dt n f x) * y q = 0 := hq
          rw [hyb q (by omega), Int.mul_zero, Int.add_zero] at hq'
          exact (Int.mul_eq_zero.mp hq').resolve_left hfy
        omega
      · rw [cnt_neg c, cnt_neg c']
        exact cnt_one L n f k (p + 1)
theorem rk_cons (n : Nat) (r : List Int) (M : List (List Int)) : rk n (Ker n (r :: M)) ≤ rk n (Ker n M) + 1 := by
  have h := cnt_one (Ker.lin n M) n (rowf r) n 0
  have e : rk n (Ker n (r :: M)) = rk n (fun x => Ker n M x ∧ dt n (rowf r) x = 0) := rk_congr fun x => by
    constructor
    · intro h
      exact ⟨fun q hq => h q (List.mem_cons_of_mem _ hq), h r List.mem_cons_self⟩
    · rintro ⟨h1, h2⟩ q hq
      rcases List.mem_cons.mp hq with e | hq
      · rw [e]; exact h2
      · exact h1 q hq
  rw [e]
  exact h
theorem cnt_nil (n : Nat) : ∀ (k p : Nat), cnt (Ker n []) p k = 0
  | 0, _ => rfl
  | k + 1, p => by
    rw [cnt_neg fun h => ?_]
    · exact cnt_nil n k (p + 1)
    · have := h (idle p) (fun r hr => absurd hr List.not_mem_nil) fun j hj => by
        show (if j = p then (1 : Int) else 0) = 0
        rw [if_neg (by omega)]
      have e : (if p = p then (1 : Int) else 0) = 0 := this
      rw [if_pos rfl] at e
      exact absurd e (by decide)
theorem rk_nil (n : Nat) : rk n (Ker n []) = 0 := cnt_nil n n 0
theorem rk_len (n : Nat) : ∀ M : List (List Int), rk n (Ker n M) ≤ M.length
  | [] => by rw [rk_nil]; exact Nat.le_refl _
  | r :: M => by
    have h1 := rk_cons n r M
    have h2 := rk_len n M
    show _ ≤ M.length + 1
    omega
theorem rk_perm (n : Nat) {M N : List (List Int)} (h : ∀ r, r ∈ M ↔ r ∈ N) : rk n (Ker n M) = rk n (Ker n N) :=
  rk_congr fun _ => ⟨fun z r hr => z r ((h r).mpr hr), fun z r hr => z r ((h r).mp hr)⟩
theorem rk_app (n : Nat) (M N : List (List Int)) : rk n (Ker n (M ++ N)) ≤ rk n (Ker n M) + N.length := by
  induction N with
  | nil => rw [List.append_nil]; exact Nat.le_add_right _ _
  | cons r N ih =>
    have h := rk_cons n r (M ++ N)
    rw [rk_perm n (M := M ++ r :: N) (N := r :: (M ++ N)) fun q => by simp only [List.mem_append, List.mem_cons]; grind]
    show _ ≤ _ + (N.length + 1)
    omega
/-- a row that is not needed: the rank is below the number of rows -/
theorem rk_dep {n : Nat} {M N : List (List Int)} {r : List Int} (h : ∀ y, Ker n (M ++ N) y → dt n (rowf r) y = 0) : rk n (Ker n (M ++ r :: N)) ≤ (M ++ N).length := by
  rw [rk_congr (L := Ker n (M ++ N)) fun x => ?_]
  · exact rk_len n _
  · constructor
    · intro z q hq
      exact z q (by
        rcases List.mem_append.mp hq with w | w
        · exact List.mem_append_left _ w
        · exact List.mem_append_right _ (List.mem_cons_of_mem _ w))
    · intro z q hq
      rcases List.mem_append.mp hq with w | w
      · exact z q (List.mem_append_left _ w)
      · rcases List.mem_cons.mp w with e | w
        · rw [e]; exact h x z
        · exact z q (List.mem_append_right _ w)

/-! ### elimination, one place -/
/-- row' is a multiple of (head at p) row - (row at p) head -/
def Clr (p : Nat) (head row row' : List Int) : Prop := ∃ g : Int, g ≠ 0 ∧ ∀ j, g * rowf row' j = rowf head p * rowf row j - rowf row p * rowf head j
theorem Clr.dt {n p : Nat} {head row row' : List Int} (h : Clr p head row row') (x : Vec) : ∃ g : Int, g ≠ 0 ∧ g * K64.dt n (rowf row') x = rowf head p * K64.dt n (rowf row) x - rowf row p * K64.dt n (rowf head) x := by
  obtain ⟨g, hg, e⟩ := h
  refine ⟨g, hg, ?_⟩
  have h1 := dt_linL n (rowf row) (rowf head) x (rowf head p) (- rowf row p)
  have h2 : K64.dt n (fun j => g * rowf row' j + 0 * rowf row' j) x = K64.dt n (fun j => rowf head p * rowf row j + (- rowf row p) * rowf head j) x := dt_congr fun j _ => by
    have := e j
    grind
  rw [dt_linL] at h2
  rw [h1] at h2
  grind
theorem Clr.at {p : Nat} {head row row' : List Int} (h : Clr p head row row') : rowf row' p = 0 := by
  obtain ⟨g, hg, e⟩ := h
  have := e p
  have z : g * rowf row' p = 0 := by grind
  exact (Int.mul_eq_zero.mp z).resolve_left hg
theorem Clr.keep {p j : Nat} {head row row' : List Int} (h : Clr p head row row') (h1 : rowf head j = 0) (h2 : rowf row j = 0) : rowf row' j = 0 := by
  obtain ⟨g, hg, e⟩ := h
  have := e j
  rw [h1, h2, Int.mul_zero, Int.mul_zero] at this
  have z : g * rowf row' j = 0 := by omega
  exact (Int.mul_eq_zero.mp z).resolve_left hg
/-- all rows are noughts at the places before p -/
def Low (p : Nat) (M : List (List Int)) : Prop := ∀ r ∈ M, ∀ j, j < p → rowf r j = 0
theorem cnt_skip {n p k : Nat} {M : List (List Int)} (hp : p < n) (h : ∀ r ∈ M, rowf r p = 0) : cnt (Ker n M) p (k + 1) = cnt (Ker n M) (p + 1) k := by
  refine cnt_neg fun z => ?_
  have := z (idle p) (fun r hr => by rw [dt_idle _ hp, h r hr]) fun j hj => by
    show (if j = p then (1 : Int) else 0) = 0
    rw [if_neg (by omega)]
  have e : (if p = p then (1 : Int) else 0) = 0 := this
  rw [if_pos rfl] at e
  exact absurd e (by decide)
theorem Low.next {p : Nat} {M : List (List Int)} (l : Low p M) (h : ∀ r ∈ M, rowf r p = 0) : Low (p + 1) M := fun r hr j hj => by
  by_cases e : j = p
  · rw [e]; exact h r hr
  · exact l r hr j (by omega)
theorem cnt_head {n p k : Nat} {M M' : List (List Int)} {head : List Int} (hp : p < n) (l : Low p M) (hm : head ∈ M) (hh : rowf head p ≠ 0)
    (h1 : ∀ r ∈ M, r = head ∨ ∃ r' ∈ M', Clr p head r r') (h2 : ∀ r' ∈ M', ∃ r ∈ M, Clr p head r r') : cnt (Ker n M) p (k + 1) = cnt (Ker n M') (p + 1) k + 1 := by
  have hz : ∀ r ∈ M', rowf r p = 0 := fun r hr => by
    obtain ⟨q, _, c⟩ := h2 r hr
    exact c.at
  have c : Piv (Ker n M) p := fun x hx hb => by
    have e := hx head hm
    have e2 : dt n (rowf head) x = rowf head p * x p := by
      unfold dt
      refine sm_single hp fun j _ hn => ?_
      by_cases hj : j < p
      · show rowf head j * x j = 0
        rw [l head hm j hj, Int.zero_mul]
      · show rowf head j * x j = 0
        rw [hb j (by omega), Int.mul_zero]
    rw [e2] at e
    exact (Int.mul_eq_zero.mp e).resolve_left hh
  rw [cnt_pos c]
  refine congrArg (· + 1) (cnt_congr fun q hq _ => ⟨fun z x hx hb => ?_, fun z x hx hb => ?_⟩)
  · -- from x of the lesser kernel to a vector of the greater one, with the same end
    have hy := z (fun j => rowf head p * x j + (- dt n (rowf head) x) * idle p j) (fun r hr => ?_) (fun j hj => ?_)
    · have hy' : rowf head p * x q + (- dt n (rowf head) x) * (if q = p then 1 else 0) = 0 := hy
      rw [if_neg (by omega), Int.mul_zero, Int.add_zero] at hy'
      exact (Int.mul_eq_zero.mp hy').resolve_left hh
    · have dh : dt n (rowf head) (fun j => rowf head p * x j + (- dt n (rowf head) x) * idle p j) = 0 := by
        rw [dt_lin, dt_idle _ hp]
        grind
      rcases h1 r hr with e | ⟨r', hr', cl⟩
      · rw [e]; exact dh
      · obtain ⟨g, hg, e⟩ := cl.dt (n := n) (fun j => rowf head p * x j + (- dt n (rowf head) x) * idle p j)
        have e0 : dt n (rowf r') (fun j => rowf head p * x j + (- dt n (rowf head) x) * idle p j) = 0 := by
          rw [dt_lin, dt_idle _ hp, hz r' hr', hx r' hr']
          omega
        rw [e0, dh, Int.mul_zero, Int.mul_zero, Int.sub_zero] at e
        exact (Int.mul_eq_zero.mp e.symm).resolve_left hh
    · show rowf head p * x j + (- dt n (rowf head) x) * (if j = p then 1 else 0) = 0
      rw [hb j hj, if_neg (by omega)]
      omega
  · refine z x (fun r' hr' => ?_) hb
    obtain ⟨r, hr, cl⟩ := h2 r' hr'
    obtain ⟨g, hg, e⟩ := cl.dt (n := n) x
    rw [hx r hr, hx head hm] at e
    have e' : g * dt n (rowf r') x = 0 := by omega
    exact (Int.mul_eq_zero.mp e').resolve_left hg
theorem Low.clear {p : Nat} {M M' : List (List Int)} {head : List Int} (l : Low p M) (hm : head ∈ M) (h2 : ∀ r' ∈ M', ∃ r ∈ M, Clr p head r r') : Low (p + 1) M' := fun r' hr' j hj => by
  obtain ⟨r, hr, c⟩ := h2 r' hr'
  by_cases e : j = p
  · rw [e]; exact c.at
  · exact c.keep (l head hm j (by omega)) (l r hr j (by omega))

/-! ### rows times numbers -/
theorem rk_scale {n : Nat} {M N : List (List Int)} (h1 : ∀ r ∈ M, ∃ q ∈ N, ∃ a b : Int, a ≠ 0 ∧ b ≠ 0 ∧ ∀ j, j < n → a * rowf r j = b * rowf q j)
    (h2 : ∀ q ∈ N, ∃ r ∈ M, ∃ a b : Int, a ≠ 0 ∧ b ≠ 0 ∧ ∀ j, j < n → a * rowf r j = b * rowf q j) : rk n (Ker n M) = rk n (Ker n N) := by
  have key : ∀ {r q : List Int} {a b : Int} (x : Vec), (∀ j, j < n → a * rowf r j = b * rowf q j) → a * dt n (rowf r) x = b * dt n (rowf q) x := fun {r q a b} x h => by
    have e : dt n (fun j => a * rowf r j + 0 * rowf r j) x = dt n (fun j => b * rowf q j + 0 * rowf q j) x := dt_congr fun j hj => by
      have := h j hj
      grind
    rw [dt_linL, dt_linL] at e
    omega
  refine rk_congr fun x => ⟨fun hx q hq => ?_, fun hx r hr => ?_⟩
  · obtain ⟨r, hr, a, b, _, hb, h⟩ := h2 q hq
    have e := key x h
    rw [hx r hr, Int.mul_zero] at e
    exact (Int.mul_eq_zero.mp e.symm).resolve_left hb
  · obtain ⟨q, hq, a, b, ha, _, h⟩ := h1 r hr
    have e := key x h
    rw [hx q hq, Int.mul_zero] at e
    exact (Int.mul_eq_zero.mp e).resolve_left ha
end K64
/-! Lots, levels, the greatest number, the turned sum's kernel. -/
namespace K64

/-- pairs of rows -/
abbrev Own := List (List Int × List Int)
def fstR (own : Own) (i : Nat) : List Int := (own.getD i ([], [])).1
def sndR (own : Own) (i : Nat) : List Int := (own.getD i ([], [])).2
def rowsOf (own : Own) (lot : List Nat) : List (List Int) := lot.flatMap fun i => [fstR own i, sndR own i]
theorem rowsOf_app (own : Own) (l k : List Nat) : rowsOf own (l ++ k) = rowsOf own l ++ rowsOf own k := List.flatMap_append
theorem rowsOf_len (own : Own) : ∀ lot : List Nat, (rowsOf own lot).length = 2 * lot.length
  | [] => rfl
  | i :: l => by
    have ih := rowsOf_len own l
    show ([fstR own i, sndR own i] ++ rowsOf own l).length = 2 * (l.length + 1)
    rw [List.length_append, ih]
    show 2 + _ = _
    omega
/-- the lot is free -/
def Free (n : Nat) (own : Own) (lot : List Nat) : Prop := rk n (Ker n (rowsOf own lot)) = 2 * lot.length
theorem Free.nil (n : Nat) (own : Own) : Free n own [] := rk_nil n
theorem Free.init {n : Nat} {own : Own} {lot : List Nat} {p : Nat} (h : Free n own (lot ++ [p])) : Free n own lot := by
  have h1 : rk n (Ker n (rowsOf own lot ++ rowsOf own [p])) ≤ _ := rk_app n _ _
  have h2 := rk_len n (rowsOf own lot)
  have h3 : rk n (Ker n (rowsOf own (lot ++ [p]))) = 2 * (lot ++ [p]).length := h
  rw [rowsOf_app] at h3
  rw [rowsOf_len] at h1 h2
  rw [List.length_append] at h3
  have e1 : ([p] : List Nat).length = 1 := rfl
  rw [e1] at h1 h3
  show rk n _ = _
  omega
theorem Free.size {n : Nat} {own : Own} {lot : List Nat} (h : Free n own lot) : 2 * lot.length ≤ n := by
  have := rk_le n (Ker n (rowsOf own lot))
  have h' : rk n (Ker n (rowsOf own lot)) = 2 * lot.length := h
  omega
open Classical in
noncomputable def freeB (n : Nat) (own : Own) (lot : List Nat) : Bool := decide (Free n own lot)
theorem freeB_iff {n : Nat} {own : Own} {lot : List Nat} : freeB n own lot = true ↔ Free n own lot := by
  simp [freeB]

/-! ### longer lots -/
def nxt (lot : List Nat) : Nat := match lot.getLast? with
  | none => 0
  | some z => z + 1
/-- the places that may come behind -/
def tails (m : Nat) (lot : List Nat) : List Nat := List.range' (nxt lot) (m - nxt lot)
theorem mem_tails {m p : Nat} {lot : List Nat} : p ∈ tails m lot ↔ nxt lot ≤ p ∧ p < m := by
  unfold tails
  rw [List.mem_range'_1]
  omega
def grow (m : Nat) (L : List (List Nat)) : List (List Nat) := L.flatMap fun lot => (tails m lot).map fun p => lot ++ [p]
noncomputable def longer (n : Nat) (own : Own) (L : List (List Nat)) : List (List Nat) :=
  L.flatMap fun lot => ((tails own.length lot).filter fun p => freeB n own (lot ++ [p])).map fun p => lot ++ [p]
theorem mem_grow {m : Nat} {L : List (List Nat)} {x : List Nat} : x ∈ grow m L ↔ ∃ lot ∈ L, ∃ p ∈ tails m lot, x = lot ++ [p] := by
  unfold grow
  simp only [List.mem_flatMap, List.mem_map]
  constructor
  · rintro ⟨l, h1, p, h2, e⟩; exact ⟨l, h1, p, h2, e.symm⟩
  · rintro ⟨l, h1, p, h2, e⟩; exact ⟨l, h1, p, h2, e.symm⟩
theorem mem_longer {n : Nat} {own : Own} {L : List (List Nat)} {x : List Nat} : x ∈ longer n own L ↔ ∃ lot ∈ L, ∃ p ∈ tails own.length lot, x = lot ++ [p] ∧ Free n own x := by
  unfold longer
  simp only [List.mem_flatMap, List.mem_map, List.mem_filter]
  constructor
  · rintro ⟨l, h1, p, ⟨h2, h3⟩, e⟩
    exact ⟨l, h1, p, h2, e.symm, by rw [← e]; exact freeB_iff.mp h3⟩
  · rintro ⟨l, h1, p, h2, e, h3⟩
    exact ⟨l, h1, p, ⟨h2, freeB_iff.mpr (by rw [← e]; exact h3)⟩, e.symm⟩
/-- all lots of s positions; the free ones -/
def lots (m : Nat) : Nat → List (List Nat)
  | 0 => [[]]
  | s + 1 => grow m (lots m s)
noncomputable def lev (n : Nat) (own : Own) : Nat → List (List Nat)
  | 0 => [[]]
  | s + 1 => longer n own (lev n own s)
theorem mem_lev {n : Nat} {own : Own} : ∀ {s : Nat} {x : List Nat}, x ∈ lev n own s ↔ x ∈ lots own.length s ∧ Free n own x
  | 0, x => by
    show x ∈ [[]] ↔ x ∈ [[]] ∧ _
    rw [List.mem_singleton]
    constructor
    · rintro rfl; exact ⟨rfl, Free.nil n own⟩
    · exact fun h => h.1
  | s + 1, x => by
    show x ∈ longer n own (lev n own s) ↔ x ∈ grow own.length (lots own.length s) ∧ _
    rw [mem_longer, mem_grow]
    constructor
    · rintro ⟨l, h1, p, h2, e, f⟩
      exact ⟨⟨l, (mem_lev.mp h1).1, p, h2, e⟩, f⟩
    · rintro ⟨⟨l, h1, p, h2, e⟩, f⟩
      exact ⟨l, mem_lev.mpr ⟨h1, by rw [e] at f; exact f.init⟩, p, h2, e, f⟩
theorem nxt_app (l : List Nat) (p : Nat) : nxt (l ++ [p]) = p + 1 := by
  unfold nxt
  rw [List.getLast?_append]
  rfl
theorem lots_ok {m : Nat} : ∀ {s : Nat} {x : List Nat}, x ∈ lots m s → x.length = s ∧ (∀ i ∈ x, i < m) ∧ s ≤ nxt x ∧ nxt x ≤ m
  | 0, x, h => by
    have e : x = [] := List.mem_singleton.mp h
    subst e
    exact ⟨rfl, fun _ h => absurd h List.not_mem_nil, Nat.zero_le _, Nat.zero_le _⟩
  | s + 1, x, h => by
    obtain ⟨l, h1, p, h2, e⟩ := mem_grow.mp h
    obtain ⟨a, b, c, d⟩ := lots_ok h1
    obtain ⟨h3, h4⟩ := mem_tails.mp h2
    subst e
    refine ⟨by rw [List.length_append, a]; rfl, fun i hi => ?_, by rw [nxt_app]; omega, by rw [nxt_app]; omega⟩
    rcases List.mem_append.mp hi with z | z
    · exact b i z
    · rw [List.mem_singleton.mp z]; exact h4
theorem lots_le {m s : Nat} {x : List Nat} (h : x ∈ lots m s) : s ≤ m := by
  have := lots_ok h
  omega
theorem longer_nil (n : Nat) (own : Own) : longer n own [] = [] := rfl
theorem lev_nil_of {n : Nat} {own : Own} {j k : Nat} (h : lev n own j = []) (hk : j ≤ k) : lev n own k = [] := by
  induction k with
  | zero =>
    have e : j = 0 := by omega
    rw [← e]; exact h
  | succ k ih =>
    by_cases e : j = k + 1
    · rw [← e]; exact h
    · show longer n own (lev n own k) = []
      rw [ih (by omega), longer_nil]
/-- the last level that is not empty -/
def IsG (n : Nat) (own : Own) (k : Nat) : Prop := lev n own k ≠ [] ∧ lev n own (k + 1) = []
theorem IsG.uniq {n : Nat} {own : Own} {j k : Nat} (a : IsG n own j) (b : IsG n own k) : j = k := by
  rcases Nat.lt_trichotomy j k with h | h | h
  · exact absurd (lev_nil_of a.2 h) b.1
  · exact h
  · exact absurd (lev_nil_of b.2 h) a.1
theorem lev_le {n : Nat} {own : Own} {k : Nat} (h : lev n own k ≠ []) : k ≤ own.length := by
  obtain ⟨x, hx⟩ := List.exists_mem_of_ne_nil _ h
  exact lots_le (mem_lev.mp hx).1
theorem IsG.ex (n : Nat) (own : Own) : ∃ k, IsG n own k := by
  refine Classical.byContradiction fun h => ?_
  have all : ∀ k, lev n own k ≠ [] := fun k => by
    induction k with
    | zero => exact List.cons_ne_nil _ _
    | succ k ih => exact fun z => h ⟨k, ih, z⟩
  have := lev_le (all (own.length + 1))
  omega
noncomputable def gnum (n : Nat) (own : Own) : Nat := Classical.choose (IsG.ex n own)
theorem gnum_is (n : Nat) (own : Own) : IsG n own (gnum n own) := Classical.choose_spec (IsG.ex n own)
theorem gnum_eq {n : Nat} {own : Own} {k : Nat} (h : IsG n own k) : k = gnum n own := h.uniq (gnum_is n own)
theorem gnum_le (n : Nat) (own : Own) : gnum n own ≤ own.length := lev_le (gnum_is n own).1
/-- some lot of s positions is free just up to the greatest number -/
theorem free_some {n : Nat} {own : Own} {s : Nat} : (∃ x ∈ lots own.length s, Free n own x) ↔ s ≤ gnum n own := by
  constructor
  · rintro ⟨x, h1, h2⟩
    refine Nat.le_of_not_lt fun q => ?_
    have e := lev_nil_of (gnum_is n own).2 (k := s) q
    have := mem_lev.mpr ⟨h1, h2⟩
    rw [e] at this
    exact absurd this List.not_mem_nil
  · intro h
    have : lev n own s ≠ [] := fun e => (gnum_is n own).1 (lev_nil_of e h)
    obtain ⟨x, hx⟩ := List.exists_mem_of_ne_nil _ this
    exact ⟨x, mem_lev.mp hx⟩
/-- the first greatest lot -/
noncomputable def lot0 (n : Nat) (own : Own) : List Nat := (lev n own (gnum n own)).headD []
theorem lot0_mem (n : Nat) (own : Own) : lot0 n own ∈ lev n own (gnum n own) := by
  have h := (gnum_is n own).1
  unfold lot0
  cases e : lev n own (gnum n own) with
  | nil => exact absurd e h
  | cons a l => exact List.mem_cons_self
theorem lot0_len (n : Nat) (own : Own) : (lot0 n own).length = gnum n own := (lots_ok (mem_lev.mp (lot0_mem n own)).1).1
theorem lot0_lt (n : Nat) (own : Own) : ∀ i ∈ lot0 n own, i < own.length := (lots_ok (mem_lev.mp (lot0_mem n own)).1).2.1
theorem lot0_free (n : Nat) (own : Own) : Free n own (lot0 n own) := (mem_lev.mp (lot0_mem n own)).2

/-! ### the turned sum -/
def trn (own : Own) (c : Nat → Int) (p q : Nat) : Int := sm own.length fun i => c i * (rowf (fstR own i) p * rowf (sndR own i) q - rowf (sndR own i) p * rowf (fstR own i) q)
def KerT (n : Nat) (own : Own) (c : Nat → Int) : Krn := fun x => ∀ p, p < n → dt n (trn own c p) x = 0
noncomputable def rkT (n : Nat) (own : Own) (c : Nat → Int) : Nat := rk n (KerT n own c)
theorem trn_dt (n : Nat) (own : Own) (c : Nat → Int) (p : Nat) (x : Vec) : dt n (trn own c p) x =
    sm own.length fun i => c i * (rowf (fstR own i) p * dt n (rowf (sndR own i)) x - rowf (sndR own i) p * dt n (rowf (fstR own i)) x) := by
  have e1 : dt n (trn own c p) x = sm n fun q => sm own.length fun i => (c i * (rowf (fstR own i) p * rowf (sndR own i) q - rowf (sndR own i) p * rowf (fstR own i) q)) * x q := by
    unfold dt
    refine sm_congr fun q _ => ?_
    show sm own.length _ * x q = _
    rw [Int.mul_comm, ← sm_mul]
    exact sm_congr fun i _ => Int.mul_comm _ _
  rw [e1, sm_swap]
  refine sm_congr fun i _ => ?_
  have e2 : (fun q => (c i * (rowf (fstR own i) p * rowf (sndR own i) q - rowf (sndR own i) p * rowf (fstR own i) q)) * x q) =
      fun q => (c i * rowf (fstR own i) p) * (rowf (sndR own i) q * x q) - (c i * rowf (sndR own i) p) * (rowf (fstR own i) q * x q) := funext fun q => by grind
  rw [e2, sm_sub, sm_mul, sm_mul]
  show _ * dt n (rowf (sndR own i)) x - _ * dt n (rowf (fstR own i)) x = _
  grind
/-- the form of the sum at two vectors -/
theorem trn_form (n : Nat) (own : Own) (c : Nat → Int) (x y : Vec) (h : KerT n own c x) :
    (sm own.length fun i => c i * (dt n (rowf (fstR own i)) y * dt n (rowf (sndR own i)) x - dt n (rowf (sndR own i)) y * dt n (rowf (fstR own i)) x)) = 0 := by
  have e : sm n (fun p => y p * dt n (trn own c p) x) = 0 := sm_zero fun p hp => by rw [h p hp, Int.mul_zero]
  rw [← e]
  have e1 : ∀ p, y p * dt n (trn own c p) x = sm own.length fun i => y p * (c i * (rowf (fstR own i) p * dt n (rowf (sndR own i)) x - rowf (sndR own i) p * dt n (rowf (fstR own i)) x)) := fun p => by
    rw [trn_dt, ← sm_mul]
  rw [sm_congr fun p _ => e1 p, sm_swap]
  refine sm_congr fun i _ => ?_
  have e2 : (fun p => y p * (c i * (rowf (fstR own i) p * dt n (rowf (sndR own i)) x - rowf (sndR own i) p * dt n (rowf (fstR own i)) x))) =
      fun p => (c i * dt n (rowf (sndR own i)) x) * (rowf (fstR own i) p * y p) - (c i * dt n (rowf (fstR own i)) x) * (rowf (sndR own i) p * y p) := funext fun p => by grind
  rw [e2, sm_sub, sm_mul, sm_mul]
  show _ = _ * dt n (rowf (fstR own i)) y - _ * dt n (rowf (sndR own i)) y
  grind
theorem mem_rowsOf {own : Own} {lot : List Nat} {r : List Int} : r ∈ rowsOf own lot ↔ ∃ i ∈ lot, r = fstR own i ∨ r = sndR own i := by
  unfold rowsOf
  simp only [List.mem_flatMap, List.mem_cons, List.not_mem_nil, or_false]
/-- with c other than 0 just at a free lot the sum has the lot's rank -/
theorem rkT_free {n : Nat} {own : Own} {lot : List Nat} {c : Nat → Int} (hF : Free n own lot) (hl : ∀ i ∈ lot, i < own.length) (h1 : ∀ i ∈ lot, c i ≠ 0) (h0 : ∀ i, i < own.length → i ∉ lot → c i = 0) :
    rkT n own c = 2 * lot.length := by
  have hF' : rk n (Ker n (rowsOf own lot)) = 2 * lot.length := hF
  rw [← hF']
  refine rk_congr fun x => ⟨fun hx => ?_, fun hx p hp => ?_⟩
  · intro r hr
    refine Classical.byContradiction fun hne => ?_
    obtain ⟨i, hi, hri⟩ := mem_rowsOf.mp hr
    obtain ⟨l1, l2, e⟩ := List.append_of_mem hi
    have key : ∀ y : Vec, (∀ j ∈ lot, j ≠ i → dt n (rowf (fstR own j)) y = 0 ∧ dt n (rowf (sndR own j)) y = 0) →
        c i * (dt n (rowf (fstR own i)) y * dt n (rowf (sndR own i)) x - dt n (rowf (sndR own i)) y * dt n (rowf (fstR own i)) x) = 0 := fun y hy => by
      rw [← trn_form n own c x y hx]
      refine (sm_single (f := fun i => c i * (dt n (rowf (fstR own i)) y * dt n (rowf (sndR own i)) x - dt n (rowf (sndR own i)) y * dt n (rowf (fstR own i)) x)) (hl i hi) fun j hj hn => ?_).symm
      by_cases hm : j ∈ lot
      · obtain ⟨z1, z2⟩ := hy j hm hn
        show c j * (dt n (rowf (fstR own j)) y * _ - dt n (rowf (sndR own j)) y * _) = 0
        rw [z1, z2, Int.zero_mul, Int.zero_mul, Int.sub_self, Int.mul_zero]
      · show c j * _ = 0
        rw [h0 j hj hm, Int.zero_mul]
    have others : ∀ {y : Vec} {M N : List (List Int)}, (∀ r ∈ rowsOf own l1, r ∈ M ++ N) → (∀ r ∈ rowsOf own l2, r ∈ M ++ N) → Ker n (M ++ N) y → ∀ j ∈ lot, j ≠ i → dt n (rowf (fstR own j)) y = 0 ∧ dt n (rowf (sndR own j)) y = 0 := fun {y M N} g1 g2 hy j hj hn => by
      rw [e] at hj
      rcases List.mem_append.mp hj with z | z
      · exact ⟨hy _ (g1 _ (mem_rowsOf.mpr ⟨j, z, .inl rfl⟩)), hy _ (g1 _ (mem_rowsOf.mpr ⟨j, z, .inr rfl⟩))⟩
      · rcases List.mem_cons.mp z with z | z
        · exact absurd z hn
        · exact ⟨hy _ (g2 _ (mem_rowsOf.mpr ⟨j, z, .inl rfl⟩)), hy _ (g2 _ (mem_rowsOf.mpr ⟨j, z, .inr rfl⟩))⟩
    have eR : rowsOf own lot = rowsOf own l1 ++ fstR own i :: (sndR own i :: rowsOf own l2) := by
      rw [e, rowsOf_app]
      rfl
    have eR2 : rowsOf own lot = (rowsOf own l1 ++ [fstR own i]) ++ sndR own i :: rowsOf own l2 := by
      rw [eR, List.append_assoc]
      rfl
    have len : (rowsOf own lot).length = 2 * lot.length := rowsOf_len own lot
    rcases hri with rfl | rfl
    · -- the second row hangs on the others
      have d := rk_dep (n := n) (M := rowsOf own l1 ++ [fstR own i]) (N := rowsOf own l2) (r := sndR own i) fun y hy => by
        have k := key y (others (M := rowsOf own l1 ++ [fstR own i]) (N := rowsOf own l2) (fun r hr => List.mem_append_left _ (List.mem_append_left _ hr)) (fun r hr => List.mem_append_right _ hr) hy)
        have z : dt n (rowf (fstR own i)) y = 0 := hy _ (List.mem_append_left _ (List.mem_append_right _ (List.mem_singleton_self _)))
        rw [z, Int.zero_mul, Int.zero_sub] at k
        have k2 := (Int.mul_eq_zero.mp k).resolve_left (h1 i hi)
        have k3 : dt n (rowf (sndR own i)) y * dt n (rowf (fstR own i)) x = 0 := by omega
        exact (Int.mul_eq_zero.mp k3).resolve_right hne
      rw [← eR2, hF'] at d
      have : (rowsOf own lot).length = (rowsOf own l1 ++ [fstR own i] ++ rowsOf own l2).length + 1 := by
        rw [eR2]
        simp only [List.length_append, List.length_cons, List.length_nil]
        omega
      omega
    · have d := rk_dep (n := n) (M := rowsOf own l1) (N := sndR own i :: rowsOf own l2) (r := fstR own i) fun y hy => by
        have k := key y (others (M := rowsOf own l1) (N := sndR own i :: rowsOf own l2) (fun r hr => List.mem_append_left _ hr) (fun r hr => List.mem_append_right _ (List.mem_cons_of_mem _ hr)) hy)
        have z : dt n (rowf (sndR own i)) y = 0 := hy _ (List.mem_append_right _ List.mem_cons_self)
        rw [z, Int.zero_mul, Int.sub_zero] at k
        have k2 := (Int.mul_eq_zero.mp k).resolve_left (h1 i hi)
        exact (Int.mul_eq_zero.mp k2).resolve_right hne
      rw [← eR, hF'] at d
      have : (rowsOf own lot).length = (rowsOf own l1 ++ sndR own i :: rowsOf own l2).length + 1 := by
        rw [eR]
        simp only [List.length_append, List.length_cons]
        omega
      omega
  · rw [trn_dt]
    refine sm_zero fun i hi => ?_
    by_cases hm : i ∈ lot
    · rw [hx _ (mem_rowsOf.mpr ⟨i, hm, .inl rfl⟩), hx _ (mem_rowsOf.mpr ⟨i, hm, .inr rfl⟩), Int.mul_zero, Int.mul_zero, Int.sub_self, Int.mul_zero]
    · rw [h0 i hi hm, Int.zero_mul]
/-- rows that are multiples of the sum's rows -/
theorem rkT_of {n : Nat} {own : Own} {c : Nat → Int} {M : List (List Int)} (hl : M.length = n) (h : ∀ p r, M[p]? = some r → ∃ a b : Int, a ≠ 0 ∧ b ≠ 0 ∧ ∀ q, q < n → a * rowf r q = b * trn own c p q) :
    rk n (Ker n M) = rkT n own c := by
  have key : ∀ {f g : Vec} {a b : Int} (x : Vec), (∀ j, j < n → a * f j = b * g j) → a * dt n f x = b * dt n g x := fun {f g a b} x h => by
    have e : dt n (fun j => a * f j + 0 * f j) x = dt n (fun j => b * g j + 0 * g j) x := dt_congr fun j hj => by
      have := h j hj
      grind
    rw [dt_linL, dt_linL] at e
    omega
  refine rk_congr fun x => ⟨fun hx p hp => ?_, fun hx r hr => ?_⟩
  · obtain ⟨r, hr⟩ : ∃ r, M[p]? = some r := ⟨M[p]'(by omega), List.getElem?_eq_getElem (by omega)⟩
    obtain ⟨a, b, _, hb, e⟩ := h p r hr
    have k := key x e
    rw [hx r (List.mem_of_getElem? hr), Int.mul_zero] at k
    exact (Int.mul_eq_zero.mp k.symm).resolve_left hb
  · obtain ⟨p, hp⟩ := List.mem_iff_getElem?.mp hr
    obtain ⟨a, b, ha, _, e⟩ := h p r hp
    have k := key x e
    have lt : p < n := by
      have := (List.getElem?_eq_some_iff.mp hp).1
      omega
    rw [hx p lt, Int.mul_zero] at k
    exact (Int.mul_eq_zero.mp k).resolve_left ha
end K64
/-! A calculus of plain data over the hand layer: abstract states of slots, what an expression comes to, what a block comes to. -/
namespace K64
open PySem L2

/-! ### data -/
inductive Dat where
  | non | bl (b : Bool) | int (i : Int) | str (s : Str) | dic
  | lst (ds : List Dat) | tup (ds : List Dat)
  | rat (t b : Int)
  | prs (rws siz its : Dat)
  deriving Inhabited
/-- the addresses of the two classes -/
structure Ad where
  R : Addr
  P : Addr
mutual
def Is (A : Ad) (B : Hp) : Dat → V → Prop
  | .non, v => v = .non
  | .bl b, v => v = .bl b
  | .int i, v => v = .int i
  | .str s, v => v = .str s
  | .dic, v => ∃ a, v = .ref a ∧ B a = some (.dK [])
  | .lst ds, v => ∃ a xs, v = .ref a ∧ B a = some (.lst xs) ∧ Iss A B ds xs
  | .tup ds, v => ∃ a xs, v = .ref a ∧ B a = some (.tup xs) ∧ Iss A B ds xs
  | .rat t b, v => ∃ a dx, v = .ref a ∧ B a = some (.ins A.R dx [("own_top", .int t), ("own_bottom", .int b)])
  | .prs r n i, v => ∃ a dx v1 v2 v3, v = .ref a ∧ B a = some (.ins A.P dx [("own_rows", v1), ("own_size", v2), ("own_ints", v3)]) ∧ Is A B r v1 ∧ Is A B n v2 ∧ Is A B i v3
def Iss (A : Ad) (B : Hp) : List Dat → List V → Prop
  | [], vs => vs = []
  | d :: ds, vs => ∃ v r, vs = v :: r ∧ Is A B d v ∧ Iss A B ds r
end
/-- the heap keeps -/
def Ex (H H' : Hp) : Prop := ∀ a o, H a = some o → H' a = some o
theorem Ex.refl (H : Hp) : Ex H H := fun _ _ h => h
theorem Ex.trans {H H1 H2 : Hp} (a : Ex H H1) (b : Ex H1 H2) : Ex H H2 := fun x o h => b x o (a x o h)
theorem Ex.new {H : Hp} {p : Addr} {o : HO} (h : H p = none) : Ex H (upd H p o) := fun a u e => by
  rw [upd_ne (ne_of_none e h)]; exact e
theorem Ex.back {H H' : Hp} {p : Addr} (e : Ex H H') (h : H' p = none) : H p = none := by
  cases h1 : H p with
  | none => rfl
  | some o => rw [e p o h1] at h; cases h
/-- what the lesser heap does not know may change -/
theorem Ex.mut {B H : Hp} {p : Addr} {o : HO} (e : Ex B H) (h : B p = none) : Ex B (upd H p o) := fun a u q => by
  rw [upd_ne (ne_of_none q h)]; exact e a u q

section
variable {A : Ad}
mutual
theorem Is.mono {B B' : Hp} (e : Ex B B') : ∀ {d : Dat} {v : V}, Is A B d v → Is A B' d v
  | .non, _, h => h
  | .bl _, _, h => h
  | .int _, _, h => h
  | .str _, _, h => h
  | .dic, _, ⟨a, h1, h2⟩ => ⟨a, h1, e _ _ h2⟩
  | .lst _, _, ⟨a, xs, h1, h2, h3⟩ => ⟨a, xs, h1, e _ _ h2, Iss.mono e h3⟩
  | .tup _, _, ⟨a, xs, h1, h2, h3⟩ => ⟨a, xs, h1, e _ _ h2, Iss.mono e h3⟩
  | .rat _ _, _, ⟨a, dx, h1, h2⟩ => ⟨a, dx, h1, e _ _ h2⟩
  | .prs _ _ _, _, ⟨a, dx, v1, v2, v3, h1, h2, h3, h4, h5⟩ => ⟨a, dx, v1, v2, v3, h1, e _ _ h2, Is.mono e h3, Is.mono e h4, Is.mono e h5⟩
theorem Iss.mono {B B' : Hp} (e : Ex B B') : ∀ {ds : List Dat} {vs : List V}, Iss A B ds vs → Iss A B' ds vs
  | [], _, h => h
  | _ :: _, _, ⟨v, r, h1, h2, h3⟩ => ⟨v, r, h1, Is.mono e h2, Iss.mono e h3⟩
end
theorem Iss.nil {B : Hp} : Iss A B [] [] := rfl
theorem Iss.cons {B : Hp} {d : Dat} {ds : List Dat} {v : V} {vs : List V} (h : Is A B d v) (t : Iss A B ds vs) : Iss A B (d :: ds) (v :: vs) := ⟨v, vs, rfl, h, t⟩
theorem Iss.len {B : Hp} : ∀ {ds : List Dat} {vs : List V}, Iss A B ds vs → ds.length = vs.length
  | [], _, h => by cases h; rfl
  | _ :: _, _, ⟨v, r, h1, _, h3⟩ => by cases h1; exact congrArg (· + 1) (Iss.len h3)
theorem Iss.at {B : Hp} : ∀ {ds : List Dat} {vs : List V} {i : Nat} {d : Dat}, Iss A B ds vs → ds[i]? = some d → ∃ v, vs[i]? = some v ∧ Is A B d v
  | [], _, _, _, _, e => by simp at e
  | _ :: _, _, 0, _, ⟨v, r, h1, h2, _⟩, e => by cases h1; cases e; exact ⟨v, rfl, h2⟩
  | _ :: _, _, i + 1, _, ⟨v, r, h1, _, h3⟩, e => by cases h1; exact Iss.at (i := i) h3 e
theorem Iss.at2 {B : Hp} {ds : List Dat} {vs : List V} {i : Nat} {v : V} (h : Iss A B ds vs) (e : vs[i]? = some v) : ∃ d, ds[i]? = some d ∧ Is A B d v := by
  have hl := (List.getElem?_eq_some_iff.mp e).1
  have hd : ds[i]? = some (ds[i]'(by rw [h.len]; exact hl)) := List.getElem?_eq_getElem (by rw [h.len]; exact hl)
  obtain ⟨u, hu, q⟩ := h.at hd
  rw [e] at hu
  cases hu
  exact ⟨_, hd, q⟩
theorem Iss.append {B : Hp} : ∀ {ds es : List Dat} {vs ws : List V}, Iss A B ds vs → Iss A B es ws → Iss A B (ds ++ es) (vs ++ ws)
  | [], _, _, _, h, g => by cases h; exact g
  | _ :: _, _, _, _, ⟨v, r, h1, h2, h3⟩, g => by cases h1; exact ⟨v, _, rfl, h2, Iss.append h3 g⟩
theorem Iss.one {B : Hp} {d : Dat} {vs : List V} (h : Iss A B [d] vs) : ∃ v, vs = [v] ∧ Is A B d v := by
  obtain ⟨v, r, h1, h2, h3⟩ := h
  cases h3
  exact ⟨v, h1, h2⟩
theorem Iss.two {B : Hp} {d e : Dat} {vs : List V} (h : Iss A B [d, e] vs) : ∃ v w, vs = [v, w] ∧ Is A B d v ∧ Is A B e w := by
  obtain ⟨v, r, h1, h2, h3⟩ := h
  obtain ⟨w, h4, h5⟩ := h3.one
  subst h4
  exact ⟨v, w, h1, h2, h5⟩
theorem Iss.take {B : Hp} : ∀ {ds : List Dat} {vs : List V} (n : Nat), Iss A B ds vs → Iss A B (ds.take n) (vs.take n)
  | [], _, n, h => by cases h; simp; rfl
  | _ :: _, _, 0, _ => rfl
  | _ :: _, _, n + 1, ⟨v, r, h1, h2, h3⟩ => by cases h1; exact ⟨v, _, rfl, h2, Iss.take n h3⟩
theorem Iss.drop {B : Hp} : ∀ {ds : List Dat} {vs : List V} (n : Nat), Iss A B ds vs → Iss A B (ds.drop n) (vs.drop n)
  | [], _, n, h => by cases h; simp; rfl
  | _ :: _, _, 0, h => h
  | _ :: _, _, n + 1, ⟨v, r, h1, h2, h3⟩ => by cases h1; exact Iss.drop n h3
theorem Iss.ints {B : Hp} : ∀ {ns : List Int} {vs : List V}, Iss A B (ns.map Dat.int) vs → vs = ns.map V.int
  | [], _, h => h
  | _ :: _, _, ⟨v, r, h1, h2, h3⟩ => by cases h1; cases h2; rw [Iss.ints h3]; rfl
theorem Iss.bls {B : Hp} : ∀ {bs : List Bool} {vs : List V}, Iss A B (bs.map Dat.bl) vs → vs = bs.map V.bl
  | [], _, h => h
  | _ :: _, _, ⟨v, r, h1, h2, h3⟩ => by cases h1; cases h2; rw [Iss.bls h3]; rfl
theorem Iss.rep {B : Hp} {d : Dat} {v : V} (h : Is A B d v) : ∀ n : Nat, Iss A B (List.replicate n d) (List.replicate n v)
  | 0 => rfl
  | n + 1 => ⟨v, _, rfl, h, Iss.rep h n⟩
end

/-! ### steps: from (B, H) to (B', H'): all but the object at mp stands; what is known grows; nothing of the rest becomes known, nor does mp -/
structure Stp (mp : Option Addr) (B H B' H' : Hp) : Prop where
  ex : ∀ a o, some a ≠ mp → H a = some o → H' a = some o
  exB : Ex B B'
  sub : Ex B' H'
  av : ∀ a, B a = none → H a ≠ none → B' a = none
  mB : ∀ p, mp = some p → B' p = none ∧ H' p ≠ none
theorem Stp.refl {mp : Option Addr} {B H : Hp} (e : Ex B H) (m : ∀ p, mp = some p → B p = none ∧ H p ≠ none) : Stp mp B H B H := ⟨fun _ _ _ h => h, Ex.refl B, e, fun _ h _ => h, m⟩
theorem Stp.refl0 {B H : Hp} (e : Ex B H) : Stp none B H B H := Stp.refl e fun _ z => nomatch z
theorem Stp.trans {mp : Option Addr} {B H B1 H1 B2 H2 : Hp} (a : Stp mp B H B1 H1) (b : Stp mp B1 H1 B2 H2) : Stp mp B H B2 H2 where
  ex := fun x o n h => b.ex x o n (a.ex x o n h)
  exB := a.exB.trans b.exB
  sub := b.sub
  av := fun x h1 h2 => by
    by_cases e : some x = mp
    · exact (b.mB x e.symm).1
    · refine b.av x (a.av x h1 h2) ?_
      cases q : H x with
      | none => exact absurd q h2
      | some o => rw [a.ex x o e q]; exact fun z => nomatch z
  mB := b.mB
/-- a step that leaves all as it was -/
theorem Stp.weak {mp : Option Addr} {B H B' H' : Hp} (a : Stp none B H B' H') (m : ∀ p, mp = some p → B p = none ∧ H p ≠ none) : Stp mp B H B' H' :=
  ⟨fun x o _ h => a.ex x o (fun z => nomatch z) h, a.exB, a.sub, a.av, fun p hp => ⟨a.av p (m p hp).1 (m p hp).2, fun z => by
    cases q : H p with
    | none => exact (m p hp).2 q
    | some o => rw [a.ex p o (fun z => nomatch z) q] at z; cases z⟩⟩
/-- a new object, known -/
theorem Stp.new {B H : Hp} {p : Addr} {o : HO} (e : Ex B H) (h : H p = none) : Stp none B H (upd B p o) (upd H p o) where
  ex := fun a u _ q => Ex.new h a u q
  exB := Ex.new (e.back h)
  sub := fun a u q => by
    by_cases c : a = p
    · subst c; rw [upd_same] at q ⊢; exact q
    · rw [upd_ne c] at q ⊢; exact e a u q
  av := fun a h1 h2 => by
    have c : a ≠ p := fun z => h2 (by rw [z]; exact h)
    rw [upd_ne c]; exact h1
  mB := fun _ z => nomatch z
/-- a new object, not known -/
theorem Stp.own {B H : Hp} {p : Addr} {o : HO} (e : Ex B H) (h : H p = none) : Stp none B H B (upd H p o) :=
  ⟨fun a u _ q => Ex.new h a u q, Ex.refl B, e.mut (e.back h), fun _ h1 _ => h1, fun _ z => nomatch z⟩
/-- an object of one's own becomes known -/
theorem Stp.know {mp : Option Addr} {B H B' H' : Hp} {p : Addr} {o : HO} (s : Stp mp B H B' H') (e : B p = none) (h0 : H p = none) (hm : mp ≠ some p) (h1 : H' p = some o) : Stp mp B H (upd B' p o) H' where
  ex := s.ex
  exB := fun a u q => by
    have c : a ≠ p := ne_of_none q e
    rw [upd_ne c]; exact s.exB a u q
  sub := fun a u q => by
    by_cases c : a = p
    · subst c; rw [upd_same] at q; cases q; exact h1
    · rw [upd_ne c] at q; exact s.sub a u q
  av := fun a h2 h3 => by
    have c : a ≠ p := fun z => h3 (by rw [z]; exact h0)
    rw [upd_ne c]; exact s.av a h2 h3
  mB := fun q hq => by
    have c : q ≠ p := fun z => hm (by rw [hq, z])
    rw [upd_ne c]; exact s.mB q hq
/-- an object of one's own (or mp's) is written -/
theorem Stp.put {mp : Option Addr} {B H B' H' : Hp} {p : Addr} {o : HO} (s : Stp mp B H B' H') (h0 : H p = none ∨ mp = some p) (hB : B' p = none) : Stp mp B H B' (upd H' p o) where
  ex := fun a u n q => by
    have c : a ≠ p := fun z => by
      rcases h0 with h0 | h0
      · rw [z, h0] at q; cases q
      · exact n (by rw [z, h0])
    rw [upd_ne c]; exact s.ex a u n q
  exB := s.exB
  sub := s.sub.mut hB
  av := s.av
  mB := fun q hq => ⟨(s.mB q hq).1, by
    by_cases c : q = p
    · subst c; rw [upd_same]; exact fun z => nomatch z
    · rw [upd_ne c]; exact (s.mB q hq).2⟩

/-! ### canonical readings -/
def wE (X : Cx) (e : Expr) : TE := fun σ H Q => ∃ t, PE X e t ∧ t σ H Q
theorem pe_w {X : Cx} {e : Expr} : PE X e (wE X e) := ⟨fun pins s σ H Q I ⟨_, h, q⟩ => h.run pins s σ H Q I q⟩
def wT (X : Cx) (e : Expr) : TT := fun σ H Q => ∃ t, PT X e t ∧ t σ H Q
theorem pt_w {X : Cx} {e : Expr} : PT X e (wT X e) := ⟨fun pins s σ H Q I ⟨_, h, q⟩ => h.run pins s σ H Q I q⟩
def wA (X : Cx) (es : List Expr) : TA := fun σ H Q => ∃ t, PA X es t ∧ t σ H Q
theorem pa_w {X : Cx} {es : List Expr} : PA X es (wA X es) := ⟨fun pos pins s σ H Q I ⟨_, h, q⟩ => h.run pos pins s σ H Q I q⟩
def wB (X : Cx) (st : List Stmt) : TS := fun D σ H => ∃ t, PSs X st t ∧ t D σ H
theorem pss_w {X : Cx} {st : List Stmt} : PSs X st (wB X st) := ⟨fun pins s σ H D I ⟨_, h, q⟩ => h.run pins s σ H D I q⟩
theorem wB.cons {X : Cx} {st : Stmt} {r : List Stmt} {t : TS} {D : Ends} {σ : L2.St} {H : Hp} (h : PS X st t) (q : t { D with nx := wB X r D } σ H) : wB X (st :: r) D σ H :=
  ⟨_, pss_cons h pss_w, q⟩

/-! ### abstract states -/
/-- a slot: a datum; a list of the block's own; the object at mp (a pot of two numbers; an instance under way) -/
inductive Sl where
  | im (d : Dat) | mu (ds : List Dat) | pot | self (C : Addr) (fs : List (Str × Dat))
  /-- the value v itself, known as d at B1 -/
  | pin (v : V) (d : Dat) (B1 : Hp)
abbrev Sls := List (Option Sl)
structure Fx where
  mp : Option Addr
  B0 : Hp
  H0 : Hp
def PotAt (p : Addr) (H : Hp) : Prop := ∃ a b : Int, H p = some (.lst [.int a, .int b]) ∧ 0 ≤ a ∧ 0 ≤ b ∧ b < 2147483648
def Isf (A : Ad) (B : Hp) : List (Str × Dat) → List (Str × V) → Prop
  | [], gs => gs = []
  | (n, d) :: fs, gs => ∃ v r, gs = (n, v) :: r ∧ Is A B d v ∧ Isf A B fs r
theorem Isf.mono {A : Ad} {B B' : Hp} (e : Ex B B') : ∀ {fs : List (Str × Dat)} {gs : List (Str × V)}, Isf A B fs gs → Isf A B' fs gs
  | [], _, h => h
  | (_, _) :: _, _, ⟨v, r, h1, h2, h3⟩ => ⟨v, r, h1, h2.mono e, Isf.mono e h3⟩
def SlOk (A : Ad) (F : Fx) (B H : Hp) : Sl → V → Prop
  | .im d, v => Is A B d v
  | .mu ds, v => ∃ p xs, v = .ref p ∧ F.H0 p = none ∧ F.mp ≠ some p ∧ B p = none ∧ H p = some (.lst xs) ∧ Iss A B ds xs
  | .pot, v => ∃ p, v = .ref p ∧ F.mp = some p ∧ PotAt p H
  | .self C fs, v => ∃ p dx gs, v = .ref p ∧ F.mp = some p ∧ H p = some (.ins C dx gs) ∧ Isf A B fs gs
  | .pin u d B1, v => v = u ∧ Is A B1 d u ∧ Ex B1 B
structure Rel (A : Ad) (F : Fx) (Γ : Sls) (σ : L2.St) (B H : Hp) : Prop where
  st : Stp F.mp F.B0 F.H0 B H
  sl : ∀ (i : Nat) (s : Sl), Γ[i]? = some (some s) → ∃ v, σ[i]? = some (some v) ∧ SlOk A F B H s v
  ap : ∀ (i j : Nat) (ds es : List Dat), i ≠ j → Γ[i]? = some (some (.mu ds)) → Γ[j]? = some (some (.mu es)) → σ[i]? ≠ σ[j]?
  len : Γ.length = σ.length
section
variable {A : Ad} {F : Fx} {Γ : Sls} {σ : L2.St} {B H B' H' : Hp}
/-- a step that leaves all as it was keeps the state -/
theorem SlOk.step {s : Sl} {v : V} (a : Stp none B H B' H') (h : SlOk A F B H s v) : SlOk A F B' H' s v := by
  cases s with
  | im d => exact Is.mono a.exB h
  | mu ds =>
    obtain ⟨p, xs, h1, h2, h3, h4, h5, h6⟩ := h
    exact ⟨p, xs, h1, h2, h3, a.av p h4 (by rw [h5]; exact fun z => nomatch z), a.ex p _ (fun z => nomatch z) h5, Iss.mono a.exB h6⟩
  | pot =>
    obtain ⟨p, h1, h2, x, y, h3, h4⟩ := h
    exact ⟨p, h1, h2, x, y, a.ex p _ (fun z => nomatch z) h3, h4⟩
  | self C fs =>
    obtain ⟨p, dx, gs, h1, h2, h3, h4⟩ := h
    exact ⟨p, dx, gs, h1, h2, a.ex p _ (fun z => nomatch z) h3, h4.mono a.exB⟩
  | pin u d B1 => exact ⟨h.1, h.2.1, h.2.2.trans a.exB⟩
theorem Rel.mB (R : Rel A F Γ σ B H) : ∀ p, F.mp = some p → B p = none ∧ H p ≠ none := R.st.mB
theorem Rel.sub (R : Rel A F Γ σ B H) : Ex B H := R.st.sub
theorem Rel.step (R : Rel A F Γ σ B H) (a : Stp none B H B' H') : Rel A F Γ σ B' H' :=
  ⟨R.st.trans (a.weak R.mB), fun i s h => let ⟨v, h1, h2⟩ := R.sl i s h; ⟨v, h1, h2.step a⟩, R.ap, R.len⟩
/-- a datum is stored -/
theorem Rel.set (R : Rel A F Γ σ B H) {i : Nat} {d : Dat} {v : V} (h : Is A B d v) (hi : i < Γ.length) : Rel A F (Γ.set i (some (.im d))) (σ.set i (some v)) B H where
  st := R.st
  sl := fun j s e => by
    by_cases c : i = j
    · subst c
      rw [List.getElem?_set_self hi] at e
      cases e
      exact ⟨v, List.getElem?_set_self (by rw [← R.len]; exact hi), h⟩
    · rw [List.getElem?_set_ne c] at e ⊢
      exact R.sl j s e
  ap := fun j k ds es n e1 e2 => by
    have c1 : i ≠ j := fun c => by subst c; rw [List.getElem?_set_self hi] at e1; cases e1
    have c2 : i ≠ k := fun c => by subst c; rw [List.getElem?_set_self hi] at e2; cases e2
    rw [List.getElem?_set_ne c1] at e1 ⊢
    rw [List.getElem?_set_ne c2] at e2 ⊢
    exact R.ap j k ds es n e1 e2
  len := by rw [List.length_set, List.length_set]; exact R.len
/-- a list of one's own is stored -/
theorem Rel.setMu (R : Rel A F Γ σ B H) {i : Nat} {ds : List Dat} {p : Addr} {xs : List V} (h0 : F.H0 p = none) (hm : F.mp ≠ some p) (hB : B p = none) (hp : H p = some (.lst xs)) (h : Iss A B ds xs) (hi : i < Γ.length)
    (hn : ∀ (j : Nat) (es : List Dat), i ≠ j → Γ[j]? = some (some (.mu es)) → σ[j]? ≠ some (some (.ref p))) : Rel A F (Γ.set i (some (.mu ds))) (σ.set i (some (.ref p))) B H where
  st := R.st
  sl := fun j s e => by
    by_cases c : i = j
    · subst c
      rw [List.getElem?_set_self hi] at e
      cases e
      exact ⟨_, List.getElem?_set_self (by rw [← R.len]; exact hi), p, xs, rfl, h0, hm, hB, hp, h⟩
    · rw [List.getElem?_set_ne c] at e ⊢
      exact R.sl j s e
  ap := fun j k ds es n e1 e2 => by
    have hi' : i < σ.length := by rw [← R.len]; exact hi
    by_cases c1 : i = j
    · subst c1
      rw [List.getElem?_set_ne n] at e2 ⊢
      rw [List.getElem?_set_self hi']
      exact fun z => hn k es n e2 z.symm
    · rw [List.getElem?_set_ne c1] at e1 ⊢
      by_cases c2 : i = k
      · subst c2
        rw [List.getElem?_set_self hi']
        exact hn j ds c1 e1
      · rw [List.getElem?_set_ne c2] at e2 ⊢
        exact R.ap j k ds es n e1 e2
  len := by rw [List.length_set, List.length_set]; exact R.len
/-- a slot is forgotten -/
theorem Rel.drop (R : Rel A F Γ σ B H) {i : Nat} {v : Option V} : Rel A F (Γ.set i none) (σ.set i v) B H where
  st := R.st
  sl := fun j s e => by
    by_cases c : i = j
    · subst c
      by_cases hi : i < Γ.length
      · rw [List.getElem?_set_self hi] at e; cases e
      · rw [List.getElem?_eq_none (by rw [List.length_set]; omega)] at e; cases e
    · rw [List.getElem?_set_ne c] at e ⊢
      exact R.sl j s e
  ap := fun j k ds es n e1 e2 => by
    have f : ∀ {j : Nat} {s : Sl}, (Γ.set i none)[j]? = some (some s) → i ≠ j := fun {j s} e c => by
      subst c
      by_cases hi : i < Γ.length
      · rw [List.getElem?_set_self hi] at e; cases e
      · rw [List.getElem?_eq_none (by rw [List.length_set]; omega)] at e; cases e
    have c1 := f e1
    have c2 := f e2
    rw [List.getElem?_set_ne c1] at e1 ⊢
    rw [List.getElem?_set_ne c2] at e2 ⊢
    exact R.ap j k ds es n e1 e2
  len := by rw [List.length_set, List.length_set]; exact R.len
theorem ex_know {p : Addr} {o : HO} (e : Ex B H) (h : H p = some o) : Ex B (upd B p o) := fun a u q => by
  by_cases c : a = p
  · subst c
    rw [e a u q] at h
    rw [upd_same, ← h]
  · rw [upd_ne c]; exact q
theorem Rel.fresh0 (R : Rel A F Γ σ B H) {p : Addr} (h : H p = none) : F.H0 p = none := by
  cases q : F.H0 p with
  | none => rfl
  | some o =>
    by_cases m : some p = F.mp
    · exact absurd h (R.mB p m.symm).2
    · rw [R.st.ex p o m q] at h; cases h
theorem Rel.b0 (R : Rel A F Γ σ B H) {p : Addr} (h : H p = none) : F.B0 p = none := (R.st.exB.trans R.st.sub).back h
theorem Rel.nmp (R : Rel A F Γ σ B H) {p : Addr} (h : H p = none) : F.mp ≠ some p := fun z => (R.mB p z).2 h
/-- a new object of the block becomes known -/
theorem Rel.know (R : Rel A F Γ σ B H) (r : Rel A F Γ σ B' H') {p : Addr} {o : HO} (h1 : H p = none) (h2 : H' p = some o) : Rel A F Γ σ (upd B' p o) H' where
  st := r.st.know (R.b0 h1) (R.fresh0 h1) (R.nmp h1) h2
  sl := fun i s hs => by
    obtain ⟨v, e, ok⟩ := r.sl i s hs
    refine ⟨v, e, ?_⟩
    cases s with
    | im d => exact Is.mono (ex_know r.sub h2) ok
    | mu ds =>
      obtain ⟨q, xs, e1, e2, e3, e4, e5, e6⟩ := ok
      obtain ⟨v', e', ok'⟩ := R.sl i _ hs
      obtain ⟨q', _, f1, _, _, _, f5, _⟩ := ok'
      rw [e] at e'
      cases e'
      rw [e1] at f1
      cases f1
      have c : q ≠ p := fun z => by rw [z, h1] at f5; cases f5
      exact ⟨q, xs, e1, e2, e3, by rw [upd_ne c]; exact e4, e5, e6.mono (ex_know r.sub h2)⟩
    | pot => exact ok
    | self C fs =>
      obtain ⟨q, dx, gs, e1, e2, e3, e4⟩ := ok
      exact ⟨q, dx, gs, e1, e2, e3, e4.mono (ex_know r.sub h2)⟩
    | pin u d B1 => exact ⟨ok.1, ok.2.1, ok.2.2.trans (ex_know r.sub h2)⟩
  ap := r.ap
  len := r.len
/-- the list in a slot -/
theorem Rel.mu (R : Rel A F Γ σ B H) {i : Nat} {ds : List Dat} (h : Γ[i]? = some (some (.mu ds))) : ∃ p xs, σ[i]? = some (some (.ref p)) ∧ F.H0 p = none ∧ F.mp ≠ some p ∧ B p = none ∧ H p = some (.lst xs) ∧ Iss A B ds xs := by
  obtain ⟨v, e, p, xs, h1, h2⟩ := R.sl i _ h
  subst h1
  exact ⟨p, xs, e, h2⟩
theorem Rel.im (R : Rel A F Γ σ B H) {i : Nat} {d : Dat} (h : Γ[i]? = some (some (.im d))) : ∃ v, σ[i]? = some (some v) ∧ Is A B d v := R.sl i _ h
/-- the list in a slot is written -/
theorem Rel.putMu (R : Rel A F Γ σ B H) {i : Nat} {ds es : List Dat} {p : Addr} {ys : List V} (h : Γ[i]? = some (some (.mu ds))) (hp : σ[i]? = some (some (.ref p))) (hy : Iss A B es ys) :
    Rel A F (Γ.set i (some (.mu es))) σ B (upd H p (.lst ys)) := by
  obtain ⟨q, xs, e, h0, hm, hB, hH, _⟩ := R.mu h
  rw [hp] at e
  cases e
  have hi : i < Γ.length := (List.getElem?_eq_some_iff.mp h).1
  refine ⟨R.st.put (.inl h0) hB, fun j s hs => ?_, fun j k d1 d2 n e1 e2 => ?_, by rw [List.length_set]; exact R.len⟩
  · by_cases c : i = j
    · subst c
      rw [List.getElem?_set_self hi] at hs
      cases hs
      exact ⟨_, hp, p, ys, rfl, h0, hm, hB, upd_same, hy⟩
    · rw [List.getElem?_set_ne c] at hs
      obtain ⟨v, e, ok⟩ := R.sl j s hs
      refine ⟨v, e, ?_⟩
      cases s with
      | im d => exact ok
      | mu d =>
        obtain ⟨r, zs, f1, f2, f3, f4, f5, f6⟩ := ok
        have cr : r ≠ p := fun z => R.ap i j _ _ c h hs (by rw [hp, e, f1, z])
        exact ⟨r, zs, f1, f2, f3, f4, by rw [upd_ne cr]; exact f5, f6⟩
      | pot =>
        obtain ⟨r, f1, f2, x, y, f3, f4⟩ := ok
        have cr : r ≠ p := fun z => hm (by rw [f2, z])
        exact ⟨r, f1, f2, x, y, by rw [upd_ne cr]; exact f3, f4⟩
      | self C fs =>
        obtain ⟨r, dx, gs, f1, f2, f3, f4⟩ := ok
        have cr : r ≠ p := fun z => hm (by rw [f2, z])
        exact ⟨r, dx, gs, f1, f2, by rw [upd_ne cr]; exact f3, f4⟩
      | pin u d B1 => exact ok
  · by_cases c1 : i = j
    · subst c1
      rw [List.getElem?_set_ne n] at e2
      exact R.ap i k _ _ n h e2
    · rw [List.getElem?_set_ne c1] at e1
      by_cases c2 : i = k
      · subst c2
        exact R.ap j i _ _ n e1 h
      · rw [List.getElem?_set_ne c2] at e2
        exact R.ap j k _ _ n e1 e2
/-- a list of one's own is let go: it is known from now on -/
theorem Rel.freeze (R : Rel A F Γ σ B H) {i : Nat} {ds : List Dat} (h : Γ[i]? = some (some (.mu ds))) : ∃ B', Ex B B' ∧ Rel A F (Γ.set i (some (.im (.lst ds)))) σ B' H := by
  obtain ⟨p, xs, e, h0, hm, hB, hH, hI⟩ := R.mu h
  have hi : i < Γ.length := (List.getElem?_eq_some_iff.mp h).1
  have hb0 : F.B0 p = none := R.st.exB.back hB
  refine ⟨upd B p (.lst xs), Ex.new hB, R.st.know hb0 h0 hm hH, fun j s hs => ?_, fun j k d1 d2 n e1 e2 => ?_, by rw [List.length_set]; exact R.len⟩
  · by_cases c : i = j
    · subst c
      rw [List.getElem?_set_self hi] at hs
      cases hs
      exact ⟨_, e, p, xs, rfl, upd_same, hI.mono (Ex.new hB)⟩
    · rw [List.getElem?_set_ne c] at hs
      obtain ⟨v, e', ok⟩ := R.sl j s hs
      refine ⟨v, e', ?_⟩
      cases s with
      | im d => exact Is.mono (Ex.new hB) ok
      | mu d =>
        obtain ⟨r, zs, f1, f2, f3, f4, f5, f6⟩ := ok
        have cr : r ≠ p := fun z => R.ap i j _ _ c h hs (by rw [e, e', f1, z])
        exact ⟨r, zs, f1, f2, f3, by rw [upd_ne cr]; exact f4, f5, f6.mono (Ex.new hB)⟩
      | pot => exact ok
      | self C fs =>
        obtain ⟨r, dx, gs, f1, f2, f3, f4⟩ := ok
        exact ⟨r, dx, gs, f1, f2, f3, f4.mono (Ex.new hB)⟩
      | pin u d B1 => exact ⟨ok.1, ok.2.1, ok.2.2.trans (Ex.new hB)⟩
  · have c1 : i ≠ j := fun c => by subst c; rw [List.getElem?_set_self hi] at e1; cases e1
    have c2 : i ≠ k := fun c => by subst c; rw [List.getElem?_set_self hi] at e2; cases e2
    rw [List.getElem?_set_ne c1] at e1
    rw [List.getElem?_set_ne c2] at e2
    exact R.ap j k _ _ n e1 e2
/-- what is known now is the base of what follows -/
theorem Rel.rebase (R : Rel A F Γ σ B H) : Rel A ⟨F.mp, B, F.H0⟩ Γ σ B H :=
  ⟨⟨R.st.ex, Ex.refl B, R.st.sub, fun _ h _ => h, R.st.mB⟩, fun i s h => by
    obtain ⟨v, e, ok⟩ := R.sl i s h
    exact ⟨v, e, by cases s <;> exact ok⟩, R.ap, R.len⟩
theorem Rel.unbase {B1 H1 : Hp} (s : Stp F.mp F.B0 F.H0 B1 H1) (R : Rel A ⟨F.mp, B1, F.H0⟩ Γ σ B H) : Rel A F Γ σ B H :=
  ⟨⟨R.st.ex, s.exB.trans R.st.exB, R.st.sub, fun a h1 h2 => R.st.av a (s.av a h1 h2) h2, R.st.mB⟩, fun i s h => by
    obtain ⟨v, e, ok⟩ := R.sl i s h
    exact ⟨v, e, by cases s <;> exact ok⟩, R.ap, R.len⟩
/-- what is known of other slots and values -/
theorem Rel.via {Γ' : Sls} {σ' : L2.St} (R : Rel A F Γ σ B H) (h : ∀ (i : Nat) (s : Sl), Γ'[i]? = some (some s) → Γ[i]? = some (some s) ∧ σ'[i]? = σ[i]?) (len : Γ'.length = σ'.length) : Rel A F Γ' σ' B H :=
  ⟨R.st, fun i s e => by
    obtain ⟨h1, h2⟩ := h i s e
    obtain ⟨v, e', ok⟩ := R.sl i s h1
    exact ⟨v, h2.trans e', ok⟩, fun i j ds es n e1 e2 => by
    obtain ⟨h1, h2⟩ := h i _ e1
    obtain ⟨h3, h4⟩ := h j _ e2
    rw [h2, h4]
    exact R.ap i j ds es n h1 h3, len⟩
/-- an object that no slot holds is written -/
theorem Rel.putOff (R : Rel A F Γ σ B H) {p : Addr} {o : HO} (h0 : F.H0 p = none) (hm : F.mp ≠ some p) (hB : B p = none) (hn : ∀ (j : Nat) (es : List Dat), Γ[j]? = some (some (.mu es)) → σ[j]? ≠ some (some (.ref p))) : Rel A F Γ σ B (upd H p o) :=
  ⟨R.st.put (.inl h0) hB, fun i s e => by
    obtain ⟨v, e', ok⟩ := R.sl i s e
    refine ⟨v, e', ?_⟩
    cases s with
    | im d => exact ok
    | mu d =>
      obtain ⟨r, zs, f1, f2, f3, f4, f5, f6⟩ := ok
      have cr : r ≠ p := fun z => hn i d e (by rw [e', f1, z])
      exact ⟨r, zs, f1, f2, f3, f4, by rw [upd_ne cr]; exact f5, f6⟩
    | pot =>
      obtain ⟨r, f1, f2, x, y, f3, f4⟩ := ok
      have cr : r ≠ p := fun z => hm (by rw [f2, z])
      exact ⟨r, f1, f2, x, y, by rw [upd_ne cr]; exact f3, f4⟩
    | self C fs =>
      obtain ⟨r, dx, gs, f1, f2, f3, f4⟩ := ok
      have cr : r ≠ p := fun z => hm (by rw [f2, z])
      exact ⟨r, dx, gs, f1, f2, by rw [upd_ne cr]; exact f3, f4⟩
    | pin u d B1 => exact ok, R.ap, R.len⟩
end
end K64
/-! The rules: expressions, tests, statements over abstract states. -/
namespace K64
open PySem L2

/-! ### what an expression comes to -/
def Ev (A : Ad) (X : Cx) (e : Expr) (Γ : Sls) (P : Dat → Prop) : Prop :=
  ∀ (F : Fx) (σ : L2.St) (B H : Hp), Rel A F Γ σ B H → ∀ Q : VK, (∀ v B' H' d, P d → Stp F.mp B H B' H' → Rel A F Γ σ B' H' → Is A B' d v → Q v H') → wE X e σ H Q
/-- .. a new list -/
def EvN (A : Ad) (X : Cx) (e : Expr) (Γ : Sls) (P : List Dat → Prop) : Prop :=
  ∀ (F : Fx) (σ : L2.St) (B H : Hp), Rel A F Γ σ B H → ∀ Q : VK, (∀ p xs B' H' ds, P ds → Stp F.mp B H B' H' → Rel A F Γ σ B' H' → H p = none → B' p = none → H' p = some (.lst xs) → Iss A B' ds xs → Q (.ref p) H') → wE X e σ H Q
def EvT (A : Ad) (X : Cx) (e : Expr) (Γ : Sls) (P : Bool → Prop) : Prop :=
  ∀ (F : Fx) (σ : L2.St) (B H : Hp), Rel A F Γ σ B H → ∀ Q : Bool → Hp → Prop, (∀ b B' H', P b → Stp F.mp B H B' H' → Rel A F Γ σ B' H' → Q b H') → wT X e σ H Q
def EvA (A : Ad) (X : Cx) (es : List Expr) (Γ : Sls) (P : List Dat → Prop) : Prop :=
  ∀ (F : Fx) (σ : L2.St) (B H : Hp), Rel A F Γ σ B H → ∀ Q : List V → Hp → Prop, (∀ vs B' H' ds, P ds → Stp F.mp B H B' H' → Rel A F Γ σ B' H' → Iss A B' ds vs → Q vs H') → wA X es σ H Q
/-- by values: from known operands to a known result -/
def R1k (A : Ad) (r : V → Hp → VK → Prop) (P1 : Dat → Prop) (P : Dat → Prop) : Prop :=
  ∀ x da B H, P1 da → Is A B da x → Ex B H → ∀ Q : VK, (∀ v B' H' d, P d → Stp none B H B' H' → Is A B' d v → Q v H') → r x H Q
def R2k (A : Ad) (r : R2) (P1 P2 : Dat → Prop) (P : Dat → Prop) : Prop :=
  ∀ x y da db B H, P1 da → P2 db → Is A B da x → Is A B db y → Ex B H → ∀ Q : VK, (∀ v B' H' d, P d → Stp none B H B' H' → Is A B' d v → Q v H') → r x y H Q
def RAk (A : Ad) (r : List V → Hp → VK → Prop) (P1 : List Dat → Prop) (P : Dat → Prop) : Prop :=
  ∀ xs ds B H, P1 ds → Iss A B ds xs → Ex B H → ∀ Q : VK, (∀ v B' H' d, P d → Stp none B H B' H' → Is A B' d v → Q v H') → r xs H Q

section
variable {A : Ad} {X : Cx} {Γ : Sls} {e a b c : Expr} {es : List Expr} {P P1 P2 P' : Dat → Prop} {pos : Pos}

theorem Ev.imp (h : Ev A X e Γ P) (k : ∀ d, P d → P' d) : Ev A X e Γ P' := fun F σ B H R Q q => h F σ B H R Q fun v B' H' d p s r i => q v B' H' d (k d p) s r i
theorem EvT.imp {P P' : Bool → Prop} (h : EvT A X e Γ P) (k : ∀ d, P d → P' d) : EvT A X e Γ P' := fun F σ B H R Q q => h F σ B H R Q fun b B' H' p s r => q b B' H' (k b p) s r
theorem EvN.imp {P P' : List Dat → Prop} (h : EvN A X e Γ P) (k : ∀ d, P d → P' d) : EvN A X e Γ P' := fun F σ B H R Q q => h F σ B H R Q fun p xs B' H' ds pd s r h1 h2 h3 h4 => q p xs B' H' ds (k ds pd) s r h1 h2 h3 h4
theorem EvN.ev {P : List Dat → Prop} {P' : Dat → Prop} (h : EvN A X e Γ P) (k : ∀ ds, P ds → P' (.lst ds)) : Ev A X e Γ P' := fun F σ B H R Q q => h F σ B H R Q fun p xs B' H' ds pd s r h1 h2 h3 h4 =>
  q (.ref p) (upd B' p (.lst xs)) H' (.lst ds) (k ds pd) (s.know (R.sub.back h1) h1 (R.nmp h1) h3) (R.know r h1 h3) ⟨p, xs, rfl, upd_same, h4.mono (ex_know r.sub h3)⟩

/-! ### readings made of readings -/
theorem ev_k {t : TE} (pe : PE X e t) (h : ∀ (F : Fx) (σ : L2.St) (B H : Hp), Rel A F Γ σ B H → ∀ Q : VK, (∀ v B' H' d, P d → Stp F.mp B H B' H' → Rel A F Γ σ B' H' → Is A B' d v → Q v H') → t σ H Q) : Ev A X e Γ P :=
  fun F σ B H R Q q => ⟨t, pe, h F σ B H R Q q⟩
theorem ev_un {r : V → Hp → VK → Prop} (pe : PE X e (tUn r (wE X a))) (ha : Ev A X a Γ P1) (hr : R1k A r P1 P) : Ev A X e Γ P := ev_k pe fun F σ B H R Q q =>
  ha F σ B H R _ fun x B1 H1 da p1 s1 R1 i1 => hr x da B1 H1 p1 i1 R1.sub Q fun v B' H' d p s i => q v B' H' d p (s1.trans (s.weak R1.mB)) (R1.step s) i
theorem ev_two {r : R2} (pe : PE X e (tOp r (wE X a) (wE X b))) (ha : Ev A X a Γ P1) (hb : Ev A X b Γ P2) (hr : R2k A r P1 P2 P) : Ev A X e Γ P := ev_k pe fun F σ B H R Q q =>
  ha F σ B H R _ fun x B1 H1 da p1 s1 R1 i1 => hb F σ B1 H1 R1 _ fun y B2 H2 db p2 s2 R2 i2 =>
    hr x y da db B2 H2 p1 p2 (i1.mono s2.exB) i2 R2.sub Q fun v B' H' d p s i => q v B' H' d p ((s1.trans s2).trans (s.weak R2.mB)) (R2.step s) i
theorem ev_cb {r : List V → Hp → VK → Prop} {PA1 : List Dat → Prop} (pe : PE X e (tCB r (wA X es))) (ha : EvA A X es Γ PA1) (hr : RAk A r PA1 P) : Ev A X e Γ P := ev_k pe fun F σ B H R Q q =>
  ha F σ B H R _ fun xs B1 H1 ds p1 s1 R1 i1 => hr xs ds B1 H1 p1 i1 R1.sub Q fun v B' H' d p s i => q v B' H' d p (s1.trans (s.weak R1.mB)) (R1.step s) i
theorem ea_nil : EvA A X [] Γ (fun ds => ds = []) := fun F σ B H R Q q => ⟨_, pa_nil, q [] B H [] rfl (Stp.refl R.sub R.mB) R rfl⟩
theorem ea_cons {PA1 : List Dat → Prop} (ha : Ev A X a Γ P) (hr : EvA A X es Γ PA1) (hs : starEach (a :: es) X.env = (false, eval a X.env) :: starEach es X.env := by rfl) :
    EvA A X (a :: es) Γ (fun ds => ∃ d r, ds = d :: r ∧ P d ∧ PA1 r) := fun F σ B H R Q q => ⟨_, pa_cons pe_w pa_w hs,
  ha F σ B H R _ fun x B1 H1 d p1 s1 R1 i1 => hr F σ B1 H1 R1 _ fun xs B2 H2 ds p2 s2 R2 i2 => q (x :: xs) B2 H2 (d :: ds) ⟨d, ds, rfl, p1, p2⟩ (s1.trans s2) R2 ⟨x, xs, rfl, i1.mono s2.exB, i2⟩⟩
theorem EvA.imp {P P' : List Dat → Prop} (h : EvA A X es Γ P) (k : ∀ ds, P ds → P' ds) : EvA A X es Γ P' := fun F σ B H R Q q => h F σ B H R Q fun vs B' H' ds p s r i => q vs B' H' ds (k ds p) s r i
/-- one, two arguments -/
theorem ea1 (ha : Ev A X a Γ P1) (h1 : starEach [a] X.env = (false, eval a X.env) :: starEach [] X.env := by rfl) : EvA A X [a] Γ (fun ds => ∃ d, ds = [d] ∧ P1 d) :=
  (ea_cons ha ea_nil h1).imp fun ds ⟨d, r, h, p, q⟩ => ⟨d, by rw [h, q], p⟩
theorem ea2 (ha : Ev A X a Γ P1) (hb : Ev A X b Γ P2) (h1 : starEach [a, b] X.env = (false, eval a X.env) :: starEach [b] X.env := by rfl) (h2 : starEach [b] X.env = (false, eval b X.env) :: starEach [] X.env := by rfl) :
    EvA A X [a, b] Γ (fun ds => ∃ d d', ds = [d, d'] ∧ P1 d ∧ P2 d') :=
  (ea_cons ha (ea1 hb h2) h1).imp fun ds ⟨d, r, h, p, d', h', p'⟩ => ⟨d, d', by rw [h, h'], p, p'⟩
theorem ea3 {P3 : Dat → Prop} (ha : Ev A X a Γ P1) (hb : Ev A X b Γ P2) (hc : Ev A X c Γ P3) (h1 : starEach [a, b, c] X.env = (false, eval a X.env) :: starEach [b, c] X.env := by rfl) (h2 : starEach [b, c] X.env = (false, eval b X.env) :: starEach [c] X.env := by rfl) (h3 : starEach [c] X.env = (false, eval c X.env) :: starEach [] X.env := by rfl) :
    EvA A X [a, b, c] Γ (fun ds => ∃ d d' d'', ds = [d, d', d''] ∧ P1 d ∧ P2 d' ∧ P3 d'') :=
  (ea_cons ha (ea2 hb hc h2 h3) h1).imp fun ds ⟨d, r, h, p, d', d'', h', p', p''⟩ => ⟨d, d', d'', by rw [h, h'], p, p', p''⟩

/-! ### names, constants -/
theorem ev_v {d : Dat} (i : Nat) {x : Str} (hΓ : Γ[i]? = some (some (.im d)) := by rfl) (hN : X.N[i]? = some x := by rfl) (hv : Vis X.env.scope x := by first | exact Or.inl rfl | exact Or.inr (Or.inl rfl) | exact Or.inr (Or.inr rfl))
    (hd : (x == ("__debug__" : Str)) = false := by decide) (hcd : (x == ("__classdict__" : Str)) = false := by decide) : Ev A X (.Name x pos) Γ (fun z => z = d) := ev_k (pe_var hN hv hd hcd) fun F σ B H R Q q => by
  obtain ⟨v, e, i1⟩ := R.im hΓ
  exact ⟨v, e, q v B H d rfl (Stp.refl R.sub R.mB) R i1⟩
theorem ev_c {v : V} {d : Dat} (pe : PE X e (tC v)) (h : ∀ B, Is A B d v) : Ev A X e Γ (fun z => z = d) := ev_k pe fun F σ B H R Q q => q v B H d rfl (Stp.refl R.sub R.mB) R (h B)
theorem ev_int {i : Int} {j} : Ev A X (.Constant (.int i) j pos) Γ (fun z => z = .int i) := ev_c pe_int fun _ => rfl
theorem ev_bl {b : Bool} {j} : Ev A X (.Constant (.bool b) j pos) Γ (fun z => z = .bl b) := ev_c pe_bl fun _ => rfl
theorem ev_non {j} : Ev A X (.Constant .none j pos) Γ (fun z => z = .non) := ev_c pe_non fun _ => rfl
theorem ev_str {s : Str} {j} : Ev A X (.Constant (.str s) j pos) Γ (fun z => z = .str s) := ev_c pe_str fun _ => rfl
/-- a constant int of the module -/
theorem ev_gi {x : Str} {i : Int} {t : Tok} (hm : X.mg x = some (.int i t)) (hg : Gl X x := by rfl) (hd : (x == ("__debug__" : Str)) = false := by decide) : Ev A X (.Name x pos) Γ (fun z => z = .int i) :=
  ev_c (pe_glob hg hm (v := .int i) ⟨t, rfl⟩ hd) fun _ => rfl

/-! ### whole numbers -/
theorem ev_add {i j : Int} (ha : Ev A X a Γ (fun z => z = .int i)) (hb : Ev A X b Γ (fun z => z = .int j)) : Ev A X (.BinOp a .Add b pos) Γ (fun z => z = .int (i + j)) :=
  ev_two (pe_op op_add pe_w pe_w) ha hb fun x y da db B H e1 e2 h1 h2 ex Q q => by
    subst e1 e2; cases h1; cases h2
    exact ⟨i, j, rfl, rfl, q _ B H _ rfl (Stp.refl0 ex) rfl⟩
theorem ev_sub {i j : Int} (ha : Ev A X a Γ (fun z => z = .int i)) (hb : Ev A X b Γ (fun z => z = .int j)) : Ev A X (.BinOp a .Sub b pos) Γ (fun z => z = .int (i - j)) :=
  ev_two (pe_op op_sub pe_w pe_w) ha hb fun x y da db B H e1 e2 h1 h2 ex Q q => by
    subst e1 e2; cases h1; cases h2
    exact ⟨i, j, rfl, rfl, q _ B H _ rfl (Stp.refl0 ex) rfl⟩
/-- factors of n and m bits -/
theorem ev_mul {i j : Int} (n m : Nat) (ha : Ev A X a Γ (fun z => z = .int i)) (hb : Ev A X b Γ (fun z => z = .int j)) (h1 : i.natAbs < 2 ^ n) (h2 : j.natAbs < 2 ^ m) (hn : 0 < n := by decide) (hm : 0 < m := by decide) (hs : n + m ≤ 1000000 := by decide) :
    Ev A X (.BinOp a .Mult b pos) Γ (fun z => z = .int (i * j)) :=
  ev_two (pe_op op_mulW pe_w pe_w) ha hb fun x y da db B H e1 e2 i1 i2 ex Q q => by
    subst e1 e2; cases i1; cases i2
    exact ⟨i, j, rfl, rfl, wide_mul h1 h2 hn hm hs, q _ B H _ rfl (Stp.refl0 ex) rfl⟩
theorem ev_fdiv {i j : Int} (n : Nat) (ha : Ev A X a Γ (fun z => z = .int i)) (hb : Ev A X b Γ (fun z => z = .int j)) (h0 : 0 < j) (h1 : j.natAbs < 2 ^ n) (hn : 0 < n := by decide) (hs : n ≤ 9000 := by decide) :
    Ev A X (.BinOp a .FloorDiv b pos) Γ (fun z => z = .int (i / j)) :=
  ev_two (pe_op op_fdivW pe_w pe_w) ha hb fun x y da db B H e1 e2 i1 i2 ex Q q => by
    subst e1 e2; cases i1; cases i2
    exact ⟨i, j, rfl, rfl, wide_div h0 h1 hn hs, q _ B H _ rfl (Stp.refl0 ex) rfl⟩
theorem ev_mod {i j : Int} (ha : Ev A X a Γ (fun z => z = .int i)) (hb : Ev A X b Γ (fun z => z = .int j)) (h0 : 0 < j) : Ev A X (.BinOp a .Mod b pos) Γ (fun z => z = .int (i % j)) :=
  ev_two (pe_op op_mod pe_w pe_w) ha hb fun x y da db B H e1 e2 i1 i2 ex Q q => by
    subst e1 e2; cases i1; cases i2
    exact ⟨i, j, rfl, rfl, h0, q _ B H _ rfl (Stp.refl0 ex) rfl⟩
theorem ev_pow {i j : Int} (ha : Ev A X a Γ (fun z => z = .int i)) (hb : Ev A X b Γ (fun z => z = .int j)) (hc : CPow i j) : Ev A X (.BinOp a .Pow b pos) Γ (fun z => z = .int (i ^ j.toNat)) :=
  ev_two (pe_op op_pow pe_w pe_w) ha hb fun x y da db B H e1 e2 i1 i2 ex Q q => by
    subst e1 e2; cases i1; cases i2
    exact ⟨i, j, rfl, rfl, hc, q _ B H _ rfl (Stp.refl0 ex) rfl⟩
theorem ev_neg {i : Int} (ha : Ev A X a Γ (fun z => z = .int i)) : Ev A X (.UnaryOp .USub a pos) Γ (fun z => z = .int (-i)) :=
  ev_un (pe_un un_neg pe_w) ha fun x da B H e1 i1 ex Q q => by
    subst e1; cases i1
    exact ⟨i, rfl, q _ B H _ rfl (Stp.refl0 ex) rfl⟩

/-! ### comparisons, by values -/
theorem rk_cmp {f : Int → Int → Bool} {i j : Int} : R2k A (rI0 fun i j => .bl (f i j)) (fun z => z = .int i) (fun z => z = .int j) (fun z => z = .bl (f i j)) := fun x y da db B H e1 e2 i1 i2 ex Q q => by
  subst e1 e2; cases i1; cases i2
  exact ⟨i, j, rfl, rfl, q _ B H _ rfl (Stp.refl0 ex) rfl⟩
theorem rk_eq {i j : Int} : R2k A rEq (fun z => z = .int i) (fun z => z = .int j) (fun z => z = .bl (decide (i = j))) := fun x y da db B H e1 e2 i1 i2 ex Q q => by
  subst e1 e2; cases i1; cases i2
  refine ⟨rfl, q _ B H _ rfl (Stp.refl0 ex) ?_⟩
  show V.bl _ = V.bl _
  congr 1
  simp
theorem rk_ne {i j : Int} : R2k A rNe (fun z => z = .int i) (fun z => z = .int j) (fun z => z = .bl (!decide (i = j))) := fun x y da db B H e1 e2 i1 i2 ex Q q => by
  subst e1 e2; cases i1; cases i2
  refine ⟨rfl, q _ B H _ rfl (Stp.refl0 ex) ?_⟩
  show V.bl _ = V.bl _
  congr 1
  simp
theorem rk_neS {s t : Str} : R2k A rNe (fun z => z = .str s) (fun z => z = .str t) (fun z => z = .bl (!decide (s = t))) := fun x y da db B H e1 e2 i1 i2 ex Q q => by
  subst e1 e2; cases i1; cases i2
  refine ⟨rfl, q _ B H _ rfl (Stp.refl0 ex) ?_⟩
  show V.bl _ = V.bl _
  congr 1
  simp
theorem rk_eqS {s t : Str} : R2k A rEq (fun z => z = .str s) (fun z => z = .str t) (fun z => z = .bl (decide (s = t))) := fun x y da db B H e1 e2 i1 i2 ex Q q => by
  subst e1 e2; cases i1; cases i2
  refine ⟨rfl, q _ B H _ rfl (Stp.refl0 ex) ?_⟩
  show V.bl _ = V.bl _
  congr 1
  simp
/-- a comparison as a value, as a test -/
theorem ev_cmp {op : CmpOp} {r : R2} (ho : OpR X (compareOp op) r) (ha : Ev A X a Γ P1) (hb : Ev A X b Γ P2) (hr : R2k A r P1 P2 P) (hm : behindInMarks op b = false) : Ev A X (.Compare a [op] [b] pos) Γ P :=
  ev_two (pe_cmpR ho pe_w pe_w hm) ha hb hr
theorem et_cmp {op : CmpOp} {r : R2} {k : Bool} (ho : OpR X (compareOp op) r) (ha : Ev A X a Γ P1) (hb : Ev A X b Γ P2) (hr : R2k A r P1 P2 (fun z => z = .bl k)) (hm : behindInMarks op b = false) : EvT A X (.Compare a [op] [b] pos) Γ (fun z => z = k) := fun F σ B H R Q q =>
  ⟨_, pt_cmpR ho pe_w pe_w hm, ha F σ B H R _ fun x B1 H1 da p1 s1 R1 i1 => hb F σ B1 H1 R1 _ fun y B2 H2 db p2 s2 R2 i2 =>
    hr x y da db B2 H2 p1 p2 (i1.mono s2.exB) i2 R2.sub _ fun v B' H' d p s i => by
      subst p; cases i
      exact ⟨k, rfl, q k B' H' rfl ((s1.trans s2).trans (s.weak R2.mB)) (R2.step s)⟩⟩
section
variable {i j : Int} (ha : Ev A X a Γ (fun z => z = .int i)) (hb : Ev A X b Γ (fun z => z = .int j))
include ha hb
theorem ev_lt : Ev A X (.Compare a [.Lt] [b] pos) Γ (fun z => z = .bl (decide (i < j))) := ev_cmp op_lt ha hb rk_cmp (nomark _)
theorem ev_le : Ev A X (.Compare a [.LtE] [b] pos) Γ (fun z => z = .bl (decide (i ≤ j))) := ev_cmp op_le ha hb rk_cmp (nomark _)
theorem ev_gt : Ev A X (.Compare a [.Gt] [b] pos) Γ (fun z => z = .bl (decide (j < i))) := ev_cmp op_gt ha hb rk_cmp (nomark _)
theorem ev_ge : Ev A X (.Compare a [.GtE] [b] pos) Γ (fun z => z = .bl (decide (j ≤ i))) := ev_cmp op_ge ha hb rk_cmp (nomark _)
theorem ev_eq : Ev A X (.Compare a [.Eq] [b] pos) Γ (fun z => z = .bl (decide (i = j))) := ev_cmp op_eq ha hb rk_eq (nomark _)
theorem ev_ne : Ev A X (.Compare a [.NotEq] [b] pos) Γ (fun z => z = .bl (!decide (i = j))) := ev_cmp op_ne ha hb rk_ne (nomark _)
theorem et_lt : EvT A X (.Compare a [.Lt] [b] pos) Γ (fun z => z = decide (i < j)) := et_cmp op_lt ha hb rk_cmp (nomark _)
theorem et_le : EvT A X (.Compare a [.LtE] [b] pos) Γ (fun z => z = decide (i ≤ j)) := et_cmp op_le ha hb rk_cmp (nomark _)
theorem et_gt : EvT A X (.Compare a [.Gt] [b] pos) Γ (fun z => z = decide (j < i)) := et_cmp op_gt ha hb rk_cmp (nomark _)
theorem et_ge : EvT A X (.Compare a [.GtE] [b] pos) Γ (fun z => z = decide (j ≤ i)) := et_cmp op_ge ha hb rk_cmp (nomark _)
theorem et_eq : EvT A X (.Compare a [.Eq] [b] pos) Γ (fun z => z = decide (i = j)) := et_cmp op_eq ha hb rk_eq (nomark _)
theorem et_ne : EvT A X (.Compare a [.NotEq] [b] pos) Γ (fun z => z = !decide (i = j)) := et_cmp op_ne ha hb rk_ne (nomark _)
end
theorem et_neS {s t : Str} (ha : Ev A X a Γ (fun z => z = .str s)) (hb : Ev A X b Γ (fun z => z = .str t)) : EvT A X (.Compare a [.NotEq] [b] pos) Γ (fun z => z = !decide (s = t)) := et_cmp op_ne ha hb rk_neS (nomark _)
theorem ev_eqS {s t : Str} (ha : Ev A X a Γ (fun z => z = .str s)) (hb : Ev A X b Γ (fun z => z = .str t)) : Ev A X (.Compare a [.Eq] [b] pos) Γ (fun z => z = .bl (decide (s = t))) := ev_cmp op_eq ha hb rk_eqS (nomark _)
/-- is not None -/
theorem is_non {B : Hp} {d : Dat} {v : V} (h : Is A B d v) : (v = .non) ↔ (d = .non) := by
  cases d with
  | non => exact ⟨fun _ => rfl, fun _ => h⟩
  | bl b => cases h; exact ⟨fun z => (nomatch z), fun z => (nomatch z)⟩
  | int b => cases h; exact ⟨fun z => (nomatch z), fun z => (nomatch z)⟩
  | str b => cases h; exact ⟨fun z => (nomatch z), fun z => (nomatch z)⟩
  | dic => obtain ⟨a, rfl, _⟩ := h; exact ⟨fun z => (nomatch z), fun z => (nomatch z)⟩
  | lst b => obtain ⟨a, _, rfl, _⟩ := h; exact ⟨fun z => (nomatch z), fun z => (nomatch z)⟩
  | tup b => obtain ⟨a, _, rfl, _⟩ := h; exact ⟨fun z => (nomatch z), fun z => (nomatch z)⟩
  | rat t b => obtain ⟨a, _, rfl, _⟩ := h; exact ⟨fun z => (nomatch z), fun z => (nomatch z)⟩
  | prs r n i => obtain ⟨a, _, _, _, _, rfl, _⟩ := h; exact ⟨fun z => (nomatch z), fun z => (nomatch z)⟩
theorem ev_isnotN {d : Dat} {j pos'} (ha : Ev A X a Γ (fun z => z = d)) : Ev A X (.Compare a [.IsNot] [.Constant .none j pos'] pos) Γ (fun z => ∃ k : Bool, z = .bl k ∧ (k = false ↔ d = .non)) :=
  ev_cmp op_notN ha ev_non (fun x y da db B H e1 e2 i1 i2 ex Q q => by
    subst e1 e2; cases i2
    refine ⟨rfl, q _ B H _ ⟨_, rfl, ?_⟩ (Stp.refl0 ex) rfl⟩
    rw [Bool.not_eq_false', decide_eq_true_eq]
    exact is_non i1) (nomark _)

/-! ### and, or, not -/
theorem ev_and {es : List Expr} {k : Bool} (ha : Ev A X a Γ (fun z => z = .bl k)) (hb : k = true → Ev A X (.BoolOp .And (b :: es) pos) Γ P) (hf : k = false → P (.bl false)) : Ev A X (.BoolOp .And (a :: b :: es) pos) Γ P :=
  ev_k (pe_and pe_w pe_w) fun F σ B H R Q q => ha F σ B H R _ fun x B1 H1 d p1 s1 R1 i1 => by
    subst p1; cases i1
    refine ⟨k, rfl, ?_⟩
    cases k with
    | true => exact hb rfl F σ B1 H1 R1 Q fun v B' H' d p s r i => q v B' H' d p (s1.trans s) r i
    | false => exact q _ B1 H1 _ (hf rfl) s1 R1 rfl
theorem ev_or {es : List Expr} {k : Bool} (ha : Ev A X a Γ (fun z => z = .bl k)) (hb : k = false → Ev A X (.BoolOp .Or (b :: es) pos) Γ P) (hf : k = true → P (.bl true)) : Ev A X (.BoolOp .Or (a :: b :: es) pos) Γ P :=
  ev_k (pe_or pe_w pe_w) fun F σ B H R Q q => ha F σ B H R _ fun x B1 H1 d p1 s1 R1 i1 => by
    subst p1; cases i1
    refine ⟨k, rfl, ?_⟩
    cases k with
    | true => exact q _ B1 H1 _ (hf rfl) s1 R1 rfl
    | false => exact hb rfl F σ B1 H1 R1 Q fun v B' H' d p s r i => q v B' H' d p (s1.trans s) r i
theorem ev_last {op : BoolOp} (ha : Ev A X a Γ P) : Ev A X (.BoolOp op [a] pos) Γ P := ev_k (pe_one pe_w) fun F σ B H R Q q => ha F σ B H R Q q
theorem ev_not {k : Bool} (ha : Ev A X a Γ (fun z => z = .bl k)) : Ev A X (.UnaryOp .Not a pos) Γ (fun z => z = .bl (!k)) := ev_k (pe_not pe_w) fun F σ B H R Q q => ha F σ B H R _ fun x B1 H1 d p1 s1 R1 i1 => by
  subst p1; cases i1
  exact ⟨k, rfl, q _ B1 H1 _ rfl s1 R1 rfl⟩
/-- k and l, both known -/
theorem ev_and2 {k l : Bool} (ha : Ev A X a Γ (fun z => z = .bl k)) (hb : k = true → Ev A X b Γ (fun z => z = .bl l)) : Ev A X (.BoolOp .And [a, b] pos) Γ (fun z => z = .bl (k && l)) :=
  ev_and ha (fun h => by rw [h]; exact ev_last (hb h)) (fun h => by rw [h]; rfl)
theorem ev_or2 {k l : Bool} (ha : Ev A X a Γ (fun z => z = .bl k)) (hb : k = false → Ev A X b Γ (fun z => z = .bl l)) : Ev A X (.BoolOp .Or [a, b] pos) Γ (fun z => z = .bl (k || l)) :=
  ev_or ha (fun h => by rw [h]; exact ev_last (hb h)) (fun h => by rw [h]; rfl)
theorem ev_and3 {k l m : Bool} (ha : Ev A X a Γ (fun z => z = .bl k)) (hb : k = true → Ev A X b Γ (fun z => z = .bl l)) (hc : k = true → l = true → Ev A X c Γ (fun z => z = .bl m)) : Ev A X (.BoolOp .And [a, b, c] pos) Γ (fun z => z = .bl (k && (l && m))) :=
  ev_and ha (fun h => (ev_and2 (hb h) (hc h)).imp fun d e => by rw [e, h]; rfl) (fun h => by rw [h]; rfl)
theorem ev_if {k : Bool} (hc : EvT A X c Γ (fun z => z = k)) (ha : k = true → Ev A X a Γ P) (hb : k = false → Ev A X b Γ P) : Ev A X (.IfExp c a b pos) Γ P :=
  ev_k (pe_ifExp pt_w pe_w pe_w) fun F σ B H R Q q => hc F σ B H R _ fun x B1 H1 p1 s1 R1 => by
    subst p1
    cases x with
    | true => exact ha rfl F σ B1 H1 R1 Q fun v B' H' d p s r i => q v B' H' d p (s1.trans s) r i
    | false => exact hb rfl F σ B1 H1 R1 Q fun v B' H' d p s r i => q v B' H' d p (s1.trans s) r i
/-- tests -/
theorem et_v {k : Bool} (h : Ev A X a Γ (fun z => z = .bl k)) (he : ∀ whole, isTrue a X.env whole = (do let v ← whole; standAt a.pos; holding [v] (truthy v)) := by intro _; rfl) : EvT A X a Γ (fun z => z = k) := fun F σ B H R Q q =>
  ⟨_, pt_val pe_w he, h F σ B H R _ fun x B1 H1 d p1 s1 R1 i1 => by
    subst p1; cases i1
    exact ⟨k, rfl, q k B1 H1 rfl s1 R1⟩⟩
theorem et_not {k : Bool} (h : EvT A X a Γ (fun z => z = k)) : EvT A X (.UnaryOp .Not a pos) Γ (fun z => z = !k) := fun F σ B H R Q q =>
  ⟨_, pt_not pt_w, h F σ B H R _ fun x B1 H1 p1 s1 R1 => by
    subst p1
    exact q _ B1 H1 rfl s1 R1⟩
def wW (X : Cx) (e : Expr) : TT := fun σ H Q => ∃ t, PW X e t ∧ t σ H Q
theorem pw_w {e : Expr} : PW X e (wW X e) := ⟨fun wh pins s σ H Q I ⟨_, h, q⟩ => h.run wh pins s σ H Q I q⟩
def EvW (A : Ad) (X : Cx) (e : Expr) (Γ : Sls) (P : Bool → Prop) : Prop :=
  ∀ (F : Fx) (σ : L2.St) (B H : Hp), Rel A F Γ σ B H → ∀ Q : Bool → Hp → Prop, (∀ b B' H', P b → Stp F.mp B H B' H' → Rel A F Γ σ B' H' → Q b H') → wW X e σ H Q
theorem EvW.t {P : Bool → Prop} (h : EvW A X e Γ P) : EvT A X e Γ P := fun F σ B H R Q q => ⟨_, pw_w.pt, h F σ B H R Q q⟩
theorem ew_or1 {P : Bool → Prop} (ha : EvT A X a Γ P) : EvW A X (.BoolOp .Or [a] pos) Γ P := fun F σ B H R Q q => ⟨_, pw_or1 pt_w, ha F σ B H R Q q⟩
theorem ew_and1 {P : Bool → Prop} (ha : EvT A X a Γ P) : EvW A X (.BoolOp .And [a] pos) Γ P := fun F σ B H R Q q => ⟨_, pw_and1 pt_w, ha F σ B H R Q q⟩
theorem ew_or {es : List Expr} {k l : Bool} (ha : EvT A X a Γ (fun z => z = k)) (hb : k = false → EvW A X (.BoolOp .Or (b :: es) pos) Γ (fun z => z = l)) : EvW A X (.BoolOp .Or (a :: b :: es) pos) Γ (fun z => z = (k || l)) := fun F σ B H R Q q =>
  ⟨_, pw_or pt_w pw_w, ha F σ B H R _ fun x B1 H1 p1 s1 R1 => by
    subst p1
    cases x with
    | true => exact q true B1 H1 rfl s1 R1
    | false => exact hb rfl F σ B1 H1 R1 Q fun v B' H' p s r => q v B' H' (by rw [p]; rfl) (s1.trans s) r⟩
theorem ew_and {es : List Expr} {k l : Bool} (ha : EvT A X a Γ (fun z => z = k)) (hb : k = true → EvW A X (.BoolOp .And (b :: es) pos) Γ (fun z => z = l)) : EvW A X (.BoolOp .And (a :: b :: es) pos) Γ (fun z => z = (k && l)) := fun F σ B H R Q q =>
  ⟨_, pw_and pt_w pw_w, ha F σ B H R _ fun x B1 H1 p1 s1 R1 => by
    subst p1
    cases x with
    | false => exact q false B1 H1 rfl s1 R1
    | true => exact hb rfl F σ B1 H1 R1 Q fun v B' H' p s r => q v B' H' (by rw [p]; rfl) (s1.trans s) r⟩

/-! ### lists and tuples -/
theorem ev_tup {PA1 : List Dat → Prop} {k} (h : EvA A X es Γ PA1) (hl : ∀ ds, PA1 ds → ds.length ≤ sizeLine) : Ev A X (.Tuple es k pos) Γ (fun z => ∃ ds, PA1 ds ∧ z = .tup ds) :=
  ev_k (pe_tup pa_w) fun F σ B H R Q q => h F σ B H R _ fun xs B1 H1 ds p1 s1 R1 i1 => ⟨by rw [← i1.len]; exact hl ds p1, fun p hp => by
    have s2 := Stp.new (o := .tup xs) R1.sub hp
    exact q (.ref p) _ _ (.tup ds) ⟨ds, p1, rfl⟩ (s1.trans (s2.weak R1.mB)) (R1.step s2) ⟨p, xs, rfl, upd_same, i1.mono s2.exB⟩⟩
theorem en_lst {PA1 : List Dat → Prop} (h : EvA A X es Γ PA1) (hl : ∀ ds, PA1 ds → ds.length ≤ sizeLine) : EvN A X (.List es pos) Γ PA1 := fun F σ B H R Q q =>
  ⟨_, pe_lst pa_w, h F σ B H R _ fun xs B1 H1 ds p1 s1 R1 i1 => ⟨by rw [← i1.len]; exact hl ds p1, fun p hp => by
    have s2 := Stp.own (o := .lst xs) R1.sub hp
    have hp0 : H p = none := by
      cases z : H p with
      | none => rfl
      | some o =>
        by_cases m : some p = F.mp
        · exact absurd hp (R1.mB p m.symm).2
        · rw [s1.ex p o m z] at hp; cases hp
    exact q p xs B1 _ ds p1 (s1.trans (s2.weak R1.mB)) (R1.step s2) hp0 (R1.sub.back hp) upd_same i1⟩⟩
theorem fresh_of {F : Fx} {σ : L2.St} {B H B1 H1 : Hp} (s1 : Stp F.mp B H B1 H1) (R1 : Rel A F Γ σ B1 H1) {p : Addr} (hp : H1 p = none) : H p = none := by
  cases z : H p with
  | none => rfl
  | some o =>
    by_cases m : some p = F.mp
    · exact absurd hp (R1.mB p m.symm).2
    · rw [s1.ex p o m z] at hp; cases hp
/-- a new list laid -/
theorem new_lst {F : Fx} {σ : L2.St} {B H B1 H1 : Hp} {Q : VK} {ds : List Dat} {xs : List V} {P : List Dat → Prop} (s1 : Stp F.mp B H B1 H1) (R1 : Rel A F Γ σ B1 H1) (i1 : Iss A B1 ds xs) (hp : P ds)
    (q : ∀ p xs B' H' ds, P ds → Stp F.mp B H B' H' → Rel A F Γ σ B' H' → H p = none → B' p = none → H' p = some (.lst xs) → Iss A B' ds xs → Q (.ref p) H') : ∀ p, H1 p = none → Q (.ref p) (upd H1 p (.lst xs)) := fun p h => by
  have s2 := Stp.own (o := .lst xs) R1.sub h
  exact q p xs B1 _ ds hp (s1.trans (s2.weak R1.mB)) (R1.step s2) (fresh_of s1 R1 h) (R1.sub.back h) upd_same i1
/-- xs + ys -/
theorem en_cat {ds es' : List Dat} (ha : Ev A X a Γ (fun z => z = .lst ds)) (hb : Ev A X b Γ (fun z => z = .lst es')) (hl : ds.length + es'.length ≤ sizeLine) : EvN A X (.BinOp a .Add b pos) Γ (fun z => z = ds ++ es') := fun F σ B H R Q q =>
  ⟨_, pe_op op_cat pe_w pe_w, ha F σ B H R _ fun x B1 H1 da p1 s1 R1 i1 => hb F σ B1 H1 R1 _ fun y B2 H2 db p2 s2 R2 i2 => by
    subst p1 p2
    obtain ⟨l, xs, rfl, h1, j1⟩ := i1
    obtain ⟨m, ys, rfl, h2, j2⟩ := i2
    exact ⟨l, m, xs, ys, rfl, rfl, R2.sub _ _ (s2.exB _ _ h1), R2.sub _ _ h2, by rw [← j1.len, ← j2.len]; exact hl,
      new_lst (P := fun z => z = ds ++ es') (s1.trans s2) R2 ((j1.mono s2.exB).append j2) rfl q⟩⟩
theorem rep_flat (v : V) : ∀ n : Nat, (List.replicate n [v]).flatten = List.replicate n v
  | 0 => rfl
  | n + 1 => by rw [List.replicate_succ, List.flatten_cons, rep_flat v n, List.replicate_succ]; rfl
/-- [d] * n -/
theorem en_rep {d : Dat} {n : Nat} (ha : Ev A X a Γ (fun z => z = .lst [d])) (hb : Ev A X b Γ (fun z => z = .int (n : Int))) (hl : n ≤ 100000) : EvN A X (.BinOp a .Mult b pos) Γ (fun z => z = List.replicate n d) := fun F σ B H R Q q =>
  ⟨_, pe_op op_rep pe_w pe_w, ha F σ B H R _ fun x B1 H1 da p1 s1 R1 i1 => hb F σ B1 H1 R1 _ fun y B2 H2 db p2 s2 R2 i2 => by
    subst p1 p2
    obtain ⟨l, xs, rfl, h1, j1⟩ := i1
    cases i2
    obtain ⟨v, rfl, j2⟩ := j1.one
    have e : (List.replicate ((n : Int)).toNat [v]).flatten = List.replicate n v := by rw [Int.toNat_natCast]; exact rep_flat v n
    refine ⟨l, _, [v], rfl, rfl, R2.sub _ _ (s2.exB _ _ h1), (by omega : -(2 ^ 63) ≤ (n : Int)), (by omega : (n : Int) < 2 ^ 63), ?_, ?_⟩
    · show 1 * _ ≤ _
      rw [Int.toNat_natCast, Nat.one_mul]
      exact Nat.le_trans hl (by decide)
    · rw [e]
      exact new_lst (P := fun z => z = List.replicate n d) (s1.trans s2) R2 (Iss.rep (j2.mono s2.exB) n) rfl q⟩
/-- the item at i: a list, a tuple -/
theorem ev_ixL {ds : List Dat} {P1 P : Dat → Prop} (ha : Ev A X a Γ (fun z => z = .lst ds)) (hb : Ev A X b Γ P1) (h : ∀ z, P1 z → ∃ (i : Int) (d : Dat), z = .int i ∧ atI ds i = some d ∧ P d) (hs : PlainIx b := by exact fun _ _ => rfl) : Ev A X (.Subscript a b pos) Γ P :=
  ev_two (pe_ix ix_list pe_w pe_w hs) ha hb fun x y da db B H e1 e2 i1 i2 ex Q q => by
    subst e1
    obtain ⟨i, d, rfl, hd, hP⟩ := h db e2
    obtain ⟨l, xs, rfl, h1, j1⟩ := i1
    cases i2
    unfold atI at hd
    obtain ⟨k, hk, hd⟩ := Option.bind_eq_some_iff.mp hd
    obtain ⟨v, hv, iv⟩ := j1.at hd
    refine ⟨l, xs, i, v, rfl, rfl, SqL.of (ex _ _ h1), ?_, q v B H d hP (Stp.refl0 ex) iv⟩
    unfold atI
    rw [← j1.len, hk]
    exact hv
theorem ev_ixT {ds : List Dat} {P1 P : Dat → Prop} (ha : Ev A X a Γ (fun z => z = .tup ds)) (hb : Ev A X b Γ P1) (h : ∀ z, P1 z → ∃ (i : Int) (d : Dat), z = .int i ∧ atI ds i = some d ∧ P d) (hs : PlainIx b := by exact fun _ _ => rfl) : Ev A X (.Subscript a b pos) Γ P :=
  ev_two (pe_ix ix_tup pe_w pe_w hs) ha hb fun x y da db B H e1 e2 i1 i2 ex Q q => by
    subst e1
    obtain ⟨i, d, rfl, hd, hP⟩ := h db e2
    obtain ⟨l, xs, rfl, h1, j1⟩ := i1
    cases i2
    unfold atI at hd
    obtain ⟨k, hk, hd⟩ := Option.bind_eq_some_iff.mp hd
    obtain ⟨v, hv, iv⟩ := j1.at hd
    refine ⟨l, xs, i, v, rfl, rfl, SqT.of (ex _ _ h1), ?_, q v B H d hP (Stp.refl0 ex) iv⟩
    unfold atI
    rw [← j1.len, hk]
    exact hv
/-- known place -/
theorem ev_atL {ds : List Dat} {i : Int} {d : Dat} (ha : Ev A X a Γ (fun z => z = .lst ds)) (hb : Ev A X b Γ (fun z => z = .int i)) (h : atI ds i = some d) (hs : PlainIx b := by exact fun _ _ => rfl) : Ev A X (.Subscript a b pos) Γ (fun z => z = d) :=
  ev_ixL ha hb (fun z e => ⟨i, d, e, h, rfl⟩) hs
theorem ev_atT {ds : List Dat} {i : Int} {d : Dat} (ha : Ev A X a Γ (fun z => z = .tup ds)) (hb : Ev A X b Γ (fun z => z = .int i)) (h : atI ds i = some d) (hs : PlainIx b := by exact fun _ _ => rfl) : Ev A X (.Subscript a b pos) Γ (fun z => z = d) :=
  ev_ixT ha hb (fun z e => ⟨i, d, e, h, rfl⟩) hs
theorem atI_n {α : Type} {xs : List α} {n : Nat} {d : α} (h : xs[n]? = some d) : atI xs (n : Int) = some d := atI_nat h

/-! ### built-in functions of values -/
theorem call1 {T : Value → Prop} {id : String} {r : List V → Hp → VK → Prop} {x : Str} {p : Pos} (hc : CallR X (.builtin id) r) (hm : X.mg x = none) (hv : bootBuiltins x = some (.builtin id)) (ha : Ev A X a Γ P1) (hr : RAk A r (fun ds => ∃ d, ds = [d] ∧ P1 d) P)
    (hg : Gl X x := by rfl) (hn : x ≠ "__name__" := by decide) (hdb : (x == ("__debug__" : Str)) = false := by decide) (h1 : starEach [a] X.env = (false, eval a X.env) :: starEach [] X.env := by rfl) (hpl : (backTo pos (starEach [] X.env)).any (·.1) = false := by rfl) :
    Ev A X (.Call (.Name x p) [a] [] pos) Γ P := ev_cb (pe_callB hc hg hm hv pa_w hn hdb h1 hpl) (ea1 ha h1) hr
end
end K64
/-! The rules: statements, targets, loops, comprehensions. -/
namespace K64
open PySem L2

/-! ### what a block comes to -/
structure AE where
  nx : Sls → Prop
  rt : Dat → Prop
  rtN : List Dat → Prop := fun _ => False
  bk : Sls → Prop := fun _ => False
  ct : Sls → Prop := fun _ => False
  /-- the pot is wanted at the end -/
  pt : Prop := False
  /-- a value told, whatever stands in the heap -/
  fin : V → Prop := fun _ => False
def PtOk (F : Fx) (pt : Prop) (H : Hp) : Prop := pt → ∃ p, F.mp = some p ∧ PotAt p H
structure EndsOk (A : Ad) (F : Fx) (a : AE) (D : Ends) : Prop where
  nx : ∀ (Γ : Sls) (σ : L2.St) (B H : Hp), a.nx Γ → Rel A F Γ σ B H → D.nx σ H
  rt : ∀ (d : Dat) (v : V) (B H : Hp), a.rt d → Stp F.mp F.B0 F.H0 B H → PtOk F a.pt H → Is A B d v → D.rt v H
  rtN : ∀ (ds : List Dat) (p : Addr) (xs : List V) (B H : Hp), a.rtN ds → Stp F.mp F.B0 F.H0 B H → PtOk F a.pt H → F.H0 p = none → B p = none → H p = some (.lst xs) → Iss A B ds xs → D.rt (.ref p) H
  bk : ∀ (Γ : Sls) (σ : L2.St) (B H : Hp), a.bk Γ → Rel A F Γ σ B H → D.bk σ H
  ct : ∀ (Γ : Sls) (σ : L2.St) (B H : Hp), a.ct Γ → Rel A F Γ σ B H → D.ct σ H
  fin : ∀ (v : V) (H : Hp), a.fin v → D.rt v H
def Sb (A : Ad) (X : Cx) (sts : List Stmt) (Γ : Sls) (a : AE) : Prop :=
  ∀ (F : Fx) (D : Ends) (σ : L2.St) (B H : Hp), EndsOk A F a D → Rel A F Γ σ B H → wB X sts D σ H

section
variable {A : Ad} {X : Cx} {Γ : Sls} {st : Stmt} {rest : List Stmt} {a : AE} {e c : Expr} {P P1 : Dat → Prop} {pos : Pos}
theorem sb_nil (h : a.nx Γ) : Sb A X [] Γ a := fun F D σ B H E R => ⟨_, pss_nil, E.nx Γ σ B H h R⟩
/-- a statement whose reading is known -/
theorem sb_st {t : TS} (ps : PS X st t) (h : ∀ (F : Fx) (D : Ends) (σ : L2.St) (B H : Hp), EndsOk A F { a with nx := fun Γ' => Sb A X rest Γ' a } D → Rel A F Γ σ B H → t D σ H) : Sb A X (st :: rest) Γ a := fun F D σ B H E R =>
  wB.cons ps (h F _ σ B H ⟨fun Γ' σ' B' H' s R' => s F D σ' B' H' E R', E.rt, E.rtN, E.bk, E.ct, E.fin⟩ R)
theorem EndsOk.nx' {F : Fx} {D : Ends} (E : EndsOk A F { a with nx := fun Γ' => Sb A X rest Γ' a } D) {Γ' : Sls} {σ : L2.St} {B H : Hp} (s : Sb A X rest Γ' a) (R : Rel A F Γ' σ B H) : D.nx σ H := E.nx Γ' σ B H s R

/-- x = e -/
theorem sb_set (i : Nat) {x : Str} {pos' : Pos} (he : Ev A X e Γ P) (k : ∀ d, P d → Sb A X rest (Γ.set i (some (.im d))) a) (hN : X.N.Nodup := by assumption) (hi : X.N[i]? = some x := by rfl) (hx : Loc X.env.scope x := by first | exact Or.inl rfl | exact Or.inr rfl) (hl : i < Γ.length := by exact Nat.le_of_ble_eq_true rfl)
    (hs : swapsWith e (some (.Name x pos')) pos.line X.env = pure false := by rfl) (hf : X.fn x = true ∨ X.env.scope.names.lookup x = some .local := by first | exact .inl rfl | exact .inr rfl) : Sb A X (.Assign [.Name x pos'] e pos :: rest) Γ a :=
  sb_st (ps_set hN hi hx pe_w hs hf) fun F D σ B H E R => he F σ B H R _ fun v B' H' d p s R' iv => E.nx' (k d p) (R'.set iv hl)
theorem slot_ne {F : Fx} {σ : L2.St} {B H B' H' : Hp} (R : Rel A F Γ σ B H) {p : Addr} (h : H p = none) : ∀ (j : Nat) (es : List Dat), Γ[j]? = some (some (.mu es)) → σ[j]? ≠ some (some (.ref p)) := fun j es hj e => by
  obtain ⟨q, xs, e', _, _, _, hq, _⟩ := R.mu hj
  rw [e] at e'
  cases e'
  rw [h] at hq; cases hq
/-- x = a new list -/
theorem sb_setN (i : Nat) {x : Str} {pos' : Pos} {PN : List Dat → Prop} (he : EvN A X e Γ PN) (k : ∀ ds, PN ds → Sb A X rest (Γ.set i (some (.mu ds))) a) (hN : X.N.Nodup := by assumption) (hi : X.N[i]? = some x := by rfl) (hx : Loc X.env.scope x := by first | exact Or.inl rfl | exact Or.inr rfl) (hl : i < Γ.length := by exact Nat.le_of_ble_eq_true rfl)
    (hs : swapsWith e (some (.Name x pos')) pos.line X.env = pure false := by rfl) (hf : X.fn x = true ∨ X.env.scope.names.lookup x = some .local := by first | exact .inl rfl | exact .inr rfl) : Sb A X (.Assign [.Name x pos'] e pos :: rest) Γ a :=
  sb_st (ps_set hN hi hx pe_w hs hf) fun F D σ B H E R => he F σ B H R _ fun p xs B' H' ds pd s R' h1 h2 h3 h4 =>
    E.nx' (k ds pd) (R'.setMu (R.fresh0 h1) (R.nmp h1) h2 h3 h4 hl fun j es _ hj => slot_ne (B' := B) (H' := H) R h1 j es hj)
/-- x, y = e1, e2 -/
theorem sb_par (i j : Nat) {x y : Str} {e1 e2 : Expr} {P2 : Dat → Prop} {px py pt : Pos} {kt k2 pt2} (h1 : Ev A X e1 Γ P1) (h2 : Ev A X e2 Γ P2) (k : ∀ d d', P1 d → P2 d' → Sb A X rest ((Γ.set i (some (.im d))).set j (some (.im d'))) a)
    (hN : X.N.Nodup := by assumption) (hc : X.calm = true := by rfl) (hi : X.N[i]? = some x := by rfl) (hj : X.N[j]? = some y := by rfl) (hij : i ≠ j := by decide) (hx : X.env.scope.names.lookup x = some .local := by rfl) (hy : X.env.scope.names.lookup y = some .local := by rfl)
    (hw : swappedStores [.Tuple [.Name x px, .Name y py] kt pt] (.Tuple [e1, e2] k2 pt2) X.env = pure (some [x, y]) := by rfl)
    (hs : swapsWithSole [.Tuple [.Name x px, .Name y py] kt pt] (.Tuple [e1, e2] k2 pt2) pos.line X.env = pure false := by rfl)
    (hs1 : starEach [e1, e2] X.env = (false, eval e1 X.env) :: starEach [e2] X.env := by rfl) (hs2 : starEach [e2] X.env = (false, eval e2 X.env) :: starEach [] X.env := by rfl) (hl : i < Γ.length := by exact Nat.le_of_ble_eq_true rfl) (hl2 : j < Γ.length := by exact Nat.le_of_ble_eq_true rfl) :
    Sb A X (.Assign [.Tuple [.Name x px, .Name y py] kt pt] (.Tuple [e1, e2] k2 pt2) pos :: rest) Γ a :=
  sb_st (ps_par hc hN hi hj hij hx hy pa_w hw hs) fun F D σ B H E R => ea2 h1 h2 hs1 hs2 F σ B H R _ fun vs B' H' ds p s R' iv => by
    obtain ⟨d, d', rfl, p1, p2⟩ := p
    obtain ⟨v, w, rfl, i1, i2⟩ := iv.two
    exact ⟨v, w, rfl, E.nx' (k d d' p1 p2) ((R'.set i1 hl).set i2 (by rw [List.length_set]; exact hl2))⟩
/-- x, y = a new list, e2 -/
theorem sb_parN (i j : Nat) {x y : Str} {e1 e2 : Expr} {P2 : Dat → Prop} {PN : List Dat → Prop} {px py pt : Pos} {kt k2 pt2} (h1 : EvN A X e1 Γ PN) (h2 : Ev A X e2 Γ P2) (k : ∀ ds d', PN ds → P2 d' → Sb A X rest ((Γ.set i (some (.mu ds))).set j (some (.im d'))) a)
    (hN : X.N.Nodup := by assumption) (hc : X.calm = true := by rfl) (hi : X.N[i]? = some x := by rfl) (hj : X.N[j]? = some y := by rfl) (hij : i ≠ j := by decide) (hx : X.env.scope.names.lookup x = some .local := by rfl) (hy : X.env.scope.names.lookup y = some .local := by rfl)
    (hw : swappedStores [.Tuple [.Name x px, .Name y py] kt pt] (.Tuple [e1, e2] k2 pt2) X.env = pure (some [x, y]) := by rfl)
    (hs : swapsWithSole [.Tuple [.Name x px, .Name y py] kt pt] (.Tuple [e1, e2] k2 pt2) pos.line X.env = pure false := by rfl)
    (hs1 : starEach [e1, e2] X.env = (false, eval e1 X.env) :: starEach [e2] X.env := by rfl) (hs2 : starEach [e2] X.env = (false, eval e2 X.env) :: starEach [] X.env := by rfl) (hl : i < Γ.length := by exact Nat.le_of_ble_eq_true rfl) (hl2 : j < Γ.length := by exact Nat.le_of_ble_eq_true rfl) :
    Sb A X (.Assign [.Tuple [.Name x px, .Name y py] kt pt] (.Tuple [e1, e2] k2 pt2) pos :: rest) Γ a :=
  sb_st (ps_par hc hN hi hj hij hx hy pa_w hw hs) fun F D σ B H E R => ⟨_, pa_cons pe_w pa_w hs1, h1 F σ B H R _ fun p xs B1 H1 ds pd s1 R1 g1 g2 g3 g4 => ea1 h2 hs2 F σ B1 H1 R1 _ fun vs B' H' ds' p2 s R' iv => by
    obtain ⟨d', rfl, p2⟩ := p2
    obtain ⟨w, rfl, i2⟩ := iv.one
    have hm := R.nmp g1
    have hp' : H' p = some (.lst xs) := s.ex p _ (fun z => hm z.symm) g3
    have hB' : B' p = none := s.av p g2 (by rw [g3]; exact fun z => nomatch z)
    exact ⟨_, w, rfl, E.nx' (k ds d' pd p2) ((R'.setMu (R.fresh0 g1) hm hB' hp' (g4.mono s.exB) hl fun j es _ hj => slot_ne (B' := B) (H' := H) R g1 j es hj).set i2 (by rw [List.length_set]; exact hl2))⟩⟩

/-! ### targets -/
def wG (X : Cx) (tg : Expr) : TG := fun v σ H Q => ∃ t, PG X tg t ∧ t v σ H Q
theorem pg_w {tg : Expr} : PG X tg (wG X tg) := ⟨fun pins s σ H v u Q I r ⟨_, h, q⟩ => h.run pins s σ H v u Q I r q⟩
/-- two lists that agree but at js -/
def Off {α : Type} (js : List Nat) (l l' : List α) : Prop := l'.length = l.length ∧ ∀ j, j ∉ js → l'[j]? = l[j]?
theorem Off.set {α : Type} (l : List α) (i : Nat) (x : α) : Off [i] l (l.set i x) := ⟨List.length_set, fun j hj => List.getElem?_set_ne fun e => hj (by rw [e]; exact List.mem_singleton_self _)⟩
theorem Off.trans {α : Type} {js ks : List Nat} {l l1 l2 : List α} (a : Off js l l1) (b : Off ks l1 l2) : Off (js ++ ks) l l2 :=
  ⟨b.1.trans a.1, fun j hj => (b.2 j fun z => hj (List.mem_append_right _ z)).trans (a.2 j fun z => hj (List.mem_append_left _ z))⟩
/-- the datum d at the target leads from Γ to Γ'; it stores at js alone -/
structure Tg (A : Ad) (X : Cx) (tg : Expr) (d : Dat) (Γ Γ' : Sls) (js : List Nat) : Prop where
  off : Off js Γ Γ'
  run : ∀ (F : Fx) (σ : L2.St) (B H : Hp) (v : V), Rel A F Γ σ B H → Is A B d v → ∀ Q : L2.St → Hp → Prop, (∀ σ', Rel A F Γ' σ' B H → Off js σ σ' → Q σ' H) → wG X tg v σ H Q
theorem tg_name (i : Nat) {x : Str} {d : Dat} (hN : X.N.Nodup := by assumption) (hi : X.N[i]? = some x := by rfl) (hx : Loc X.env.scope x := by first | exact Or.inl rfl | exact Or.inr rfl) (hl : i < Γ.length := by exact Nat.le_of_ble_eq_true rfl)
    (hf : X.fn x = true ∨ X.env.scope.names.lookup x = some .local := by first | exact .inl rfl | exact .inr rfl) : Tg A X (.Name x pos) d Γ (Γ.set i (some (.im d))) [i] := ⟨Off.set _ _ _, fun F σ B H v R iv Q q =>
  ⟨_, pg_name hN hi hx hf, q _ (R.set iv hl) (Off.set _ _ _)⟩⟩
theorem tg_two {t1 t2 : Expr} {k : Nat} {d1 d2 : Dat} {Γ1 Γ2 : Sls} {js ks : List Nat} (h1 : Tg A X t1 d1 Γ Γ1 js) (h2 : Tg A X t2 d2 Γ1 Γ2 ks) (hc : X.calm = true := by rfl)
    (hn : (assignEach [t1, t2] X.env).length = 2 := by rfl) (hst : (assignEach [t1, t2] X.env).findIdx? (·.1) = none := by rfl)
    (hs1 : (assignEach (t1 :: [t2]) X.env).map (·.2) = assign t1 X.env :: (assignEach [t2] X.env).map (·.2) := by rfl) (hs2 : (assignEach (t2 :: []) X.env).map (·.2) = assign t2 X.env :: (assignEach [] X.env).map (·.2) := by rfl) :
    Tg A X (.Tuple [t1, t2] k pos) (.tup [d1, d2]) Γ Γ2 (js ++ ks) := ⟨h1.off.trans h2.off, fun F σ B H v R iv Q q => by
  obtain ⟨p, xs, rfl, hp, hI⟩ := iv
  obtain ⟨v1, v2, rfl, i1, i2⟩ := hI.two
  refine ⟨_, pg_tup hc (pgs_cons pg_w (pgs_cons pg_w pgs_nil hs2) hs1) hn hst, p, _, rfl, SqT.of (R.sub _ _ hp), rfl, ?_⟩
  exact ⟨v1, _, rfl, h1.run F σ B H v1 R i1 _ fun σ1 R1 o1 => ⟨v2, _, rfl, h2.run F σ1 B H v2 R1 i2 _ fun σ2 R2 o2 => ⟨rfl, q σ2 R2 (o1.trans o2)⟩⟩⟩⟩
/-- target = e -/
theorem sb_asg {tg : Expr} (he : Ev A X e Γ P) (k : ∀ d, P d → ∃ Γ' js, Tg A X tg d Γ Γ' js ∧ Sb A X rest Γ' a) (hs : swapsWithSole [tg] e pos.line X.env = pure false := by rfl) (hw : swappedStores [tg] e X.env = pure none := by rfl)
    (h1 : (assignEach [tg] X.env).map (·.2) = [assign tg X.env] := by rfl) : Sb A X (.Assign [tg] e pos :: rest) Γ a :=
  sb_st (ps_asg pe_w pg_w hs hw h1) fun F D σ B H E R => he F σ B H R _ fun v B' H' d p s R' iv => by
    obtain ⟨Γ', js, t, sb⟩ := k d p
    exact t.run F σ B' H' v R' iv _ fun σ' R2 _ => E.nx' sb R2

/-! ### small statements -/
theorem sb_if {t u : List Stmt} {k : Bool} (hc : EvT A X c Γ (fun z => z = k)) (h1 : k = true → Sb A X t Γ { a with nx := fun Γ' => Sb A X rest Γ' a }) (h2 : k = false → Sb A X u Γ { a with nx := fun Γ' => Sb A X rest Γ' a }) : Sb A X (.If c t u pos :: rest) Γ a :=
  sb_st (ps_if pt_w pss_w pss_w) fun F D σ B H E R => hc F σ B H R _ fun b B' H' p s R' => by
    subst p
    cases b with
    | true => exact h1 rfl F D σ B' H' E R'
    | false => exact h2 rfl F D σ B' H' E R'
/-- an if that is not taken, whatever stands in it -/
theorem sb_skip {t : List Stmt} (hc : EvT A X c Γ (fun z => z = false)) (h : Sb A X rest Γ a) : Sb A X (.If c t [] pos :: rest) Γ a :=
  sb_st (ps_if pt_w pss_never pss_nil) fun F D σ B H E R => hc F σ B H R _ fun b B' H' p s R' => by
    subst p
    exact E.nx' h R'
theorem ptOk {F : Fx} {σ : L2.St} {B H : Hp} {pt : Prop} (R : Rel A F Γ σ B H) (hp : pt → ∃ i : Nat, Γ[i]? = some (some Sl.pot)) : PtOk F pt H := fun h => by
  obtain ⟨i, hi⟩ := hp h
  obtain ⟨v, _, p, _, h2, h3⟩ := R.sl i _ hi
  exact ⟨p, h2, h3⟩
theorem sb_ret (he : Ev A X e Γ P) (k : ∀ d, P d → a.rt d) (hp : a.pt → ∃ i : Nat, Γ[i]? = some (some Sl.pot) := by exact fun h => h.elim) : Sb A X (.Return (some e) pos :: rest) Γ a :=
  sb_st (ps_ret pe_w) fun F D σ B H E R => he F σ B H R _ fun v B' H' d p s R' iv => E.rt d v B' H' (k d p) R'.st (ptOk R' hp) iv
theorem sb_retN {PN : List Dat → Prop} (he : EvN A X e Γ PN) (k : ∀ ds, PN ds → a.rtN ds) (hp : a.pt → ∃ i : Nat, Γ[i]? = some (some Sl.pot) := by exact fun h => h.elim) : Sb A X (.Return (some e) pos :: rest) Γ a :=
  sb_st (ps_ret pe_w) fun F D σ B H E R => he F σ B H R _ fun p xs B' H' ds pd s R' h1 h2 h3 h4 => E.rtN ds p xs B' H' (k ds pd) R'.st (ptOk R' hp) (R.fresh0 h1) h2 h3 h4
theorem sb_freeze (i : Nat) {ds : List Dat} (h : Γ[i]? = some (some (.mu ds)) := by rfl) (k : Sb A X rest (Γ.set i (some (.im (.lst ds)))) a) : Sb A X rest Γ a := fun F D σ B H E R => by
  obtain ⟨B', _, R'⟩ := R.freeze h
  exact k F D σ B' H E R'
/-- xs.append(e), xs a list of one's own in slot i -/
theorem sb_append (i : Nat) {o : Expr} {ds : List Dat} (he : Ev A X e Γ P) (k : ∀ d, P d → Sb A X rest (Γ.set i (some (.mu (ds ++ [d])))) a) (hl : ds.length < 100000) (hΓ : Γ[i]? = some (some (.mu ds)) := by rfl) {pa pc ps : Pos}
    (pe : PE X (.Call (.Attribute o "append" pa) [e] [] pc) (tBM X.K "list" rAppend (tVar i) (wA X [e])) := by exact pe_bm PySem.F.plainAttrs_list PySem.F.slot_list_append PySem.F.type_list_append mt_append (pv _) pa_w)
    (h1 : starEach [e] X.env = (false, eval e X.env) :: starEach [] X.env := by rfl) (hs : swapsWith (.Call (.Attribute o "append" pa) [e] [] pc) none ps.line X.env = pure false := by rfl) :
    Sb A X (.Expr (.Call (.Attribute o "append" pa) [e] [] pc) ps :: rest) Γ a :=
  sb_st (ps_expr pe hs) fun F D σ B H E R => by
    obtain ⟨p, xs, e1, h0, hm, hB, hH, hI⟩ := R.mu hΓ
    refine ⟨_, e1, .inl ⟨rfl, _, SqL.of hH⟩, ea1 he h1 F σ B H R _ fun vs B' H' es pe s R' iv => ?_⟩
    obtain ⟨d, rfl, pd⟩ := pe
    obtain ⟨v, rfl, i1⟩ := iv.one
    have hH' : H' p = some (.lst xs) := s.ex p _ (fun z => hm z.symm) hH
    have hxs : xs.length < sizeLine := by rw [← hI.len]; exact Nat.lt_of_lt_of_le hl (by decide)
    exact ⟨p, xs, v, rfl, rfl, hH', hxs, E.nx' (k d pd) (R'.putMu hΓ e1 ((hI.mono s.exB).append ⟨v, [], rfl, i1, rfl⟩))⟩

/-- a slot is forgotten -/
theorem sb_drop (i : Nat) (k : Sb A X rest (Γ.set i none) a) : Sb A X rest Γ a := fun F D σ B H E R => by
  refine k F D σ B H E ?_
  have h := R.drop (i := i) (v := (σ[i]?).getD none)
  have e : σ.set i ((σ[i]?).getD none) = σ := by
    refine List.ext_getElem? fun j => ?_
    by_cases c : i = j
    · subst c
      by_cases hi : i < σ.length
      · rw [List.getElem?_set_self hi, List.getElem?_eq_getElem hi]; rfl
      · rw [List.getElem?_eq_none (by rw [List.length_set]; omega), List.getElem?_eq_none (by omega)]
    · rw [List.getElem?_set_ne c]
  rw [e] at h
  exact h
/-- a value is held fast -/
theorem sb_pin (i : Nat) {d : Dat} (h : Γ[i]? = some (some (.im d)) := by rfl) (k : ∀ v B1, Sb A X rest (Γ.set i (some (.pin v d B1))) a) : Sb A X rest Γ a := fun F D σ B H E R => by
  obtain ⟨v, e, iv⟩ := R.im h
  have hi : i < Γ.length := (List.getElem?_eq_some_iff.mp h).1
  refine k v B F D σ B H E ⟨R.st, fun j s hs => ?_, fun j k d1 d2 n e1 e2 => ?_, by rw [List.length_set]; exact R.len⟩
  · by_cases c : i = j
    · subst c
      rw [List.getElem?_set_self hi] at hs
      cases hs
      exact ⟨v, e, rfl, iv, Ex.refl _⟩
    · rw [List.getElem?_set_ne c] at hs
      exact R.sl j s hs
  · have c1 : i ≠ j := fun c => by subst c; rw [List.getElem?_set_self hi] at e1; cases e1
    have c2 : i ≠ k := fun c => by subst c; rw [List.getElem?_set_self hi] at e2; cases e2
    rw [List.getElem?_set_ne c1] at e1
    rw [List.getElem?_set_ne c2] at e2
    exact R.ap j k _ _ n e1 e2
/-- a value told, whatever stands in the heap -/
theorem sb_fin {v : V} {d : Dat} (he : Ev A X e Γ (fun z => z = d)) (hv : ∀ B u, Is A B d u → u = v) (k : a.fin v) : Sb A X (.Return (some e) pos :: rest) Γ a :=
  sb_st (ps_ret pe_w) fun F D σ B H E R => he F σ B H R _ fun u B' H' d' p s R' iv => by
    subst p
    rw [hv _ _ iv]
    exact E.fin v H' k

/-! ### what is walked -/
/-- from what is known at B1 on: at turn k the k-th datum comes; behind the last one it stops -/
def Yields (A : Ad) (J : It) (B1 : Hp) (ds : List Dat) : Prop := ∀ (k : Nat) (B H : Hp), Ex B1 B → Ex B H →
  (∀ d, ds[k]? = some d → J.go k H ∧ ∀ x H', J.yld k H x H' → ∃ B', Stp none B H B' H' ∧ Is A B' d x) ∧ (ds.length ≤ k → J.stop k H)
def wI (X : Cx) (tg iter : Expr) : TI := fun σ H R => ∃ wi, PI X tg iter wi ∧ wi σ H R
theorem pi_w {tg iter : Expr} : PI X tg iter (wI X tg iter) := ⟨fun pins s σ H R I ⟨_, h, q⟩ => h.run pins s σ H R I q⟩
def Wk (A : Ad) (X : Cx) (tg iter : Expr) (Γ : Sls) (ds : List Dat) : Prop :=
  ∀ (F : Fx) (σ : L2.St) (B H : Hp), Rel A F Γ σ B H → ∀ R : It → Hp → Prop, (∀ J B' H', Stp F.mp B H B' H' → Rel A F Γ σ B' H' → Yields A J B' ds → R J H') → wI X tg iter σ H R
theorem wk_list {tg iter : Expr} {ds : List Dat} (h : Ev A X iter Γ (fun z => z = .lst ds)) : Wk A X tg iter Γ ds := fun F σ B H R Q q =>
  ⟨_, pi_list pe_w, h F σ B H R _ fun v B' H' d p s R' iv => by
    subst p
    obtain ⟨a, xs, rfl, ha, hI⟩ := iv
    refine ⟨a, rfl, ⟨xs, SqL.of (R'.sub _ _ ha)⟩, q _ B' H' s R' fun k B2 H2 e1 e2 => ⟨fun d hd => ?_, fun hk => ⟨xs, SqL.of (e2 _ _ (e1 _ _ ha)), by rw [← hI.len]; exact hk⟩⟩⟩
    obtain ⟨x, hx, ix⟩ := hI.at hd
    have hS : SqL X.K H2 a xs := SqL.of (e2 _ _ (e1 _ _ ha))
    refine ⟨⟨xs, x, hS, hx⟩, fun y H' hy => ?_⟩
    obtain ⟨rfl, hy⟩ := hy
    have := hy xs hS
    rw [hx] at this
    cases this
    exact ⟨B2, Stp.refl0 e2, ix.mono e1⟩⟩
theorem wk_tup {tg iter : Expr} {ds : List Dat} (h : Ev A X iter Γ (fun z => z = .tup ds)) : Wk A X tg iter Γ ds := fun F σ B H R Q q =>
  ⟨_, pi_tup pe_w, h F σ B H R _ fun v B' H' d p s R' iv => by
    subst p
    obtain ⟨a, xs, rfl, ha, hI⟩ := iv
    refine ⟨a, rfl, ⟨xs, SqT.of (R'.sub _ _ ha)⟩, q _ B' H' s R' fun k B2 H2 e1 e2 => ⟨fun d hd => ?_, fun hk => ⟨xs, SqT.of (e2 _ _ (e1 _ _ ha)), by rw [← hI.len]; exact hk⟩⟩⟩
    obtain ⟨x, hx, ix⟩ := hI.at hd
    have hS : SqT X.K H2 a xs := SqT.of (e2 _ _ (e1 _ _ ha))
    refine ⟨⟨xs, x, hS, hx⟩, fun y H' hy => ?_⟩
    obtain ⟨rfl, hy⟩ := hy
    have := hy xs hS
    rw [hx] at this
    cases this
    exact ⟨B2, Stp.refl0 e2, ix.mono e1⟩⟩
def rng (lo : Int) (n : Nat) : List Dat := (List.range n).map fun k => Dat.int (lo + (k : Nat))
theorem rng_len (lo : Int) (n : Nat) : (rng lo n).length = n := by unfold rng; rw [List.length_map, List.length_range]
theorem rng_at {lo : Int} {n k : Nat} {d : Dat} (h : (rng lo n)[k]? = some d) : k < n ∧ d = .int (lo + (k : Nat)) := by
  have hk := (List.getElem?_eq_some_iff.mp h).1
  rw [rng_len] at hk
  unfold rng at h
  rw [List.getElem?_map, List.getElem?_range hk] at h
  exact ⟨hk, (Option.some.inj h).symm⟩
theorem yields_rng {lo : Int} {n : Nat} {B1 : Hp} : Yields A (Itr lo n) B1 (rng lo n) := fun k B H e1 e2 => by
  refine ⟨fun d hd => ?_, fun hk => by rw [rng_len] at hk; exact hk⟩
  obtain ⟨hk, rfl⟩ := rng_at hd
  refine ⟨hk, fun x H' hy => ?_⟩
  obtain ⟨rfl, rfl⟩ := hy
  exact ⟨B, Stp.refl0 e2, rfl⟩
theorem wk_range1 {tg b : Expr} {p : Pos} {j : Int} (h : Ev A X b Γ (fun z => z = .int j)) (h1 : -(2 ^ 62) ≤ j) (h2 : j < 2 ^ 62) (hm : X.mg "range" = none) (hg : Gl X "range" := by rfl) (hs : starEach [b] X.env = (false, eval b X.env) :: starEach [] X.env := by rfl) :
    Wk A X tg (.Call (.Name "range" p) [b] [] pos) Γ (rng 0 j.toNat) := fun F σ B H R Q q =>
  ⟨_, pi_range1 hg hm pa_w hs, ea1 h hs F σ B H R _ fun vs B' H' ds pd s R' iv => by
    obtain ⟨d, rfl, rfl⟩ := pd
    obtain ⟨v, rfl, i1⟩ := iv.one
    cases i1
    exact ⟨j, rfl, h1, h2, q _ B' H' s R' yields_rng⟩⟩
theorem wk_range2 {tg b b' : Expr} {p : Pos} {i j : Int} (h : Ev A X b Γ (fun z => z = .int i)) (h' : Ev A X b' Γ (fun z => z = .int j)) (h1 : -(2 ^ 62) ≤ i ∧ i < 2 ^ 62 ∧ -(2 ^ 62) ≤ j ∧ j < 2 ^ 62) (hm : X.mg "range" = none) (hg : Gl X "range" := by rfl)
    (hs : starEach [b, b'] X.env = (false, eval b X.env) :: starEach [b'] X.env := by rfl) (hs2 : starEach [b'] X.env = (false, eval b' X.env) :: starEach [] X.env := by rfl) :
    Wk A X tg (.Call (.Name "range" p) [b, b'] [] pos) Γ (rng i (j - i).toNat) := fun F σ B H R Q q =>
  ⟨_, pi_range2 hg hm pa_w (by rw [hs, hs2]; rfl) hs2, ea2 h h' hs hs2 F σ B H R _ fun vs B' H' ds pd s R' iv => by
    obtain ⟨d, d', rfl, rfl, rfl⟩ := pd
    obtain ⟨v, w, rfl, i1, i2⟩ := iv.two
    cases i1; cases i2
    exact ⟨i, j, rfl, h1, q _ B' H' s R' yields_rng⟩⟩
def zipD : List Dat → List Dat → List Dat
  | d :: ds, e :: es => .tup [d, e] :: zipD ds es
  | _, _ => []
theorem zipD_len : ∀ (ds es : List Dat), (zipD ds es).length = min ds.length es.length
  | [], es => by cases es <;> simp [zipD]
  | d :: ds, [] => by simp [zipD]
  | d :: ds, e :: es => by
    show (zipD ds es).length + 1 = min (ds.length + 1) (es.length + 1)
    rw [zipD_len ds es]
    omega
theorem zipD_at : ∀ {ds es : List Dat} {k : Nat} {d : Dat}, (zipD ds es)[k]? = some d → ∃ x y, ds[k]? = some x ∧ es[k]? = some y ∧ d = .tup [x, y]
  | [], es, k, d, h => by cases es <;> simp [zipD] at h
  | _ :: _, [], k, d, h => by simp [zipD] at h
  | x :: ds, y :: es, 0, d, h => ⟨x, y, rfl, rfl, (Option.some.inj h).symm⟩
  | x :: ds, y :: es, k + 1, d, h => zipD_at (ds := ds) (es := es) (k := k) h
theorem wk_zip {b b' : Expr} {elts : List Expr} {kk : Nat} {tpos p : Pos} {ds es : List Dat} (h : Ev A X b Γ (fun z => z = .lst ds)) (h' : Ev A X b' Γ (fun z => z = .lst es)) (hm : X.mg "zip" = none) (hg : Gl X "zip" := by rfl)
    (hs : starEach [b, b'] X.env = (false, eval b X.env) :: starEach [b'] X.env := by rfl) (hs2 : starEach [b'] X.env = (false, eval b' X.env) :: starEach [] X.env := by rfl) (hpl : (backTo pos (starEach [b'] X.env)).any (·.1) = false := by rfl) :
    Wk A X (.Tuple elts kk tpos) (.Call (.Name "zip" p) [b, b'] [] pos) Γ (zipD ds es) := fun F σ B H R Q q =>
  ⟨_, pi_zip hg hm pa_w hs hpl, ea2 h h' hs hs2 F σ B H R _ fun vs B' H' fs pd s R' iv => by
    obtain ⟨d, d', rfl, rfl, rfl⟩ := pd
    obtain ⟨v, w, rfl, i1, i2⟩ := iv.two
    obtain ⟨l, xs, rfl, h1, j1⟩ := i1
    obtain ⟨m, ys, rfl, h2, j2⟩ := i2
    refine ⟨l, m, xs, ys, rfl, SqL.of (R'.sub _ _ h1), SqL.of (R'.sub _ _ h2), q _ B' H' s R' fun k B2 H2 e1 e2 => ?_⟩
    have s1 : SqL X.K H2 l xs := SqL.of (e2 _ _ (e1 _ _ h1))
    have s2 : SqL X.K H2 m ys := SqL.of (e2 _ _ (e1 _ _ h2))
    refine ⟨fun d hd => ?_, fun hk => ⟨xs, ys, s1, s2, ?_⟩⟩
    · obtain ⟨x, y, hx, hy, rfl⟩ := zipD_at hd
      obtain ⟨xv, hxv, ix⟩ := j1.at hx
      obtain ⟨yv, hyv, iy⟩ := j2.at hy
      refine ⟨⟨xs, ys, xv, yv, s1, s2, hxv, hyv⟩, fun z H3 hz => ?_⟩
      obtain ⟨T, x', y', rfl, hT, rfl, f1, f2⟩ := hz
      have g1 := f1 xs s1
      have g2 := f2 ys s2
      rw [hxv] at g1; cases g1
      rw [hyv] at g2; cases g2
      have st := Stp.new (o := .tup [xv, yv]) e2 hT
      exact ⟨_, st, T, [xv, yv], rfl, upd_same, xv, [yv], rfl, (ix.mono e1).mono st.exB, yv, [], rfl, (iy.mono e1).mono st.exB, rfl⟩
    · rw [zipD_len] at hk
      have a1 := j1.len
      have a2 := j2.len
      omega⟩
def enumD (k : Nat) : List Dat → List Dat
  | [] => []
  | d :: ds => .tup [.int (k : Nat), d] :: enumD (k + 1) ds
theorem enumD_len : ∀ (ds : List Dat) (k : Nat), (enumD k ds).length = ds.length
  | [], _ => rfl
  | _ :: ds, k => congrArg (· + 1) (enumD_len ds (k + 1))
theorem enumD_at : ∀ {ds : List Dat} {k i : Nat} {d : Dat}, (enumD k ds)[i]? = some d → ∃ x, ds[i]? = some x ∧ d = .tup [.int ((k + i : Nat) : Int), x]
  | [], k, i, d, h => by simp [enumD] at h
  | x :: ds, k, 0, d, h => ⟨x, rfl, (Option.some.inj h).symm⟩
  | x :: ds, k, i + 1, d, h => by
    obtain ⟨y, h1, h2⟩ := enumD_at (ds := ds) (k := k + 1) (i := i) h
    exact ⟨y, h1, by rw [h2]; have e : k + 1 + i = k + (i + 1) := by omega
                     rw [e]⟩
theorem wk_enum {b : Expr} {elts : List Expr} {kk : Nat} {tpos p : Pos} {ds : List Dat} (h : Ev A X b Γ (fun z => z = .lst ds)) (hm : X.mg "enumerate" = none) (hg : Gl X "enumerate" := by rfl)
    (hs : starEach [b] X.env = (false, eval b X.env) :: starEach [] X.env := by rfl) : Wk A X (.Tuple elts kk tpos) (.Call (.Name "enumerate" p) [b] [] pos) Γ (enumD 0 ds) := fun F σ B H R Q q =>
  ⟨_, pi_enum hg hm pa_w hs, ea1 h hs F σ B H R _ fun vs B' H' fs pd s R' iv => by
    obtain ⟨d, rfl, rfl⟩ := pd
    obtain ⟨v, rfl, i1⟩ := iv.one
    obtain ⟨l, xs, rfl, h1, j1⟩ := i1
    refine ⟨l, xs, rfl, SqL.of (R'.sub _ _ h1), q _ B' H' s R' fun k B2 H2 e1 e2 => ?_⟩
    have s1 : SqL X.K H2 l xs := SqL.of (e2 _ _ (e1 _ _ h1))
    refine ⟨fun d hd => ?_, fun hk => ⟨xs, s1, by rw [enumD_len] at hk; rw [← j1.len]; exact hk⟩⟩
    obtain ⟨x, hx, rfl⟩ := enumD_at hd
    obtain ⟨xv, hxv, ix⟩ := j1.at hx
    refine ⟨⟨xs, xv, s1, hxv⟩, fun z H3 hz => ?_⟩
    obtain ⟨T, x', rfl, hT, rfl, f1⟩ := hz
    have g1 := f1 xs s1
    rw [hxv] at g1; cases g1
    have st := Stp.new (o := .tup [.int (k : Nat), xv]) e2 hT
    refine ⟨_, st, T, [.int (k : Nat), xv], rfl, upd_same, _, [xv], rfl, ?_, xv, [], rfl, (ix.mono e1).mono st.exB, rfl⟩
    rw [Nat.zero_add]
    rfl⟩

/-! ### for -/
theorem sb_for {tg iter : Expr} {body : List Stmt} {ds : List Dat} (hw : Wk A X tg iter Γ ds) (Pv : Nat → Sls → Prop) (h0 : Pv 0 Γ)
    (hs : ∀ k d Γ', ds[k]? = some d → Pv k Γ' → ∃ Γ'' js, Tg A X tg d Γ' Γ'' js ∧ Sb A X body Γ'' { a with nx := Pv (k + 1), ct := Pv (k + 1), bk := fun Γ3 => Sb A X rest Γ3 a })
    (hd : ∀ Γ', Pv ds.length Γ' → Sb A X rest Γ' a) (hc : X.calm = true := by rfl) (hp : PassesOwn (model X.prog X.w) X.A X.env X.xe := by exact PassesOwn.never)
    (hf : ∀ x, foldedSetIterable iter X.env x = pure x := by intro _; rfl) : Sb A X (.For tg iter body [] pos :: rest) Γ a :=
  sb_st (ps_for hp hc pi_w pg_w pss_w hf) fun F D σ B H E R => hw F σ B H R _ fun J B1 H1 s1 R1 y => by
    refine ⟨fun k m σ' H' => m = ds.length - k ∧ k ≤ ds.length ∧ ∃ Γ' B', Pv k Γ' ∧ Ex B1 B' ∧ Rel A F Γ' σ' B' H', ⟨_, rfl, Nat.zero_le _, Γ, B1, h0, Ex.refl _, R1⟩, ?_⟩
    rintro k m σ' H' ⟨rfl, hk, Γ', B', pv, ex, R'⟩
    obtain ⟨y1, y2⟩ := y k B' H' ex R'.sub
    by_cases hlt : k < ds.length
    · have hd' : ds[k]? = some (ds[k]'hlt) := List.getElem?_eq_getElem hlt
      obtain ⟨go, yl⟩ := y1 _ hd'
      refine .inr ⟨go, fun σ2 H2 => ∃ Γ2 B2, Pv (k + 1) Γ2 ∧ Ex B1 B2 ∧ Rel A F Γ2 σ2 B2 H2, fun σ2 H2 ⟨Γ2, B2, p2, e2, R2⟩ => ⟨_, by omega, rfl, hlt, Γ2, B2, p2, e2, R2⟩, fun x H2 hy => ?_⟩
      obtain ⟨B2, s2, ix⟩ := yl x H2 hy
      have R2 := R'.step s2
      obtain ⟨Γ3, js, t3, sb⟩ := hs k _ Γ' hd' pv
      refine t3.run F σ' B2 H2 x R2 ix _ fun σ3 R3 _ => ?_
      have e3 : Ex B1 B2 := ex.trans s2.exB
      refine sb ⟨F.mp, B2, F.H0⟩ _ σ3 B2 H2 ⟨fun Γ4 σ4 B4 H4 p4 R4 => ⟨Γ4, B4, p4, e3.trans R4.st.exB, R4.unbase R3.st⟩, fun d v B4 H4 p4 s4 g4 iv => ?_, fun es q xs B4 H4 p4 s4 g4 f1 f2 f3 f4 => ?_,
        fun Γ4 σ4 B4 H4 p4 R4 => E.nx _ σ4 B4 H4 p4 (R4.unbase R3.st), fun Γ4 σ4 B4 H4 p4 R4 => ⟨Γ4, B4, p4, e3.trans R4.st.exB, R4.unbase R3.st⟩, E.fin⟩ R3.rebase
      · exact E.rt d v B4 H4 p4 ⟨s4.ex, R3.st.exB.trans s4.exB, s4.sub, fun z h1 h2 => s4.av z (R3.st.av z h1 h2) h2, s4.mB⟩ g4 iv
      · exact E.rtN es q xs B4 H4 p4 ⟨s4.ex, R3.st.exB.trans s4.exB, s4.sub, fun z h1 h2 => s4.av z (R3.st.av z h1 h2) h2, s4.mB⟩ g4 f1 f2 f3 f4
    · have e : k = ds.length := by omega
      subst e
      exact .inl ⟨y2 (Nat.le_refl _), E.nx' (hd Γ' pv) R'⟩
/-- while -/
theorem sb_while {body : List Stmt} (Pv : Nat → Sls → Prop) (m0 : Nat) (h0 : Pv m0 Γ)
    (hs : ∀ m Γ', Pv m Γ' → ∃ k : Bool, EvT A X c Γ' (fun z => z = k) ∧ (k = true → Sb A X body Γ' { a with nx := fun Γ2 => ∃ m', m' < m ∧ Pv m' Γ2, ct := fun Γ2 => ∃ m', m' < m ∧ Pv m' Γ2, bk := fun Γ3 => Sb A X rest Γ3 a }) ∧ (k = false → Sb A X rest Γ' a))
    (hp : PassesOwn (model X.prog X.w) X.A X.env X.xe := by exact PassesOwn.never) : Sb A X (.While c body [] pos :: rest) Γ a :=
  sb_st (ps_while hp pt_w pss_w) fun F D σ B H E R => by
    refine ⟨fun m σ' H' => ∃ Γ' B', Pv m Γ' ∧ Rel A F Γ' σ' B' H', ⟨m0, Γ, B, h0, R⟩, ?_⟩
    rintro m σ' H' ⟨Γ', B', pv, R'⟩
    obtain ⟨k, hk, h1, h2⟩ := hs m Γ' pv
    refine hk F σ' B' H' R' _ fun b B2 H2 p s R2 => ?_
    subst p
    cases b with
    | true =>
      rw [if_pos rfl]
      refine ⟨fun σ3 H3 => ∃ m', m' < m ∧ ∃ Γ3 B3, Pv m' Γ3 ∧ Rel A F Γ3 σ3 B3 H3, fun σ3 H3 ⟨m', l, w⟩ => ⟨m', l, w⟩, ?_⟩
      exact h1 rfl F _ σ' B2 H2 ⟨fun Γ4 σ4 B4 H4 ⟨m', l, p4⟩ R4 => ⟨m', l, Γ4, B4, p4, R4⟩, E.rt, E.rtN, fun Γ4 σ4 B4 H4 p4 R4 => E.nx _ σ4 B4 H4 p4 R4, fun Γ4 σ4 B4 H4 ⟨m', l, p4⟩ R4 => ⟨m', l, Γ4, B4, p4, R4⟩, E.fin⟩ R2
    | false =>
      rw [if_neg Bool.false_ne_true]
      exact E.nx' (h2 rfl) R2
end
end K64
/-! Comprehensions; defs and their promises; calls; fields. -/
namespace K64
open PySem L2

theorem wipe_in {σ : L2.St} {i : Nat} : ∀ {vs : List Nat}, i ∈ vs → i < σ.length → (wipe σ vs)[i]? = some none
  | [], h, _ => absurd h List.not_mem_nil
  | v :: vs, h, hi => by
    unfold wipe
    by_cases e : v = i
    · subst e
      exact List.getElem?_set_self (by rw [wipe_length]; exact hi)
    · rw [List.getElem?_set_ne e]
      exact wipe_in ((List.mem_cons.mp h).resolve_left fun z => e z.symm) hi
theorem wipe_off {σ σ' : L2.St} {js vs : List Nat} (o : Off js (wipe σ vs) σ') (h : ∀ j ∈ js, j ∈ vs) : wipe σ' vs = wipe σ vs := by
  have hl : σ'.length = σ.length := o.1.trans (wipe_length σ vs)
  refine List.ext_getElem? fun i => ?_
  by_cases hi : i < σ.length
  · by_cases hv : i ∈ vs
    · rw [wipe_in hv hi, wipe_in hv (by rw [hl]; exact hi)]
    · rw [wipe_out hv, o.2 i fun z => hv (h i z)]
  · rw [List.getElem?_eq_none (by rw [wipe_length]; omega), List.getElem?_eq_none (by rw [wipe_length]; omega)]

section
variable {A : Ad} {X : Cx} {Γ : Sls} {P P1 P2 : Dat → Prop} {pos : Pos}
/-- the tests of a comprehension -/
def wF (X : Cx) (ifs : List Expr) : TT := fun σ H Q => ∃ t, PTs X ifs t ∧ t σ H Q
theorem pts_w {ifs : List Expr} : PTs X ifs (wF X ifs) := ⟨fun pins s σ H Q I ⟨_, h, q⟩ => h.run pins s σ H Q I q⟩
def EvF (A : Ad) (X : Cx) (ifs : List Expr) (Γ : Sls) (P : Bool → Prop) : Prop :=
  ∀ (F : Fx) (σ : L2.St) (B H : Hp), Rel A F Γ σ B H → ∀ Q : Bool → Hp → Prop, (∀ b B' H', P b → Stp F.mp B H B' H' → Rel A F Γ σ B' H' → Q b H') → wF X ifs σ H Q
theorem ef_nil : EvF A X [] Γ (fun b => b = true) := fun F σ B H R Q q => ⟨_, pts_nil, q true B H rfl (Stp.refl R.sub R.mB) R⟩
theorem ef_one {c : Expr} {P : Bool → Prop} (h : EvT A X c Γ P) : EvF A X [c] Γ P := fun F σ B H R Q q => ⟨_, pts_one pt_w, h F σ B H R Q q⟩

/-- the block of a comprehension, whatever the state in which it starts -/
abbrev Blk (X : Cx) (scope : Scope) (K : Cx → Prop) : Prop := ∀ (s : Shared) (H : Hp) (C : Addr) (cl : List (Str × Addr)) (fp : List Addr), K (X.blk s H scope (compEnvC scope cl C X.env) fp)
def gC (X : Cx) (scope : Scope) (tg : Expr) : TG := fun v σ H Q => Blk X scope fun Y => wG Y tg v σ H Q
def tC' (X : Cx) (scope : Scope) (ifs : List Expr) : TT := fun σ H Q => Blk X scope fun Y => wF Y ifs σ H Q
def eC (X : Cx) (scope : Scope) (elt : Expr) : TE := fun σ H Q => Blk X scope fun Y => wE Y elt σ H Q
theorem gC_ok {scope : Scope} {tg : Expr} (s : Shared) (H : Hp) (C : Addr) (cl : List (Str × Addr)) (fp : List Addr) : PG (X.blk s H scope (compEnvC scope cl C X.env) fp) tg (gC X scope tg) := ⟨fun pins s' σ H' v u Q I r h => pg_w.run pins s' σ H' v u Q I r (h s H C cl fp)⟩
theorem tC_ok {scope : Scope} {ifs : List Expr} (s : Shared) (H : Hp) (C : Addr) (cl : List (Str × Addr)) (fp : List Addr) : PTs (X.blk s H scope (compEnvC scope cl C X.env) fp) ifs (tC' X scope ifs) := ⟨fun pins s' σ H' Q I h => pts_w.run pins s' σ H' Q I (h s H C cl fp)⟩
theorem eC_ok {scope : Scope} {elt : Expr} (s : Shared) (H : Hp) (C : Addr) (cl : List (Str × Addr)) (fp : List Addr) : PE (X.blk s H scope (compEnvC scope cl C X.env) fp) elt (eC X scope elt) := ⟨fun pins s' σ H' Q I h => pe_w.run pins s' σ H' Q I (h s H C cl fp)⟩
/-- a comprehension: a new list -/
def EvL (A : Ad) (X : Cx) (elt tg iter : Expr) (ifs : List Expr) (scope : Scope) (own : List (Str × Nat)) (Γ : Sls) (PN : List Dat → Prop) : Prop :=
  ∀ (F : Fx) (σ : L2.St) (B H : Hp), Rel A F Γ σ B H → ∀ Q : VK, (∀ p xs B' H' ds, PN ds → Stp F.mp B H B' H' → Rel A F Γ σ B' H' → H p = none → B' p = none → H' p = some (.lst xs) → Iss A B' ds xs → Q (.ref p) H') →
    tLc (wI X tg iter) (gC X scope tg) (tC' X scope ifs) (eC X scope elt) (own.map (·.2)) σ H Q
theorem el_lc {elt tg iter : Expr} {ifs : List Expr} {scope : Scope} (own : List (Str × Nat)) {ds : List Dat} {PN : List Dat → Prop} (hw : Wk A X tg iter Γ ds) (Pv : Nat → List Dat → Prop) (h0 : Pv 0 [])
    (hs : ∀ k d acc, ds[k]? = some d → Pv k acc → ∃ Γ'' js, (∀ j ∈ js, j ∈ own.map (·.2)) ∧ (Blk X scope fun Y => Tg A Y tg d Γ Γ'' js) ∧ ∃ b : Bool, (Blk X scope fun Y => EvF A Y ifs Γ'' (fun z => z = b)) ∧
      (b = true → ∃ P : Dat → Prop, (Blk X scope fun Y => Ev A Y elt Γ'' P) ∧ ∀ e, P e → Pv (k + 1) (acc ++ [e])) ∧ (b = false → Pv (k + 1) acc))
    (hd : ∀ acc, Pv ds.length acc → PN acc) (hl : ds.length ≤ 100000) (hlen : ∀ k acc, Pv k acc → acc.length ≤ k) (hv : ∀ j ∈ own.map (·.2), Γ[j]? = some none) : EvL A X elt tg iter ifs scope own Γ PN := fun F σ B H R Q q => by
  refine hw F σ B H R _ fun J B1 H1 s1 R1 y D hD => ?_
  have hHD : H D = none := fresh_of s1 R1 hD
  have hnD : ∀ (j : Nat) (es : List Dat), Γ[j]? = some (some (.mu es)) → σ[j]? ≠ some (some (.ref D)) := slot_ne (B' := B) (H' := H) R1 hD
  have hD0 := R1.fresh0 hD
  have hDm := R1.nmp hD
  refine ⟨fun k m H' => m = ds.length - k ∧ k ≤ ds.length ∧ ∃ acc B' xs, Pv k acc ∧ Stp F.mp B H B' H' ∧ Ex B1 B' ∧ Rel A F Γ σ B' H' ∧ B' D = none ∧ H' D = some (.lst xs) ∧ Iss A B' acc xs,
    ⟨_, rfl, Nat.zero_le _, [], B1, [], h0, s1.put (.inl hHD) (R1.sub.back hD), Ex.refl _, R1.putOff hD0 hDm (R1.sub.back hD) hnD, R1.sub.back hD, upd_same, rfl⟩, ?_⟩
  rintro k m H' ⟨rfl, hk, acc, B', xs, pv, sB, ex, R', hBD, hHD', hI⟩
  obtain ⟨y1, y2⟩ := y k B' H' ex R'.sub
  by_cases hlt : k < ds.length
  · have hd' : ds[k]? = some (ds[k]'hlt) := List.getElem?_eq_getElem hlt
    obtain ⟨go, yl⟩ := y1 _ hd'
    obtain ⟨Γ3, js, hjs, tg3, b, htest, h1, h2⟩ := hs k _ acc hd' pv
    refine .inr ⟨go, fun H2 => ∃ acc2 B2 ys, Pv (k + 1) acc2 ∧ Stp F.mp B H B2 H2 ∧ Ex B1 B2 ∧ Rel A F Γ σ B2 H2 ∧ B2 D = none ∧ H2 D = some (.lst ys) ∧ Iss A B2 acc2 ys,
      fun H2 ⟨acc2, B2, ys, r⟩ => ⟨_, by omega, rfl, hlt, acc2, B2, ys, r⟩, fun x H2 hy => ?_⟩
    obtain ⟨B2, s2, ix⟩ := yl x H2 hy
    have R2 := R'.step s2
    have R2w : Rel A F Γ (wipe σ (own.map (·.2))) B2 H2 := R2.via (fun i s e => ⟨e, wipe_out fun z => by have := hv i z; rw [e] at this; cases this⟩) (by rw [wipe_length]; exact R2.len)
    intro s H0 C cl fp
    refine (tg3 s H0 C cl fp).run F _ B2 H2 x R2w ix _ fun σ3 R3 o3 => ⟨wipe_off o3 hjs, fun s H0 C cl fp => ?_⟩
    refine htest s H0 C cl fp F σ3 B2 H2 R3 _ fun bb B4 H4 pb s4 R4 => ?_
    subst pb
    -- back to the def's own slots
    have back : ∀ {B5 H5 : Hp}, Rel A F Γ3 σ3 B5 H5 → Rel A F Γ σ B5 H5 := fun R5 => R5.via (fun i sl e => by
      have hi : i ∉ own.map (·.2) := fun z => by have := hv i z; rw [e] at this; cases this
      have hi' : i ∉ js := fun z => hi (hjs i z)
      exact ⟨((tg3 s H0 C cl fp).off.2 i hi').trans e, ((o3.2 i hi').trans (wipe_out hi)).symm⟩) R'.len
    have m2 := R'.mB
    have sB2 : Stp F.mp B H B2 H2 := sB.trans (s2.weak m2)
    have sB4 := sB2.trans s4
    have hD2 : H2 D = some (.lst xs) := s2.ex D _ (fun z => nomatch z) hHD'
    have hBD2 : B2 D = none := s2.av D hBD (by rw [hHD']; exact fun z => nomatch z)
    have hD4 : H4 D = some (.lst xs) := s4.ex D _ (fun z => hDm z.symm) hD2
    have hBD4 : B4 D = none := s4.av D hBD2 (by rw [hD2]; exact fun z => nomatch z)
    cases bb with
    | false =>
      show (if false = true then _ else _)
      rw [if_neg Bool.false_ne_true]
      exact ⟨acc, B4, xs, h2 rfl, sB4, (ex.trans s2.exB).trans s4.exB, back R4, hBD4, hD4, (hI.mono s2.exB).mono s4.exB⟩
    | true =>
      show (if true = true then _ else _)
      rw [if_pos rfl]
      obtain ⟨P5, hE, hP⟩ := h1 rfl
      intro s H0 C cl fp
      refine hE s H0 C cl fp F σ3 B4 H4 R4 _ fun v B5 H5 d pd s5 R5 iv => ?_
      have hD5 : H5 D = some (.lst xs) := s5.ex D _ (fun z => hDm z.symm) hD4
      have hBD5 : B5 D = none := s5.av D hBD4 (by rw [hD4]; exact fun z => nomatch z)
      have hI5 : Iss A B5 acc xs := ((hI.mono s2.exB).mono s4.exB).mono s5.exB
      refine ⟨xs, hD5, ?_, acc ++ [d], B5, xs ++ [v], hP d pd, (sB4.trans s5).put (.inl hHD) hBD5, ((ex.trans s2.exB).trans s4.exB).trans s5.exB, (back R5).putOff hD0 hDm hBD5 hnD, hBD5, upd_same, hI5.append ⟨v, [], rfl, iv, rfl⟩⟩
      rw [← hI5.len]
      have := hlen k acc pv
      exact Nat.lt_of_le_of_lt this (Nat.lt_of_lt_of_le (Nat.lt_of_lt_of_le hlt hl) (by decide))
  · have e : k = ds.length := by omega
    subst e
    exact .inl ⟨y2 (Nat.le_refl _), q D xs B' H' acc (hd acc pv) sB R' hHD hBD hHD' hI⟩
theorem EvL.en {elt tg iter : Expr} {ifs : List Expr} {scope : Scope} {own : List (Str × Nat)} {PN : List Dat → Prop} (h : EvL A X elt tg iter ifs scope own Γ PN) (hN : X.N.Nodup := by assumption) (ok : BlkOk X.N X.env.scope scope own := by exact blkOk_by rfl) (hc : X.calm = true := by rfl)
    (hf : ∀ x, foldedSetIterable iter X.env x = pure x := by intro _; rfl) : EvN A X (.ListComp elt [⟨tg, iter, ifs, 0⟩] scope pos) Γ PN := fun F σ B H R Q q =>
  ⟨_, pe_lc (own := own) hc hN pi_w ok gC_ok tC_ok eC_ok hf, h F σ B H R Q q⟩
/-- y = [..], y a local -/
theorem sb_setL (i : Nat) {y : Str} {py spos : Pos} {elt tg iter : Expr} {ifs : List Expr} {scope : Scope} {own : List (Str × Nat)} {PN : List Dat → Prop} {rest : List Stmt} {a : AE} (h : EvL A X elt tg iter ifs scope own Γ PN) (k : ∀ ds, PN ds → Sb A X rest (Γ.set i (some (.mu ds))) a)
    (hN : X.N.Nodup := by assumption) (ok : BlkOk X.N X.env.scope scope own := by exact blkOk_by rfl) (hi : X.N[i]? = some y := by rfl) (hyl : X.env.scope.names.lookup y = some .local := by rfl) (hl : i < Γ.length := by exact Nat.le_of_ble_eq_true rfl)
    (hk : X.env.scope.kind = .function := by rfl) (hln : (py.line == pos.line) = true := by rfl) (ha : (scope.names.any fun (n, k) => n == y && (k == .local || k == .cell)) = false := by rfl) (hc : X.calm = true := by rfl) (hf : ∀ x, foldedSetIterable iter X.env x = pure x := by intro _; rfl) :
    Sb A X (.Assign [.Name y py] (.ListComp elt [⟨tg, iter, ifs, 0⟩] scope pos) spos :: rest) Γ a :=
  sb_st (ps_setLc hc hN hi hyl (sw_true hk hyl hln ha) pi_w ok gC_ok tC_ok eC_ok hf) fun F D σ B H E R => h F σ B H R _ fun p xs B' H' ds pd s R' h1 h2 h3 h4 =>
    E.nx' (k ds pd) (R'.setMu (R.fresh0 h1) (R.nmp h1) h2 h3 h4 hl fun j es _ hj => slot_ne (B' := B) (H' := H) R h1 j es hj)
theorem en_lc {elt tg iter : Expr} {ifs : List Expr} {scope : Scope} (own : List (Str × Nat)) {ds : List Dat} {PN : List Dat → Prop} (hw : Wk A X tg iter Γ ds) (Pv : Nat → List Dat → Prop) (h0 : Pv 0 [])
    (hs : ∀ k d acc, ds[k]? = some d → Pv k acc → ∃ Γ'' js, (∀ j ∈ js, j ∈ own.map (·.2)) ∧ (Blk X scope fun Y => Tg A Y tg d Γ Γ'' js) ∧ ∃ b : Bool, (Blk X scope fun Y => EvF A Y ifs Γ'' (fun z => z = b)) ∧
      (b = true → ∃ P : Dat → Prop, (Blk X scope fun Y => Ev A Y elt Γ'' P) ∧ ∀ e, P e → Pv (k + 1) (acc ++ [e])) ∧ (b = false → Pv (k + 1) acc))
    (hd : ∀ acc, Pv ds.length acc → PN acc) (hl : ds.length ≤ 100000) (hlen : ∀ k acc, Pv k acc → acc.length ≤ k) (hN : X.N.Nodup := by assumption) (hv : ∀ j ∈ own.map (·.2), Γ[j]? = some none) (ok : BlkOk X.N X.env.scope scope own := by exact blkOk_by rfl) (hc : X.calm = true := by rfl)
    (hf : ∀ x, foldedSetIterable iter X.env x = pure x := by intro _; rfl) : EvN A X (.ListComp elt [⟨tg, iter, ifs, 0⟩] scope pos) Γ PN := (el_lc own hw Pv h0 hs hd hl hlen hv).en hN ok hc hf
/-- [f x for x in ds] -/
theorem el_map {elt tg iter : Expr} {scope : Scope} (own : List (Str × Nat)) {ds : List Dat} (f : Dat → Dat) (hw : Wk A X tg iter Γ ds)
    (hs : ∀ d, d ∈ ds → ∃ Γ'' js, (∀ j ∈ js, j ∈ own.map (·.2)) ∧ (Blk X scope fun Y => Tg A Y tg d Γ Γ'' js) ∧ (Blk X scope fun Y => Ev A Y elt Γ'' (fun z => z = f d)))
    (hl : ds.length ≤ 100000) (hv : ∀ j ∈ own.map (·.2), Γ[j]? = some none) : EvL A X elt tg iter [] scope own Γ (fun z => z = ds.map f) :=
  el_lc own hw (fun k acc => acc = (ds.take k).map f) rfl (fun k d acc hd pv => by
    obtain ⟨Γ3, js, g1, g2, g3⟩ := hs d (List.mem_of_getElem? hd)
    refine ⟨Γ3, js, g1, g2, true, fun _ _ _ _ _ => ef_nil, fun _ => ⟨_, g3, fun e he => ?_⟩, fun z => nomatch z⟩
    rw [he, pv, List.take_add_one, hd, List.map_append]
    rfl) (fun acc pv => by rw [pv, List.take_length]) hl (fun k acc pv => by rw [pv, List.length_map, List.length_take]; omega) hv
theorem en_map {elt tg iter : Expr} {scope : Scope} (own : List (Str × Nat)) {ds : List Dat} (f : Dat → Dat) (hw : Wk A X tg iter Γ ds)
    (hs : ∀ d, d ∈ ds → ∃ Γ'' js, (∀ j ∈ js, j ∈ own.map (·.2)) ∧ (Blk X scope fun Y => Tg A Y tg d Γ Γ'' js) ∧ (Blk X scope fun Y => Ev A Y elt Γ'' (fun z => z = f d)))
    (hl : ds.length ≤ 100000) (hv : ∀ j ∈ own.map (·.2), Γ[j]? = some none) (hN : X.N.Nodup := by assumption) (ok : BlkOk X.N X.env.scope scope own := by exact blkOk_by rfl) (hc : X.calm = true := by rfl)
    (hf : ∀ x, foldedSetIterable iter X.env x = pure x := by intro _; rfl) : EvN A X (.ListComp elt [⟨tg, iter, [], 0⟩] scope pos) Γ (fun z => z = ds.map f) := (el_map own f hw hs hl hv).en hN ok hc hf
theorem own1 {x : Str} {i : Nat} (h : Γ[i]? = some none) : ∀ j ∈ ([(x, i)] : List (Str × Nat)).map (·.2), Γ[j]? = some none := fun j hj => by
  have e : j = i := by simpa using hj
  rw [e]; exact h
theorem own2 {x y : Str} {i k : Nat} (h : Γ[i]? = some none) (h2 : Γ[k]? = some none) : ∀ j ∈ ([(x, i), (y, k)] : List (Str × Nat)).map (·.2), Γ[j]? = some none := fun j hj => by
  have e : j = i ∨ j = k := by simpa using hj
  rcases e with e | e
  · rw [e]; exact h
  · rw [e]; exact h2
theorem own3 {x y z : Str} {i k l : Nat} (h : Γ[i]? = some none) (h2 : Γ[k]? = some none) (h3 : Γ[l]? = some none) : ∀ j ∈ ([(x, i), (y, k), (z, l)] : List (Str × Nat)).map (·.2), Γ[j]? = some none := fun j hj => by
  have e : j = i ∨ j = k ∨ j = l := by simpa using hj
  rcases e with e | e | e
  · rw [e]; exact h
  · rw [e]; exact h2
  · rw [e]; exact h3
end

/-! ### promises -/
section
variable {P : Program} {w : World} {K : PySem.W.Frag} {mg : Str → Option Value} {base : Heap} {A : Ad}
/-- from arguments that are such data: a datum; a new list; with the pot first -/
def Pu (A : Ad) (Pre : List Dat → Prop) (Post : List Dat → Dat → Prop) : Sp := fun vs H Q _ => ∃ B ds, Ex B H ∧ Iss A B ds vs ∧ Pre ds ∧ ∀ d v B' H', Post ds d → Stp none B H B' H' → Is A B' d v → Q v H'
def PuN (A : Ad) (Pre : List Dat → Prop) (Post : List Dat → List Dat → Prop) : Sp := fun vs H Q _ => ∃ B ds, Ex B H ∧ Iss A B ds vs ∧ Pre ds ∧
  ∀ es p xs B' H', Post ds es → Stp none B H B' H' → H p = none → B' p = none → H' p = some (.lst xs) → Iss A B' es xs → Q (.ref p) H'
def PuP (A : Ad) (Pre : List Dat → Prop) (Post : List Dat → Dat → Prop) : Sp := fun vs H Q _ => ∃ B p us ds, vs = .ref p :: us ∧ Ex B H ∧ B p = none ∧ PotAt p H ∧ Iss A B ds us ∧ Pre ds ∧
  ∀ d v B' H', Post ds d → Stp (some p) B H B' H' → PotAt p H' → Is A B' d v → Q v H'
/-- the state at a def's entry -/
def sl0 (N : List Str) (ds : List Dat) : Sls := ds.map (fun d => some (.im d)) ++ List.replicate (N.length - ds.length) none
def slP (N : List Str) (ds : List Dat) : Sls := some .pot :: (ds.map (fun d => some (.im d)) ++ List.replicate (N.length - (ds.length + 1)) none)
theorem sl0_at {N : List Str} {ds : List Dat} {i : Nat} {s : Sl} (h : (sl0 N ds)[i]? = some (some s)) : ∃ d, ds[i]? = some d ∧ s = .im d := by
  unfold sl0 at h
  by_cases hi : i < ds.length
  · rw [List.getElem?_append_left (by rw [List.length_map]; exact hi), List.getElem?_map, List.getElem?_eq_getElem hi] at h
    exact ⟨ds[i], List.getElem?_eq_getElem hi, by cases h; rfl⟩
  · rw [List.getElem?_append_right (by rw [List.length_map]; omega), List.getElem?_replicate] at h
    split at h <;> cases h
theorem start_at {N : List Str} {vs : List V} {i : Nat} {v : V} (h : vs[i]? = some v) : (L2.start N vs)[i]? = some (some v) := by
  unfold L2.start
  have hi := (List.getElem?_eq_some_iff.mp h).1
  rw [List.getElem?_append_left (by rw [List.length_map]; exact hi), List.getElem?_map, h]
  rfl
theorem rel0 {B H : Hp} {N : List Str} {ds : List Dat} {vs : List V} (e : Ex B H) (h : Iss A B ds vs) (hl : ds.length ≤ N.length) : Rel A ⟨none, B, H⟩ (sl0 N ds) (L2.start N vs) B H :=
  ⟨Stp.refl0 e, fun i s hs => by
    obtain ⟨d, h1, rfl⟩ := sl0_at hs
    obtain ⟨v, h2, h3⟩ := h.at h1
    exact ⟨v, start_at h2, h3⟩, fun i j x y n e1 e2 => by
    obtain ⟨d, _, q⟩ := sl0_at e1
    exact (nomatch q), by
    unfold sl0 L2.start
    have := h.len
    rw [List.length_append, List.length_append, List.length_map, List.length_map, List.length_replicate, List.length_replicate]
    omega⟩
theorem relP {B H : Hp} {N : List Str} {ds : List Dat} {us : List V} {p : Addr} (e : Ex B H) (hB : B p = none) (hp : PotAt p H) (h : Iss A B ds us) (hl : ds.length + 1 ≤ N.length) : Rel A ⟨some p, B, H⟩ (slP N ds) (L2.start N (.ref p :: us)) B H := by
  have hH : H p ≠ none := by
    obtain ⟨a, b, q, _⟩ := hp
    rw [q]
    exact fun z => nomatch z
  refine ⟨Stp.refl e fun q hq => by cases hq; exact ⟨hB, hH⟩, fun i s hs => ?_, fun i j x y n e1 e2 => ?_, ?_⟩
  · cases i with
    | zero =>
      have : s = .pot := by
        have q : some (some Sl.pot) = some (some s) := hs
        cases q; rfl
      subst this
      exact ⟨.ref p, start_at rfl, p, rfl, rfl, hp⟩
    | succ i =>
      have hs' : (ds.map (fun d => some (Sl.im d)) ++ List.replicate (N.length - (ds.length + 1)) none)[i]? = some (some s) := hs
      by_cases hi : i < ds.length
      · rw [List.getElem?_append_left (by rw [List.length_map]; exact hi), List.getElem?_map, List.getElem?_eq_getElem hi] at hs'
        cases hs'
        obtain ⟨v, h2, h3⟩ := h.at (List.getElem?_eq_getElem hi)
        exact ⟨v, start_at (vs := .ref p :: us) (i := i + 1) h2, h3⟩
      · rw [List.getElem?_append_right (by rw [List.length_map]; omega), List.getElem?_replicate] at hs'
        split at hs' <;> cases hs'
  · have f : ∀ {i : Nat} {x : List Dat}, (slP N ds)[i]? ≠ some (some (.mu x)) := fun {i x} q => by
      cases i with
      | zero => cases q
      | succ i =>
        have q' : (ds.map (fun d => some (Sl.im d)) ++ List.replicate (N.length - (ds.length + 1)) none)[i]? = some (some (.mu x)) := q
        by_cases hi : i < ds.length
        · rw [List.getElem?_append_left (by rw [List.length_map]; exact hi), List.getElem?_map, List.getElem?_eq_getElem hi] at q'
          cases q'
        · rw [List.getElem?_append_right (by rw [List.length_map]; omega), List.getElem?_replicate] at q'
          split at q' <;> cases q'
    exact absurd e1 f
  · have := h.len
    unfold slP L2.start
    rw [List.length_cons, List.length_append, List.length_append, List.length_map, List.length_map, List.length_replicate, List.length_replicate, List.length_cons]
    omega

/-- a def that the module holds under x, with its promise -/
structure Cal (P : Program) (w : World) (K : PySem.W.Frag) (mg : Str → Option Value) (base : Heap) (x : Str) (k : Nat) (sp : Sp) : Prop where
  ex : ∃ (f : Addr) (fd : FuncData) (ps : List Str), mg x = some (.ref f) ∧ PySem.W.keepIn K (.ref f) = true ∧ Binds K fd ps [] ∧ FnOk P w K mg base CX0 k f fd ps sp
/-- a def of the text, standing behind the top -/
structure Dfn (K : PySem.W.Frag) (mg : Str → Option Value) (x : Str) (st : Stmt) (ps : List Str) : Prop where
  ex : ∃ (f : Addr) (fd : FuncData), Fun K x x st f fd ∧ mg x = some (.ref f) ∧ Binds K fd ps []
section
variable {x qual : Str} {st : Stmt} {f : Addr} {fd : FuncData} {N ps : List Str} {k : Nat} {Pre : List Dat → Prop}
/-- the body of a def keeps its promise -/
theorem fok_pu {Post : List Dat → Dat → Prop} (F : Fun K x qual st f fd) (S : FnScope N ps (defScope st)) (hn : ps.length ≤ N.length) (len : ∀ ds, Pre ds → ds.length = ps.length)
    (body : ∀ (cdv : Value) (A' : Around) (outer : List Env) (s : Shared) (H : Hp) (ds : List Dat), Room k (A'.deeper (PyProof.Rows.envOfC qual (defScope st) s.heap.objs.size f cdv)) → Pre ds →
      Sb A (cxOf CX0 P w K mg base N qual (defScope st) f cdv A' outer s H E0).nox (defBody st) (sl0 N ds) { nx := fun _ => Post ds .non, rt := Post ds }) : FnOk P w K mg base CX0 (k + 1) f fd ps (Pu A Pre Post) := by
  refine F.ok S (fun vs H Q E ⟨B, ds, _, h, hp, _⟩ => by rw [← h.len]; exact len ds hp) fun cdv A' outer s H vs Q E hr ⟨B, ds, hB, h, hp, q⟩ => ?_
  have sb := body cdv A' outer s H ds hr hp ⟨none, B, H⟩ { nx := fun _ H' => Q .non H', rt := Q } (L2.start N vs) B H
    ⟨fun Γ σ B' H' z R => q .non .non B' H' z R.st rfl, fun d v B' H' z st _ iv => q d v B' H' z st iv, fun _ _ _ _ _ z => z.elim, fun _ _ _ _ z => z.elim, fun _ _ _ _ z => z.elim, fun _ _ z => z.elim⟩
    (rel0 hB h (by rw [len ds hp]; exact hn))
  obtain ⟨t, h1, h2⟩ := sb
  exact ⟨t, ⟨fun pins s' σ H' D I hw => h1.run pins s' σ H' D I hw⟩, h2⟩
theorem fok_puN {Post : List Dat → List Dat → Prop} (F : Fun K x qual st f fd) (S : FnScope N ps (defScope st)) (hn : ps.length ≤ N.length) (len : ∀ ds, Pre ds → ds.length = ps.length)
    (body : ∀ (cdv : Value) (A' : Around) (outer : List Env) (s : Shared) (H : Hp) (ds : List Dat), Room k (A'.deeper (PyProof.Rows.envOfC qual (defScope st) s.heap.objs.size f cdv)) → Pre ds →
      Sb A (cxOf CX0 P w K mg base N qual (defScope st) f cdv A' outer s H E0).nox (defBody st) (sl0 N ds) { nx := fun _ => False, rt := fun _ => False, rtN := Post ds }) : FnOk P w K mg base CX0 (k + 1) f fd ps (PuN A Pre Post) := by
  refine F.ok S (fun vs H Q E ⟨B, ds, _, h, hp, _⟩ => by rw [← h.len]; exact len ds hp) fun cdv A' outer s H vs Q E hr ⟨B, ds, hB, h, hp, q⟩ => ?_
  have sb := body cdv A' outer s H ds hr hp ⟨none, B, H⟩ { nx := fun _ H' => Q .non H', rt := Q } (L2.start N vs) B H
    ⟨fun _ _ _ _ z => z.elim, fun _ _ _ _ z => z.elim, fun es p xs B' H' z st _ h0 h1 h2 h3 => q es p xs B' H' z st h0 h1 h2 h3, fun _ _ _ _ z => z.elim, fun _ _ _ _ z => z.elim, fun _ _ z => z.elim⟩
    (rel0 hB h (by rw [len ds hp]; exact hn))
  obtain ⟨t, h1, h2⟩ := sb
  exact ⟨t, ⟨fun pins s' σ H' D I hw => h1.run pins s' σ H' D I hw⟩, h2⟩
theorem fok_puP {Post : List Dat → Dat → Prop} (F : Fun K x qual st f fd) (S : FnScope N ps (defScope st)) (hn : ps.length ≤ N.length) (len : ∀ ds, Pre ds → ds.length + 1 = ps.length)
    (body : ∀ (cdv : Value) (A' : Around) (outer : List Env) (s : Shared) (H : Hp) (ds : List Dat), Room k (A'.deeper (PyProof.Rows.envOfC qual (defScope st) s.heap.objs.size f cdv)) → Pre ds →
      Sb A (cxOf CX0 P w K mg base N qual (defScope st) f cdv A' outer s H E0).nox (defBody st) (slP N ds) { nx := fun _ => False, rt := Post ds, pt := True }) : FnOk P w K mg base CX0 (k + 1) f fd ps (PuP A Pre Post) := by
  refine F.ok S (fun vs H Q E ⟨B, p, us, ds, e, _, _, _, h, hp, _⟩ => by rw [e, List.length_cons, ← h.len]; exact len ds hp) fun cdv A' outer s H vs Q E hr ⟨B, p, us, ds, e, hB, hBp, hpt, h, hp, q⟩ => ?_
  subst e
  have sb := body cdv A' outer s H ds hr hp ⟨some p, B, H⟩ { nx := fun _ H' => Q .non H', rt := Q } (L2.start N (.ref p :: us)) B H
    ⟨fun _ _ _ _ z => z.elim, fun d v B' H' z st g iv => by
      obtain ⟨p', e1, e2⟩ := g trivial
      cases e1
      exact q d v B' H' z st e2 iv, fun _ _ _ _ _ z => z.elim, fun _ _ _ _ z => z.elim, fun _ _ _ _ z => z.elim, fun _ _ z => z.elim⟩
    (relP hB hBp hpt h (by rw [len ds hp]; exact hn))
  obtain ⟨t, h1, h2⟩ := sb
  exact ⟨t, ⟨fun pins s' σ H' D I hw => h1.run pins s' σ H' D I hw⟩, h2⟩
end
theorem Dfn.pu {x : Str} {st : Stmt} {N ps : List Str} {k : Nat} {Pre : List Dat → Prop} {Post : List Dat → Dat → Prop} (D : Dfn K mg x st ps) (S : FnScope N ps (defScope st)) (hn : ps.length ≤ N.length) (len : ∀ ds, Pre ds → ds.length = ps.length)
    (body : ∀ (f : Addr) (cdv : Value) (A' : Around) (outer : List Env) (s : Shared) (H : Hp) (ds : List Dat), Room k (A'.deeper (PyProof.Rows.envOfC x (defScope st) s.heap.objs.size f cdv)) → Pre ds →
      Sb A (cxOf CX0 P w K mg base N x (defScope st) f cdv A' outer s H E0).nox (defBody st) (sl0 N ds) { nx := fun _ => Post ds .non, rt := Post ds }) : Cal P w K mg base x (k + 1) (Pu A Pre Post) :=
  let ⟨f, fd, F, hm, hb⟩ := D.ex
  ⟨f, fd, ps, hm, F.kp, hb, fok_pu F S hn len (body f)⟩
theorem Dfn.puN {x : Str} {st : Stmt} {N ps : List Str} {k : Nat} {Pre : List Dat → Prop} {Post : List Dat → List Dat → Prop} (D : Dfn K mg x st ps) (S : FnScope N ps (defScope st)) (hn : ps.length ≤ N.length) (len : ∀ ds, Pre ds → ds.length = ps.length)
    (body : ∀ (f : Addr) (cdv : Value) (A' : Around) (outer : List Env) (s : Shared) (H : Hp) (ds : List Dat), Room k (A'.deeper (PyProof.Rows.envOfC x (defScope st) s.heap.objs.size f cdv)) → Pre ds →
      Sb A (cxOf CX0 P w K mg base N x (defScope st) f cdv A' outer s H E0).nox (defBody st) (sl0 N ds) { nx := fun _ => False, rt := fun _ => False, rtN := Post ds }) : Cal P w K mg base x (k + 1) (PuN A Pre Post) :=
  let ⟨f, fd, F, hm, hb⟩ := D.ex
  ⟨f, fd, ps, hm, F.kp, hb, fok_puN F S hn len (body f)⟩
theorem Dfn.puP {x : Str} {st : Stmt} {N ps : List Str} {k : Nat} {Pre : List Dat → Prop} {Post : List Dat → Dat → Prop} (D : Dfn K mg x st ps) (S : FnScope N ps (defScope st)) (hn : ps.length ≤ N.length) (len : ∀ ds, Pre ds → ds.length + 1 = ps.length)
    (body : ∀ (f : Addr) (cdv : Value) (A' : Around) (outer : List Env) (s : Shared) (H : Hp) (ds : List Dat), Room k (A'.deeper (PyProof.Rows.envOfC x (defScope st) s.heap.objs.size f cdv)) → Pre ds →
      Sb A (cxOf CX0 P w K mg base N x (defScope st) f cdv A' outer s H E0).nox (defBody st) (slP N ds) { nx := fun _ => False, rt := Post ds, pt := True }) : Cal P w K mg base x (k + 1) (PuP A Pre Post) :=
  let ⟨f, fd, F, hm, hb⟩ := D.ex
  ⟨f, fd, ps, hm, F.kp, hb, fok_puP F S hn len (body f)⟩
end

/-! ### calls -/
section
variable {A : Ad} {X : Cx} {Γ : Sls} {P : Dat → Prop} {pos p : Pos} {x : Str} {e : Expr} {es : List Expr} {k j : Nat} {Pre : List Dat → Prop} {PA1 : List Dat → Prop}
/-- f(e, ..) -/
theorem ev_call {Post : List Dat → Dat → Prop} (C : Cal X.prog X.w X.K X.mg X.base x k (Pu A Pre Post)) (hr : Room j X.A) (ha : EvA A X (e :: es) Γ PA1) (h : ∀ ds, PA1 ds → Pre ds ∧ ∀ d, Post ds d → P d) (hk : k ≤ j := by decide) (hg : Gl X x := by rfl)
    (hdb : (x == ("__debug__" : Str)) = false := by decide) (he : starEach (e :: es) X.env = (false, eval e X.env) :: starEach es X.env := by rfl) (hpl : (backTo pos (starEach es X.env)).any (·.1) = false := by rfl) : Ev A X (.Call (.Name x p) (e :: es) [] pos) Γ P := by
  obtain ⟨f, fd, ps, hm, hkp, hb, F⟩ := C.ex
  refine ev_k (pe_call F (hr.mono hk) hg hm hkp hb .nil pass0 pa_w hdb he hpl) fun F σ B H R Q q => ha F σ B H R _ fun vs B1 H1 ds pd s1 R1 i1 => ?_
  obtain ⟨h1, h2⟩ := h ds pd
  refine ⟨B1, ds, R1.sub, by rw [List.append_nil]; exact i1, h1, fun d v B' H' pd' s iv => q v B' H' d (h2 d pd') (s1.trans (s.weak R1.mB)) (R1.step s) iv⟩
theorem en_call {Post : List Dat → List Dat → Prop} {PN : List Dat → Prop} (C : Cal X.prog X.w X.K X.mg X.base x k (PuN A Pre Post)) (hr : Room j X.A) (ha : EvA A X (e :: es) Γ PA1) (h : ∀ ds, PA1 ds → Pre ds ∧ ∀ d, Post ds d → PN d) (hk : k ≤ j := by decide) (hg : Gl X x := by rfl)
    (hdb : (x == ("__debug__" : Str)) = false := by decide) (he : starEach (e :: es) X.env = (false, eval e X.env) :: starEach es X.env := by rfl) (hpl : (backTo pos (starEach es X.env)).any (·.1) = false := by rfl) : EvN A X (.Call (.Name x p) (e :: es) [] pos) Γ PN := by
  obtain ⟨f, fd, ps, hm, hkp, hb, F⟩ := C.ex
  intro F σ B H R Q q
  refine ⟨_, pe_call ‹_› (hr.mono hk) hg hm hkp hb .nil pass0 pa_w hdb he hpl, ha F σ B H R _ fun vs B1 H1 ds pd s1 R1 i1 => ?_⟩
  obtain ⟨h1, h2⟩ := h ds pd
  exact ⟨B1, ds, R1.sub, by rw [List.append_nil]; exact i1, h1, fun es p xs B' H' pd' s g1 g2 g3 g4 => q p xs B' H' es (h2 es pd') (s1.trans (s.weak R1.mB)) (R1.step s) (fresh_of s1 R1 g1) g2 g3 g4⟩
/-- f(pot, e, ..), the pot in slot 0 -/
theorem ev_callP {y : Str} {py : Pos} {Post : List Dat → Dat → Prop} (C : Cal X.prog X.w X.K X.mg X.base x k (PuP A Pre Post)) (hr : Room j X.A) (ha : EvA A X es Γ PA1) (h : ∀ ds, PA1 ds → Pre ds ∧ ∀ d, Post ds d → P d) (hΓ : Γ[0]? = some (some .pot) := by rfl) (hk : k ≤ j := by decide) (hg : Gl X x := by rfl)
    (py' : PE X (.Name y py) (tVar 0) := by exact pv 0)
    (hdb : (x == ("__debug__" : Str)) = false := by decide) (he : starEach (.Name y py :: es) X.env = (false, eval (.Name y py) X.env) :: starEach es X.env := by rfl) (hpl : (backTo pos (starEach es X.env)).any (·.1) = false := by rfl) : Ev A X (.Call (.Name x p) (.Name y py :: es) [] pos) Γ P := by
  obtain ⟨f, fd, ps, hm, hkp, hb, F⟩ := C.ex
  refine ev_k (pe_call F (hr.mono hk) hg hm hkp hb .nil pass0 (pa_cons py' pa_w he) hdb he hpl) fun F σ B H R Q q => ?_
  obtain ⟨v, e1, p, rfl, hmp, _⟩ := R.sl 0 _ hΓ
  refine ⟨_, e1, ha F σ B H R _ fun vs B1 H1 ds pd s1 R1 i1 => ?_⟩
  obtain ⟨v1, e2, p', rfl, hmp', hpt⟩ := R1.sl 0 _ hΓ
  rw [hmp] at hmp'
  cases hmp'
  obtain ⟨h1, h2⟩ := h ds pd
  refine ⟨B1, p, vs, ds, by rw [List.append_nil], R1.sub, (R1.mB p hmp).1, hpt, i1, h1, fun d v B' H' pd' s hpt' iv => ?_⟩
  rw [← hmp] at s
  refine q v B' H' d (h2 d pd') (s1.trans s) ⟨R1.st.trans s, fun i sl hs => ?_, R1.ap, R1.len⟩ iv
  obtain ⟨u, f1, ok⟩ := R1.sl i sl hs
  refine ⟨u, f1, ?_⟩
  cases sl with
  | im d => exact Is.mono s.exB ok
  | mu d =>
    obtain ⟨r, zs, g1, g2, g3, g4, g5, g6⟩ := ok
    exact ⟨r, zs, g1, g2, g3, s.av r g4 (by rw [g5]; exact fun z => nomatch z), s.ex r _ (fun z => g3 z.symm) g5, g6.mono s.exB⟩
  | pot =>
    obtain ⟨r, g1, g2, _⟩ := ok
    rw [hmp] at g2
    cases g2
    exact ⟨p, g1, hmp, hpt'⟩
  | self C fs =>
    obtain ⟨r, dx, gs, g1, g2, g3, g4⟩ := ok
    rw [hmp] at g2
    cases g2
    obtain ⟨a, b, g5, _⟩ := hpt
    rw [g3] at g5
    cases g5
  | pin u d B1 => exact ⟨ok.1, ok.2.1, ok.2.2.trans s.exB⟩
end
end K64
/-! Own classes: fields, properties, operators by their own methods, instances made. -/
namespace K64
open PySem L2

/-! ### fields -/
section
variable {A : Ad} {X : Cx} {Γ : Sls} {a b e : Expr} {es : List Expr} {P P1 P2 : Dat → Prop} {pos p : Pos} {C : Addr} {f : Str}
theorem ev_fld {P' : Dat → Prop} (ha : Ev A X a Γ P1) (h : ∀ d v B, P1 d → Is A B d v → ∃ (p dx : Addr) (fs : List (Str × V)) (u : V) (d' : Dat), v = .ref p ∧ B p = some (.ins C dx fs) ∧ fs.lookup f = some u ∧ P' d' ∧ Is A B d' u) (c : Cls X.K C) (n : NoAttr X.K C f)
    (hb : attributeBase a f X.env (eval a X.env) = eval a X.env := by rfl) : Ev A X (.Attribute a f pos) Γ P' :=
  ev_k (pe_fld pe_w hb) fun F σ B H R Q q => ha F σ B H R _ fun v B1 H1 d pd s R1 iv => by
    obtain ⟨p, dx, fs, u, d', rfl, hp, hl, pd', iu⟩ := h d v B1 pd iv
    exact ⟨p, C, dx, fs, u, rfl, R1.sub _ _ hp, c, n, hl, q u B1 H1 d' pd' s R1 iu⟩
theorem ne_tb : (("own_bottom" : Str) == "own_top") = false := by decide +kernel
theorem ne_sr : (("own_size" : Str) == "own_rows") = false := by decide +kernel
theorem ne_ir : (("own_ints" : Str) == "own_rows") = false := by decide +kernel
theorem ne_is : (("own_ints" : Str) == "own_size") = false := by decide +kernel
/-- what the written part tells of the two classes' fields -/
structure FldR (K : PySem.W.Frag) (C : Addr) : Prop where
  cl : Cls K C
  t : NoAttr K C "own_top"
  b : NoAttr K C "own_bottom"
structure FldP (K : PySem.W.Frag) (C : Addr) : Prop where
  cl : Cls K C
  r : NoAttr K C "own_rows"
  s : NoAttr K C "own_size"
  i : NoAttr K C "own_ints"
section
variable {t bt : Int} (ha : Ev A X a Γ (fun z => z = .rat t bt)) (c : FldR X.K A.R)
include ha c
theorem ev_ot (hb : attributeBase a "own_top" X.env (eval a X.env) = eval a X.env := by rfl) : Ev A X (.Attribute a "own_top" pos) Γ (fun z => z = .int t) :=
  ev_fld ha (fun d v B pd iv => by
    subst pd
    obtain ⟨p, dx, rfl, h⟩ := iv
    exact ⟨p, dx, _, _, _, rfl, h, by simp [List.lookup], rfl, rfl⟩) c.cl c.t hb
theorem ev_ob (hb : attributeBase a "own_bottom" X.env (eval a X.env) = eval a X.env := by rfl) : Ev A X (.Attribute a "own_bottom" pos) Γ (fun z => z = .int bt) :=
  ev_fld ha (fun d v B pd iv => by
    subst pd
    obtain ⟨p, dx, rfl, h⟩ := iv
    exact ⟨p, dx, _, _, _, rfl, h, by simp [List.lookup, ne_tb], rfl, rfl⟩) c.cl c.b hb
end
section
variable {r n i : Dat} (ha : Ev A X a Γ (fun z => z = .prs r n i)) (c : FldP X.K A.P)
include ha c
theorem ev_or_ (hb : attributeBase a "own_rows" X.env (eval a X.env) = eval a X.env := by rfl) : Ev A X (.Attribute a "own_rows" pos) Γ (fun z => z = r) :=
  ev_fld ha (fun d v B pd iv => by
    subst pd
    obtain ⟨p, dx, v1, v2, v3, rfl, h, h1, h2, h3⟩ := iv
    exact ⟨p, dx, _, v1, _, rfl, h, by simp [List.lookup], rfl, h1⟩) c.cl c.r hb
theorem ev_os (hb : attributeBase a "own_size" X.env (eval a X.env) = eval a X.env := by rfl) : Ev A X (.Attribute a "own_size" pos) Γ (fun z => z = n) :=
  ev_fld ha (fun d v B pd iv => by
    subst pd
    obtain ⟨p, dx, v1, v2, v3, rfl, h, h1, h2, h3⟩ := iv
    exact ⟨p, dx, _, v2, _, rfl, h, by simp [List.lookup, ne_sr], rfl, h2⟩) c.cl c.s hb
theorem ev_oi (hb : attributeBase a "own_ints" X.env (eval a X.env) = eval a X.env := by rfl) : Ev A X (.Attribute a "own_ints" pos) Γ (fun z => z = i) :=
  ev_fld ha (fun d v B pd iv => by
    subst pd
    obtain ⟨p, dx, v1, v2, v3, rfl, h, h1, h2, h3⟩ := iv
    exact ⟨p, dx, _, v3, _, rfl, h, by simp [List.lookup, ne_ir, ne_is], rfl, h3⟩) c.cl c.i hb
end

/-! ### methods -/
/-- a method of the class at C, with its promise -/
structure CalM (P : Program) (w : World) (K : PySem.W.Frag) (mg : Str → Option Value) (base : Heap) (C : Addr) (m : Str) (k : Nat) (sp : Sp) : Prop where
  ex : ∃ (f : Addr) (fd : FuncData) (ps : List Str), PySem.W.findIn K (.ref C) m = some (some (.ref f)) ∧ PySem.W.isFn K (.ref f) = true ∧ PySem.W.keepIn K (.ref f) = true ∧ Binds K fd ps [] ∧ FnOk P w K mg base CX0 k f fd ps sp
/-- a property of the class at C, its getter with its promise -/
structure CalG (P : Program) (w : World) (K : PySem.W.Frag) (mg : Str → Option Value) (base : Heap) (C : Addr) (m : Str) (k : Nat) (sp : Sp) : Prop where
  ex : ∃ (q f : Addr) (fd : FuncData) (ps : List Str), PropOf K C m q f ∧ Binds K fd ps [] ∧ FnOk P w K mg base CX0 k f fd ps sp
theorem is_rat {B : Hp} {t b : Int} {v : V} (h : Is A B (.rat t b) v) : ∃ (p dx : Addr) (fs : List (Str × V)), v = .ref p ∧ B p = some (.ins A.R dx fs) :=
  let ⟨p, dx, e, h'⟩ := h
  ⟨p, dx, _, e, h'⟩
theorem ev_prop {k j : Nat} {t bt : Int} {Pre : List Dat → Prop} {Post : List Dat → Dat → Prop} (G : CalG X.prog X.w X.K X.mg X.base A.R f k (Pu A Pre Post)) (hr : Room j X.A) (c : Cls X.K A.R) (ha : Ev A X a Γ (fun z => z = .rat t bt)) (h : Pre [.rat t bt] ∧ ∀ d, Post [.rat t bt] d → P d) (hk : k + 1 ≤ j := by decide)
    (hb : attributeBase a f X.env (eval a X.env) = eval a X.env := by rfl) : Ev A X (.Attribute a f pos) Γ P := by
  obtain ⟨q, g, fd, ps, hp, hbd, F⟩ := G.ex
  refine ev_k (pe_prop pe_w c hp F (hr.mono hk) hbd .nil pass0 hb) fun F σ B H R Q q => ha F σ B H R _ fun v B1 H1 d pd s R1 iv => ?_
  subst pd
  obtain ⟨p, dx, fs, rfl, hp⟩ := is_rat iv
  exact ⟨p, dx, fs, rfl, R1.sub _ _ hp, B1, [.rat t bt], R1.sub, ⟨_, [], rfl, iv, rfl⟩, h.1, fun d v B' H' pd' s' iv' => q v B' H' d (h.2 d pd') (s.trans (s'.weak R1.mB)) (R1.step s') iv'⟩
theorem cmp_back {X : Cx} {pins : List (Addr × Obj)} {σ : L2.St} {Q : VK} {v : Value} {s : Shared} (h : EP X pins σ Q v s) : PySem.W.CmpBack (EP X pins σ Q) v s := by
  obtain ⟨x, H', I, r, q⟩ := id h
  cases x with
  | non => cases r; exact h
  | bl b => cases r; exact h
  | int i => obtain ⟨t, rfl⟩ := r; exact h
  | str i => obtain ⟨t, rfl⟩ := r; exact h
  | byt i => obtain ⟨t, rfl⟩ := r; exact h
  | flt i => obtain ⟨t, rfl⟩ := r; exact h
  | ref a => cases r; exact h
  | ty n => cases r; exact h
/-- what the written part tells of an operator's method -/
structure OpC (K : PySem.W.Frag) (C : Addr) (nm : String) : Prop where
  first : PySem.W.selfFirst K C = true
  rr : ∃ rc, PySem.W.findIn K (.ref C) (dunderR nm) = some rc ∧ (rc = none ∨ ∃ g : Addr, rc = some (.ref g))
  i1 : ∃ fo, PySem.W.findIn K (.type "int") (PySem.dunder nm) = some fo
  i2 : ∃ ro, PySem.W.findIn K (.type "int") (dunderR nm) = some ro
  sub : PySem.W.subIn K (.type "int") (.ref C) = some false
/-- x op y, x an instance of the class at C, y one too or an int -/
def rOwn (C : Addr) (sp : Sp) : R2 := fun x y H Q => ∃ (p dx : Addr) (fs : List (Str × V)), x = .ref p ∧ H p = some (.ins C dx fs) ∧ ((∃ (q dy : Addr) (gs : List (Str × V)), y = .ref q ∧ H q = some (.ins C dy gs)) ∨ ∃ i, y = .int i) ∧ sp [x, y] H Q E0
theorem op_own {op : Operator} {k : Nat} {sp : Sp} (M : CalM X.prog X.w X.K X.mg X.base C (PySem.dunder op.info.2) k sp) (hr : Room k X.A) (O : OpC X.K C op.info.2) : OpR X (binaryOp op) (rOwn C sp) := by
  obtain ⟨f, fd, ps, hf, hfn, hkp, hb, F⟩ := M.ex
  intro pins s σ H x y v u Q I rx ry h
  obtain ⟨p, dx, fs, rfl, hp, hy, hsp⟩ := h
  cases rx
  obtain ⟨mA, O1, _⟩ := ins_get I.hok hp
  obtain ⟨od, J, _⟩ := O1.look
  obtain ⟨m, fr⟩ := I.fr
  have go : wpAny (model X.prog X.w) X.A (call (.ref f) [.ref p, u]) (PySem.W.CmpBack (EP X pins σ Q)) X.xe s :=
    thn (run_fn (us := [.ref p, u]) (vs := [.ref p, y]) F hr hb .nil pass0 I (.cons rfl (.cons ry .nil)) hsp) fun v s' hv => cmp_back hv
  rcases hy with ⟨q, dy, gs, rfl, hq⟩ | ⟨i, rfl⟩
  · cases ry
    obtain ⟨mB, O2, _⟩ := ins_get I.hok hq
    obtain ⟨od2, J2, _⟩ := O2.look
    exact PySem.W.binop_K fr I.ok.mod.kin J J2.type O.first hf hfn go
  · obtain ⟨t, rfl⟩ := ry
    obtain ⟨rc, r1, r2⟩ := O.rr
    obtain ⟨fo, i1⟩ := O.i1
    obtain ⟨ro, i2⟩ := O.i2
    exact PySem.W.ksp_binT fr I.ok.mod.kin J rfl O.first hf hfn r1 r2 i1 i2 O.sub go
def IsNum : Dat → Prop
  | .int _ => True
  | .rat _ _ => True
  | _ => False
theorem rk_own {d1 d2 : Dat} {Pre : List Dat → Prop} {Post : List Dat → Dat → Prop} (h1 : ∃ t b, d1 = .rat t b) (h2 : IsNum d2) (hp : Pre [d1, d2]) (hP : ∀ d, Post [d1, d2] d → P d) : R2k A (rOwn A.R (Pu A Pre Post)) (fun z => z = d1) (fun z => z = d2) P := by
  intro x y da db B H e1 e2 i1 i2 ex Q q
  subst e1 e2
  obtain ⟨t, b, rfl⟩ := h1
  obtain ⟨p, dx, fs, rfl, hB⟩ := is_rat i1
  refine ⟨p, dx, fs, rfl, ex _ _ hB, ?_, B, [.rat t b, db], ex, ⟨_, _, rfl, i1, _, _, rfl, i2, rfl⟩, hp, fun d v B' H' pd s iv => q v B' H' d (hP d pd) s iv⟩
  cases db with
  | int i => cases i2; exact .inr ⟨i, rfl⟩
  | rat t2 b2 =>
    obtain ⟨p2, dx2, fs2, rfl, hB2⟩ := is_rat i2
    exact .inl ⟨p2, dx2, fs2, rfl, ex _ _ hB2⟩
  | _ => exact h2.elim
theorem ev_own {op : Operator} {k j : Nat} {d1 d2 : Dat} {Pre : List Dat → Prop} {Post : List Dat → Dat → Prop} (M : CalM X.prog X.w X.K X.mg X.base A.R (PySem.dunder op.info.2) k (Pu A Pre Post)) (hr : Room j X.A) (O : OpC X.K A.R op.info.2)
    (ha : Ev A X a Γ (fun z => z = d1)) (hb : Ev A X b Γ (fun z => z = d2)) (h1 : ∃ t b, d1 = .rat t b) (h2 : IsNum d2) (hp : Pre [d1, d2]) (hP : ∀ d, Post [d1, d2] d → P d) (hk : k ≤ j := by decide) : Ev A X (.BinOp a op b pos) Γ P :=
  ev_two (pe_op (op_own M (hr.mono hk) O) pe_w pe_w) ha hb (rk_own h1 h2 hp hP)
/-- - x -/
theorem un_own {k : Nat} {sp : Sp} (M : CalM X.prog X.w X.K X.mg X.base C "__neg__" k sp) (hr : Room k X.A) : UnR X (unaryOp .USub) (fun x H Q => ∃ (p dx : Addr) (fs : List (Str × V)), x = .ref p ∧ H p = some (.ins C dx fs) ∧ sp [x] H Q E0) := by
  obtain ⟨f, fd, ps, hf, hfn, hkp, hb, F⟩ := M.ex
  intro pins s σ H x v Q I rx h
  obtain ⟨p, dx, fs, rfl, hp, hsp⟩ := h
  cases rx
  obtain ⟨mA, O1, _⟩ := ins_get I.hok hp
  obtain ⟨od, J, _⟩ := O1.look
  obtain ⟨m, fr⟩ := I.fr
  exact PySem.W.ksp_neg fr I.ok.mod.kin J hf hfn (run_fn (us := [.ref p]) (vs := [.ref p]) F hr hb .nil pass0 I (.cons rfl .nil) hsp)
theorem ev_negO {k j : Nat} {t bt : Int} {Pre : List Dat → Prop} {Post : List Dat → Dat → Prop} (M : CalM X.prog X.w X.K X.mg X.base A.R "__neg__" k (Pu A Pre Post)) (hr : Room j X.A) (ha : Ev A X a Γ (fun z => z = .rat t bt)) (hp : Pre [.rat t bt]) (hP : ∀ d, Post [.rat t bt] d → P d) (hk : k ≤ j := by decide) :
    Ev A X (.UnaryOp .USub a pos) Γ P :=
  ev_un (pe_un (un_own M (hr.mono hk)) pe_w) ha fun x da B H e1 i1 ex Q q => by
    subst e1
    obtain ⟨p, dx, fs, rfl, hB⟩ := is_rat i1
    exact ⟨p, dx, fs, rfl, ex _ _ hB, B, [.rat t bt], ex, ⟨_, _, rfl, i1, rfl⟩, hp, fun d v B' H' pd s iv => q v B' H' d (hP d pd) s iv⟩
end
end K64
/-! Instances made by their __init__. -/
namespace K64
open PySem L2

def putD (f : Str) (d : Dat) : List (Str × Dat) → List (Str × Dat)
  | [] => [(f, d)]
  | (g, x) :: r => if g = f then (g, d) :: r else (g, x) :: putD f d r
theorem isf_put {A : Ad} {B : Hp} {f : Str} {d : Dat} {v : V} (h : Is A B d v) : ∀ {fs : List (Str × Dat)} {gs : List (Str × V)}, Isf A B fs gs → Isf A B (putD f d fs) (putF f v gs)
  | [], _, e => by cases e; exact ⟨v, [], rfl, h, rfl⟩
  | (g, x) :: r, _, ⟨u, s, h1, h2, h3⟩ => by
    subst h1
    unfold putD putF
    by_cases c : g = f
    · rw [if_pos c, if_pos c]; exact ⟨v, s, rfl, h, h3⟩
    · rw [if_neg c, if_neg c]; exact ⟨u, _, rfl, h2, isf_put h h3⟩
theorem isf_len {A : Ad} {B : Hp} : ∀ {fs : List (Str × Dat)} {gs : List (Str × V)}, Isf A B fs gs → fs.length = gs.length
  | [], _, e => by cases e; rfl
  | (_, _) :: _, _, ⟨_, _, h1, _, h3⟩ => by subst h1; exact congrArg (· + 1) (isf_len h3)
section
variable {A : Ad} {F : Fx} {Γ : Sls} {σ : L2.St} {B H : Hp}
/-- the instance under way is written -/
theorem Rel.putSelf (R : Rel A F Γ σ B H) {i : Nat} {C p dx : Addr} {fs fs' : List (Str × Dat)} {gs' : List (Str × V)} (h : Γ[i]? = some (some (.self C fs))) (hm : F.mp = some p) (hv : σ[i]? = some (some (.ref p))) (hf : Isf A B fs' gs')
    (ho : ∀ (j : Nat) (s : Sl), j ≠ i → Γ[j]? = some (some s) → ∃ d, s = .im d ∨ ∃ ds, s = .mu ds) : Rel A F (Γ.set i (some (.self C fs'))) σ B (upd H p (.ins C dx gs')) := by
  have hi : i < Γ.length := (List.getElem?_eq_some_iff.mp h).1
  refine ⟨R.st.put (.inr hm) (R.mB p hm).1, fun j s hs => ?_, fun j k d1 d2 n e1 e2 => ?_, by rw [List.length_set]; exact R.len⟩
  · by_cases c : i = j
    · subst c
      rw [List.getElem?_set_self hi] at hs
      cases hs
      exact ⟨_, hv, p, dx, gs', rfl, hm, upd_same, hf⟩
    · rw [List.getElem?_set_ne c] at hs
      obtain ⟨v, e, ok⟩ := R.sl j s hs
      refine ⟨v, e, ?_⟩
      obtain ⟨d, rfl | ⟨ds, rfl⟩⟩ := ho j s (Ne.symm c) hs
      · exact ok
      · obtain ⟨r, zs, f1, f2, f3, f4, f5, f6⟩ := ok
        have cr : r ≠ p := fun z => f3 (by rw [hm, z])
        exact ⟨r, zs, f1, f2, f3, f4, by rw [upd_ne cr]; exact f5, f6⟩
  · have c1 : i ≠ j := fun c => by subst c; rw [List.getElem?_set_self hi] at e1; cases e1
    have c2 : i ≠ k := fun c => by subst c; rw [List.getElem?_set_self hi] at e2; cases e2
    rw [List.getElem?_set_ne c1] at e1
    rw [List.getElem?_set_ne c2] at e2
    exact R.ap j k _ _ n e1 e2
end
section
variable {A : Ad} {X : Cx} {Γ : Sls} {rest : List Stmt} {a : AE} {e : Expr} {P : Dat → Prop} {pos : Pos}
/-- self.f = e, self in slot 0 -/
theorem sb_fld {C : Addr} {f x : Str} {pn po : Pos} {fs : List (Str × Dat)} (c : Cls X.K C) (n : NoAttr X.K C f) (he : Ev A X e Γ P) (k : ∀ d, P d → Sb A X rest (Γ.set 0 (some (.self C (putD f d fs)))) a) (hΓ : Γ[0]? = some (some (.self C fs)) := by rfl) (hl : fs.length < 1000 := by exact Nat.le_of_ble_eq_true rfl)
    (hsl : ∀ (j : Nat) (s : Sl), j ≠ 0 → Γ[j]? = some (some s) → ∃ d, s = .im d ∨ ∃ ds, s = .mu ds)
    (pe : PE X (.Name x pn) (tVar 0) := by exact pv 0) (hs : swapsWith e (some (.Attribute (.Name x pn) f po)) pos.line X.env = pure false := by rfl) : Sb A X (.Assign [.Attribute (.Name x pn) f po] e pos :: rest) Γ a :=
  sb_st (ps_fld pe pe_w hs) fun F D σ B H E R => he F σ B H R _ fun v B' H' d pd s R' iv => by
    obtain ⟨u, e1, p, dx, gs, rfl, hm, hp, hg⟩ := R'.sl 0 _ hΓ
    refine ⟨_, e1, p, C, dx, gs, rfl, hp, c, n, by rw [← isf_len hg]; exact hl, E.nx' (k d pd) (R'.putSelf hΓ hm e1 (isf_put iv hg) hsl)⟩
end
section
variable {P : Program} {w : World} {K : PySem.W.Frag} {mg : Str → Option Value} {base : Heap} {A : Ad}
/-- __init__: the instance is filled -/
def PuI (A : Ad) (C : Addr) (Pre : List Dat → Prop) (Post : List Dat → List (Str × Dat) → Prop) : Sp := fun vs H Q _ => ∃ B p dx us ds, vs = .ref p :: us ∧ Ex B H ∧ B p = none ∧ H p = some (.ins C dx []) ∧ Iss A B ds us ∧ Pre ds ∧
  ∀ fs gs dx' B' H', Post ds fs → Stp (some p) B H B' H' → H' p = some (.ins C dx' gs) → Isf A B' fs gs → Q .non H'
def slI (N : List Str) (C : Addr) (ds : List Dat) : Sls := some (.self C []) :: (ds.map (fun d => some (.im d)) ++ List.replicate (N.length - (ds.length + 1)) none)
theorem slI_at {N : List Str} {C : Addr} {ds : List Dat} {i : Nat} {s : Sl} (h : (slI N C ds)[i]? = some (some s)) : (i = 0 ∧ s = .self C []) ∨ ∃ j d, i = j + 1 ∧ ds[j]? = some d ∧ s = .im d := by
  cases i with
  | zero =>
    have q : some (some (Sl.self C [])) = some (some s) := h
    cases q
    exact .inl ⟨rfl, rfl⟩
  | succ i =>
    have hs' : (ds.map (fun d => some (Sl.im d)) ++ List.replicate (N.length - (ds.length + 1)) none)[i]? = some (some s) := h
    by_cases hi : i < ds.length
    · rw [List.getElem?_append_left (by rw [List.length_map]; exact hi), List.getElem?_map, List.getElem?_eq_getElem hi] at hs'
      cases hs'
      exact .inr ⟨i, ds[i], rfl, List.getElem?_eq_getElem hi, rfl⟩
    · rw [List.getElem?_append_right (by rw [List.length_map]; omega), List.getElem?_replicate] at hs'
      split at hs' <;> cases hs'
theorem relI {B H : Hp} {N : List Str} {C : Addr} {ds : List Dat} {us : List V} {p dx : Addr} (e : Ex B H) (hB : B p = none) (hp : H p = some (.ins C dx [])) (h : Iss A B ds us) (hl : ds.length + 1 ≤ N.length) : Rel A ⟨some p, B, H⟩ (slI N C ds) (L2.start N (.ref p :: us)) B H := by
  refine ⟨Stp.refl e fun q hq => by cases hq; exact ⟨hB, by show H p ≠ none; rw [hp]; exact fun z => nomatch z⟩, fun i s hs => ?_, fun i j x y n e1 e2 => ?_, ?_⟩
  · rcases slI_at hs with ⟨rfl, rfl⟩ | ⟨j, d, rfl, hd, rfl⟩
    · exact ⟨.ref p, start_at rfl, p, dx, [], rfl, rfl, hp, rfl⟩
    · obtain ⟨v, h2, h3⟩ := h.at hd
      exact ⟨v, start_at (vs := .ref p :: us) (i := j + 1) h2, h3⟩
  · rcases slI_at e1 with ⟨_, q⟩ | ⟨_, _, _, _, q⟩ <;> exact (nomatch q)
  · have := h.len
    unfold slI L2.start
    rw [List.length_cons, List.length_append, List.length_append, List.length_map, List.length_map, List.length_replicate, List.length_replicate, List.length_cons]
    omega
theorem fok_puI {x qual : Str} {st : Stmt} {f : Addr} {fd : FuncData} {N ps : List Str} {k : Nat} {C : Addr} {Pre : List Dat → Prop} {Post : List Dat → List (Str × Dat) → Prop} (F : Fun K x qual st f fd) (S : FnScope N ps (defScope st)) (hn : ps.length ≤ N.length) (len : ∀ ds, Pre ds → ds.length + 1 = ps.length)
    (body : ∀ (cdv : Value) (A' : Around) (outer : List Env) (s : Shared) (H : Hp) (ds : List Dat), Room k (A'.deeper (PyProof.Rows.envOfC qual (defScope st) s.heap.objs.size f cdv)) → Pre ds →
      Sb A (cxOf CX0 P w K mg base N qual (defScope st) f cdv A' outer s H E0).nox (defBody st) (slI N C ds) { nx := fun Γ => ∃ fs, Γ[0]? = some (some (.self C fs)) ∧ Post ds fs, rt := fun _ => False }) : FnOk P w K mg base CX0 (k + 1) f fd ps (PuI A C Pre Post) := by
  refine F.ok S (fun vs H Q E ⟨B, p, dx, us, ds, e, _, _, _, h, hp, _⟩ => by rw [e, List.length_cons, ← h.len]; exact len ds hp) fun cdv A' outer s H vs Q E hr ⟨B, p, dx, us, ds, e, hB, hBp, hpt, h, hp, q⟩ => ?_
  subst e
  have sb := body cdv A' outer s H ds hr hp ⟨some p, B, H⟩ { nx := fun _ H' => Q .non H', rt := Q } (L2.start N (.ref p :: us)) B H
    ⟨fun Γ σ B' H' ⟨fs, h1, h2⟩ R => by
      obtain ⟨v, _, p', dx', gs, _, hm, g1, g2⟩ := R.sl 0 _ h1
      cases hm
      exact q fs gs dx' B' H' h2 R.st g1 g2, fun _ _ _ _ z => z.elim, fun _ _ _ _ _ z => z.elim, fun _ _ _ _ z => z.elim, fun _ _ _ _ z => z.elim, fun _ _ z => z.elim⟩
    (relI hB hBp hpt h (by rw [len ds hp]; exact hn))
  obtain ⟨t, h1, h2⟩ := sb
  exact ⟨t, ⟨fun pins s' σ H' D I hw => h1.run pins s' σ H' D I hw⟩, h2⟩
/-- a class of the module, its __init__ with its promise; dvs: the defaults that fill up -/
structure CalC (P : Program) (w : World) (K : PySem.W.Frag) (mg : Str → Option Value) (base : Heap) (x : Str) (C : Addr) (k : Nat) (dvs : List Dat) (sp : Sp) : Prop where
  ex : ∃ (f : Addr) (fd : FuncData) (ps : List Str) (dv : List V) (dw : List Value), mg x = some (.ref C) ∧ Mk K C f ∧ Binds K fd ps dw ∧ Vals dv dw ∧ (∀ A B, Iss A B dvs dv) ∧ FnOk P w K mg base CX0 k f fd ps sp
end
section
variable {A : Ad} {X : Cx} {Γ : Sls} {P : Dat → Prop} {pos p : Pos} {x : Str} {e : Expr} {es : List Expr} {k j : Nat} {Pre : List Dat → Prop} {PA1 : List Dat → Prop} {C : Addr}
theorem ev_make {dvs : List Dat} {Post : List Dat → List (Str × Dat) → Prop} (M : CalC X.prog X.w X.K X.mg X.base x C k dvs (PuI A C Pre Post)) (hr : Room j X.A) (ha : EvA A X (e :: es) Γ PA1)
    (h : ∀ ds, PA1 ds → Pre (ds ++ dvs) ∧ ∀ fs, Post (ds ++ dvs) fs → ∃ d, P d ∧ ∀ B p dx gs, B p = some (.ins C dx gs) → Isf A B fs gs → Is A B d (.ref p)) (hk : k + 1 ≤ j := by decide) (hg : Gl X x := by rfl)
    (hdb : (x == ("__debug__" : Str)) = false := by decide) (he : starEach (e :: es) X.env = (false, eval e X.env) :: starEach es X.env := by rfl) (hpl : (backTo pos (starEach es X.env)).any (·.1) = false := by rfl) : Ev A X (.Call (.Name x p) (e :: es) [] pos) Γ P := by
  obtain ⟨f, fd, ps, dv, dw, hm, Mk, hb, hd, hdv, F⟩ := M.ex
  refine ev_k (pe_make Mk F (hr.mono hk) hg hm hb hd pass0 pa_w hdb he hpl) fun F σ B H R Q q => ha F σ B H R _ fun vs B1 H1 ds pd s1 R1 i1 p dx hp hdx hne => ?_
  obtain ⟨h1, h2⟩ := h ds pd
  have hBp : B1 p = none := R1.sub.back hp
  have hBd : B1 dx = none := R1.sub.back hdx
  refine ⟨B1, p, dx, vs ++ dv, ds ++ dvs, rfl, (R1.sub.mut hBd).mut hBp, hBp, upd_same, i1.append (hdv A B1), h1, fun fs gs dx' B' H' ps s hp' hf => ⟨rfl, ?_⟩⟩
  obtain ⟨d, pd', hIs⟩ := h2 fs ps
  have hB'p : B' p = none := (s.mB p rfl).1
  have s2 : Stp none B1 H1 (upd B' p (.ins C dx' gs)) H' := {
    ex := fun a o _ g => by
      have c1 : a ≠ p := ne_of_none g hp
      have c2 : a ≠ dx := ne_of_none g hdx
      exact s.ex a o (fun z => c1 (Option.some.inj z)) (by rw [upd_ne c1, upd_ne c2]; exact g)
    exB := s.exB.trans (Ex.new hB'p)
    sub := fun a o g => by
      by_cases c : a = p
      · subst c; rw [upd_same] at g; cases g; exact hp'
      · rw [upd_ne c] at g; exact s.sub a o g
    av := fun a g1 g2 => by
      have c1 : a ≠ p := fun z => g2 (by rw [z]; exact hp)
      have c2 : a ≠ dx := fun z => g2 (by rw [z]; exact hdx)
      rw [upd_ne c1]
      exact s.av a g1 (by rw [upd_ne c1, upd_ne c2]; exact g2)
    mB := fun _ z => nomatch z }
  exact q (.ref p) _ H' d pd' (s1.trans (s2.weak R1.mB)) (R1.step s2) (hIs _ p dx' gs upd_same (hf.mono (Ex.new hB'p)))
end
end K64
/-! Built-in functions and types, lists read and changed. -/
namespace K64
open PySem L2

/-! ### xs != [] -/
section
variable {A : Ad} {X : Cx} {Γ : Sls} {a b c e : Expr} {es : List Expr} {P P1 P2 : Dat → Prop} {pos p : Pos}
/-- the right one is an empty list -/
def rNil : R2 := fun x y H Q => ∃ (l m : Addr) (xs : List V), x = .ref l ∧ y = .ref m ∧ H l = some (.lst xs) ∧ H m = some (.lst []) ∧ Q (.bl (!xs.isEmpty)) H
theorem op_nil (hu : X.A.units < cLine) : OpR X (compareOp .NotEq) rNil := by
  intro pins s σ H x y v u Q I rx ry h
  obtain ⟨l, m, xs, rfl, rfl, h1, h2, q⟩ := h
  cases rx
  cases ry
  obtain ⟨its, r1, p1, _⟩ := I.list (SqL.of h1)
  obtain ⟨its2, r2, p2, _⟩ := I.list (SqL.of h2)
  cases r2
  cases r1 with
  | nil =>
    refine SeqAt.RcNeAt.lists (e := fun _ => true) p1.isList p2.isList rfl hu (fun j h1 _ => absurd h1 (by simp)) _ _ _ _ ?_
    exact ⟨.bl false, H, I, rfl, q⟩
  | cons r rr =>
    refine SeqAt.RcNeAt.lists_lengths p1.isList p2.isList (by simp) hu _ _ _ _ ?_
    exact ⟨.bl true, H, I, rfl, q⟩
theorem et_neNil {ds : List Dat} {j : Nat} {p' : Pos} (hr : Room j X.A) (ha : Ev A X a Γ (fun z => z = .lst ds)) : EvT A X (.Compare a [.NotEq] [.List [] p'] pos) Γ (fun z => z = !ds.isEmpty) := fun F σ B H R Q q =>
  ⟨_, pt_cmpR (op_nil hr.units0) pe_w pe_w (nomark _), ha F σ B H R _ fun x B1 H1 da p1 s1 R1 i1 => (en_lst ea_nil (fun ds h => by rw [h]; exact Nat.zero_le _)) F σ B1 H1 R1 _ fun m xs B2 H2 ds2 p2 s2 R2 g1 g2 g3 g4 => by
    subst p1 p2
    obtain ⟨l, ys, rfl, h1, j1⟩ := i1
    cases g4
    refine ⟨l, m, ys, rfl, rfl, R2.sub _ _ (s2.exB _ _ h1), g3, _, rfl, ?_⟩
    have e : ds.isEmpty = ys.isEmpty := by
      have := j1.len
      cases ds <;> cases ys <;> simp_all
    rw [← e]
    exact q _ B2 H2 rfl (s1.trans s2) R2⟩
/-- .. of a list of one's own -/
theorem et_neNilMu (i : Nat) {ds : List Dat} {j : Nat} {p' pn : Pos} {x : Str} (hr : Room j X.A) (hΓ : Γ[i]? = some (some (.mu ds)) := by rfl) (pe : PE X (.Name x pn) (tVar i) := by exact pv _) : EvT A X (.Compare (.Name x pn) [.NotEq] [.List [] p'] pos) Γ (fun z => z = !ds.isEmpty) := fun F σ B H R Q q => by
  obtain ⟨l, ys, e1, h0, hm, hB, hH, hI⟩ := R.mu hΓ
  refine ⟨_, pt_cmpR (op_nil hr.units0) pe pe_w (nomark _), _, e1, (en_lst ea_nil (fun ds h => by rw [h]; exact Nat.zero_le _)) F σ B H R _ fun m xs B2 H2 ds2 p2 s2 R2 g1 g2 g3 g4 => ?_⟩
  subst p2
  cases g4
  refine ⟨l, m, ys, rfl, rfl, s2.ex l _ (fun z => hm z.symm) hH, g3, _, rfl, ?_⟩
  have e : ds.isEmpty = ys.isEmpty := by
    have := hI.len
    cases ds <;> cases ys <;> simp_all
  rw [← e]
  exact q _ B2 H2 rfl s2 R2
/-- an item of a list of one's own -/
theorem ev_muAt (i : Nat) {ds : List Dat} {k : Int} {d : Dat} {pn : Pos} {x : Str} (hb : Ev A X b Γ (fun z => z = .int k)) (hd : atI ds k = some d) (hΓ : Γ[i]? = some (some (.mu ds)) := by rfl) (pe : PE X (.Name x pn) (tVar i) := by exact pv _) (hs : PlainIx b := by exact fun _ _ => rfl) :
    Ev A X (.Subscript (.Name x pn) b pos) Γ (fun z => z = d) := ev_k (pe_ix ix_list pe pe_w hs) fun F σ B H R Q q => by
  obtain ⟨l, xs, e1, h0, hm, hB, hH, hI⟩ := R.mu hΓ
  refine ⟨_, e1, hb F σ B H R _ fun y B1 H1 db p1 s1 R1 i1 => ?_⟩
  subst p1
  cases i1
  unfold atI at hd
  obtain ⟨n, hk, hd⟩ := Option.bind_eq_some_iff.mp hd
  obtain ⟨v, hv, iv⟩ := hI.at hd
  refine ⟨l, xs, k, v, rfl, rfl, SqL.of (s1.ex l _ (fun z => hm z.symm) hH), ?_, q v B1 H1 d rfl s1 R1 (iv.mono s1.exB)⟩
  unfold atI
  rw [← hI.len, hk]
  exact hv

/-! ### slices -/
def cutD (xs : List Dat) (lo hi : Option Int) : List Dat := (xs.drop (HT.sIx xs.length 0 lo)).take (HT.sIx xs.length xs.length hi - HT.sIx xs.length 0 lo)
theorem iss_cut {B : Hp} {ds : List Dat} {vs : List V} (h : Iss A B ds vs) (lo hi : Option Int) : Iss A B (cutD ds lo hi) (cutV vs lo hi) := by
  unfold cutD cutV
  rw [← h.len]
  exact (h.drop _).take _
def EvO (A : Ad) (X : Cx) (o : Option Expr) (Γ : Sls) (k : Option Int) : Prop :=
  ∃ t, PO X o t ∧ ∀ (F : Fx) (σ : L2.St) (B H : Hp), Rel A F Γ σ B H → ∀ Q : Option Int → Hp → Prop, (∀ B' H', Stp F.mp B H B' H' → Rel A F Γ σ B' H' → Q k H') → t σ H Q
theorem eo_none : EvO A X none Γ none := ⟨_, po_none, fun F σ B H R Q q => q B H (Stp.refl R.sub R.mB) R⟩
theorem eo_some {i : Int} (h : Ev A X a Γ (fun z => z = .int i)) : EvO A X (some a) Γ (some i) := ⟨_, po_some pe_w, fun F σ B H R Q q => h F σ B H R _ fun v B' H' d pd s R' iv => by
  subst pd; cases iv
  exact ⟨i, rfl, q B' H' s R'⟩⟩
theorem en_slice {lo hi : Option Expr} {l h : Option Int} {p2 : Pos} {ds : List Dat} (ha : Ev A X a Γ (fun z => z = .lst ds)) (hl : EvO A X lo Γ l) (hh : EvO A X hi Γ h) : EvN A X (.Subscript a (.Slice lo hi none p2) pos) Γ (fun z => z = cutD ds l h) := fun F σ B H R Q q => by
  obtain ⟨t1, po1, k1⟩ := hl
  obtain ⟨t2, po2, k2⟩ := hh
  refine ⟨_, pe_slice sl_list pe_w po1 po2, ha F σ B H R _ fun x B1 H1 d1 p1 s1 R1 i1 => k1 F σ B1 H1 R1 _ fun B2 H2 s2 R2 => k2 F σ B2 H2 R2 _ fun B3 H3 s3 R3 => ?_⟩
  subst p1
  obtain ⟨m, xs, rfl, h1, j1⟩ := i1
  have e : Ex B1 B3 := s2.exB.trans s3.exB
  exact ⟨m, xs, rfl, SqL.of (R3.sub _ _ (e _ _ h1)), new_lst (P := fun z => z = cutD ds l h) ((s1.trans s2).trans s3) R3 (iss_cut (j1.mono e) l h) rfl q⟩
theorem cut_to {ds : List Dat} {n : Nat} (h : n ≤ ds.length) : cutD ds none (some (n : Int)) = ds.take n := by
  unfold cutD
  have e1 : HT.sIx ds.length 0 none = 0 := rfl
  have e2 : HT.sIx ds.length ds.length (some (n : Int)) = n := by
    rw [HT.sIx_nat]
    omega
  rw [e1, e2]
  rfl
theorem cut_from {ds : List Dat} {n : Nat} (h : n ≤ ds.length) : cutD ds (some (n : Int)) none = ds.drop n := by
  unfold cutD
  have e1 : HT.sIx ds.length ds.length none = ds.length := rfl
  have e2 : HT.sIx ds.length 0 (some (n : Int)) = n := by
    rw [HT.sIx_nat]
    omega
  rw [e1, e2, List.take_of_length_le (by rw [List.length_drop]; omega)]
theorem cut_from0 {ds : List Dat} {n : Nat} (h : ds.length ≤ n) : cutD ds (some (n : Int)) none = [] := by
  unfold cutD
  have e2 : HT.sIx ds.length 0 (some (n : Int)) = ds.length := by
    rw [HT.sIx_nat]
    omega
  rw [e2, List.drop_length, List.take_nil]

/-! ### built-in functions -/
section
variable {x : Str} {id T : String} {r : List V → Hp → VK → Prop} {PA1 : List Dat → Prop}
theorem ev_bf (hc : CallR X (.builtin id) r) (hm : X.mg x = none) (ha : EvA A X (e :: es) Γ PA1) (hr : RAk A r PA1 P) (hv : bootBuiltins x = some (.builtin id) := by decide +kernel)
    (hg : Gl X x := by rfl) (hn : x ≠ "__name__" := by decide) (hdb : (x == ("__debug__" : Str)) = false := by decide) (he : starEach (e :: es) X.env = (false, eval e X.env) :: starEach es X.env := by rfl) (hpl : (backTo pos (starEach es X.env)).any (·.1) = false := by rfl) :
    Ev A X (.Call (.Name x p) (e :: es) [] pos) Γ P := ev_cb (pe_callB hc hg hm hv pa_w hn hdb he hpl) ha hr
theorem ev_bt (hc : CallR X (.type T) r) (hm : X.mg x = none) (ha : EvA A X (e :: es) Γ PA1) (hr : RAk A r PA1 P) (hv : bootBuiltins x = some (.type T) := by decide +kernel)
    (hg : Gl X x := by rfl) (hn : x ≠ "__name__" := by decide) (hdb : (x == ("__debug__" : Str)) = false := by decide) (he : starEach (e :: es) X.env = (false, eval e X.env) :: starEach es X.env := by rfl) (hpl : (backTo pos (starEach es X.env)).any (·.1) = false := by rfl) :
    Ev A X (.Call (.Name x p) (e :: es) [] pos) Γ P := ev_cb (pe_callTy hc hg hm hv pa_w hn hdb he hpl) ha hr
end
abbrev One (P : Dat → Prop) : List Dat → Prop := fun ds => ∃ d, ds = [d] ∧ P d
abbrev Two (P P' : Dat → Prop) : List Dat → Prop := fun ds => ∃ d d', ds = [d, d'] ∧ P d ∧ P' d'
/-- len -/
def lenD : Dat → Option Nat
  | .lst ds => some ds.length
  | .tup ds => some ds.length
  | _ => none
def rLenS (K : PySem.W.Frag) : List V → Hp → VK → Prop := fun xs H Q => ∃ p ys, xs = [.ref p] ∧ (SqL K H p ys ∨ SqT K H p ys) ∧ Q (.int ys.length) H
theorem rkk_len {K : PySem.W.Frag} {n : Nat} (h : ∀ d, P1 d → lenD d = some n) : RAk A (rLenS K) (One P1) (fun z => z = .int n) := fun xs ds B H hp hi ex Q q => by
  obtain ⟨d, rfl, pd⟩ := hp
  obtain ⟨v, rfl, iv⟩ := hi.one
  have := h d pd
  cases d with
  | lst es =>
    obtain ⟨a, ys, rfl, h1, j1⟩ := iv
    cases this
    refine ⟨a, ys, rfl, .inl (SqL.of (ex _ _ h1)), q _ B H _ rfl (Stp.refl0 ex) ?_⟩
    rw [← j1.len] <;> rfl
  | tup es =>
    obtain ⟨a, ys, rfl, h1, j1⟩ := iv
    cases this
    refine ⟨a, ys, rfl, .inr (SqT.of (ex _ _ h1)), q _ B H _ rfl (Stp.refl0 ex) ?_⟩
    rw [← j1.len] <;> rfl
  | _ => cases this
theorem ev_len {n : Nat} {pn : Pos} (hm : X.mg "len" = none) (ha : Ev A X a Γ P1) (h : ∀ d, P1 d → lenD d = some n) (hg : Gl X "len" := by rfl) (h1 : starEach [a] X.env = (false, eval a X.env) :: starEach [] X.env := by rfl) (hpl : (backTo pos (starEach [] X.env)).any (·.1) = false := by rfl) :
    Ev A X (.Call (.Name "len" pn) [a] [] pos) Γ (fun z => z = .int n) := ev_bf (r := rLenS X.K) call_len_seq hm (ea1 ha h1) (rkk_len h) (by decide +kernel) hg (by decide) (by decide) h1 hpl
/-- of a list of one's own -/
theorem ev_lenMu (i : Nat) {ds : List Dat} {pn py : Pos} {y : Str} (hm : X.mg "len" = none) (hΓ : Γ[i]? = some (some (.mu ds)) := by rfl) (pe : PE X (.Name y py) (tVar i) := by exact pv _) (hg : Gl X "len" := by rfl) (h1 : starEach [.Name y py] X.env = (false, eval (.Name y py) X.env) :: starEach [] X.env := by rfl) (hpl : (backTo pos (starEach [] X.env)).any (·.1) = false := by rfl) :
    Ev A X (.Call (.Name "len" pn) [.Name y py] [] pos) Γ (fun z => z = .int (ds.length : Nat)) := ev_k (pe_callB call_len_seq hg hm (by decide +kernel) (pa_cons pe pa_nil h1) (by decide) (by decide) h1 hpl) fun F σ B H R Q q => by
  obtain ⟨l, xs, e1, h0, hm, hB, hH, hI⟩ := R.mu hΓ
  refine ⟨_, e1, l, xs, rfl, .inl (SqL.of hH), ?_⟩
  rw [← hI.len]
  exact q _ B H _ rfl (Stp.refl R.sub R.mB) R rfl
/-- int(i), int(flag) -/
theorem ev_intI {i : Int} {pn : Pos} (hm : X.mg "int" = none) (ha : Ev A X a Γ (fun z => z = .int i)) (hg : Gl X "int" := by rfl) (h1 : starEach [a] X.env = (false, eval a X.env) :: starEach [] X.env := by rfl) (hpl : (backTo pos (starEach [] X.env)).any (·.1) = false := by rfl) :
    Ev A X (.Call (.Name "int" pn) [a] [] pos) Γ (fun z => z = .int i) := ev_bt call_int1 hm (ea1 ha h1) (fun xs ds B H hp hi ex Q q => by
  obtain ⟨d, rfl, rfl⟩ := hp
  obtain ⟨v, rfl, iv⟩ := hi.one
  cases iv
  exact .inl ⟨i, rfl, q _ B H _ rfl (Stp.refl0 ex) rfl⟩) (by decide +kernel) hg (by decide) (by decide) h1 hpl
theorem ev_intB {k : Bool} {pn : Pos} (hm : X.mg "int" = none) (ha : Ev A X a Γ (fun z => z = .bl k)) (hg : Gl X "int" := by rfl) (h1 : starEach [a] X.env = (false, eval a X.env) :: starEach [] X.env := by rfl) (hpl : (backTo pos (starEach [] X.env)).any (·.1) = false := by rfl) :
    Ev A X (.Call (.Name "int" pn) [a] [] pos) Γ (fun z => z = .int (if k then 1 else 0)) := ev_bt call_int1 hm (ea1 ha h1) (fun xs ds B H hp hi ex Q q => by
  obtain ⟨d, rfl, rfl⟩ := hp
  obtain ⟨v, rfl, iv⟩ := hi.one
  cases iv
  exact .inr ⟨k, rfl, q _ B H _ rfl (Stp.refl0 ex) rfl⟩) (by decide +kernel) hg (by decide) (by decide) h1 hpl
theorem ev_abs {i : Int} {pn : Pos} (hm : X.mg "abs" = none) (ha : Ev A X a Γ (fun z => z = .int i)) (hg : Gl X "abs" := by rfl) (h1 : starEach [a] X.env = (false, eval a X.env) :: starEach [] X.env := by rfl) (hpl : (backTo pos (starEach [] X.env)).any (·.1) = false := by rfl) :
    Ev A X (.Call (.Name "abs" pn) [a] [] pos) Γ (fun z => z = .int (if i < 0 then -i else i)) := ev_bf call_abs hm (ea1 ha h1) (fun xs ds B H hp hi ex Q q => by
  obtain ⟨d, rfl, rfl⟩ := hp
  obtain ⟨v, rfl, iv⟩ := hi.one
  cases iv
  exact ⟨i, rfl, q _ B H _ rfl (Stp.refl0 ex) rfl⟩) (by decide +kernel) hg (by decide) (by decide) h1 hpl
theorem ev_max {i j : Int} {pn : Pos} (hm : X.mg "max" = none) (ha : Ev A X a Γ (fun z => z = .int i)) (hb : Ev A X b Γ (fun z => z = .int j)) (hc : X.calm = true := by rfl) (hg : Gl X "max" := by rfl)
    (h1 : starEach [a, b] X.env = (false, eval a X.env) :: starEach [b] X.env := by rfl) (h2 : starEach [b] X.env = (false, eval b X.env) :: starEach [] X.env := by rfl) (hpl : (backTo pos (starEach [b] X.env)).any (·.1) = false := by rfl) :
    Ev A X (.Call (.Name "max" pn) [a, b] [] pos) Γ (fun z => z = .int (if j > i then j else i)) := ev_bf (call_max2 hc) hm (ea2 ha hb h1 h2) (fun xs ds B H hp hi ex Q q => by
  obtain ⟨d, d', rfl, rfl, rfl⟩ := hp
  obtain ⟨v, w, rfl, iv, iw⟩ := hi.two
  cases iv; cases iw
  exact ⟨i, j, rfl, q _ B H _ rfl (Stp.refl0 ex) rfl⟩) (by decide +kernel) hg (by decide) (by decide) h1 hpl
theorem cdivp_small {i j : Int} (h0 : 0 < j) (h1 : j < 1073741824) : CDivP i j := ⟨h0, PyProof.noPylong_small (by omega)⟩
theorem ev_divmod {i j : Int} {pn : Pos} (hm : X.mg "divmod" = none) (ha : Ev A X a Γ (fun z => z = .int i)) (hb : Ev A X b Γ (fun z => z = .int j)) (h0 : 0 < j) (h3 : j < 1073741824) (hg : Gl X "divmod" := by rfl)
    (h1 : starEach [a, b] X.env = (false, eval a X.env) :: starEach [b] X.env := by rfl) (h2 : starEach [b] X.env = (false, eval b X.env) :: starEach [] X.env := by rfl) (hpl : (backTo pos (starEach [b] X.env)).any (·.1) = false := by rfl) :
    Ev A X (.Call (.Name "divmod" pn) [a, b] [] pos) Γ (fun z => z = .tup [.int (i / j), .int (i % j)]) := ev_bf call_divmodW hm (ea2 ha hb h1 h2) (fun xs ds B H hp hi ex Q q => by
  obtain ⟨d, d', rfl, rfl, rfl⟩ := hp
  obtain ⟨v, w, rfl, iv, iw⟩ := hi.two
  cases iv; cases iw
  exact ⟨i, j, rfl, cdivp_small h0 h3, fun p hp => q _ _ _ _ rfl (Stp.new ex hp) ⟨p, _, rfl, upd_same, _, _, rfl, rfl, _, _, rfl, rfl, rfl⟩⟩) (by decide +kernel) hg (by decide) (by decide) h1 hpl
section
variable {bs : List Bool} {ns : List Int} {pn : Pos}
theorem ev_all (hm : X.mg "all" = none) (ha : Ev A X a Γ (fun z => z = .lst (bs.map Dat.bl))) (hc : X.calm = true := by rfl) (hg : Gl X "all" := by rfl) (h1 : starEach [a] X.env = (false, eval a X.env) :: starEach [] X.env := by rfl) (hpl : (backTo pos (starEach [] X.env)).any (·.1) = false := by rfl) :
    Ev A X (.Call (.Name "all" pn) [a] [] pos) Γ (fun z => z = .bl (bs.all id)) := ev_bf (cr_all hc) hm (ea1 ha h1) (fun xs ds B H hp hi ex Q q => by
  obtain ⟨d, rfl, rfl⟩ := hp
  obtain ⟨v, rfl, a, ys, rfl, h2, j2⟩ := hi.one
  have e := j2.bls
  subst e
  exact ⟨a, bs, rfl, SqL.of (ex _ _ h2), q _ B H _ rfl (Stp.refl0 ex) rfl⟩) (by decide +kernel) hg (by decide) (by decide) h1 hpl
theorem ev_any (hm : X.mg "any" = none) (ha : Ev A X a Γ (fun z => z = .lst (bs.map Dat.bl))) (hc : X.calm = true := by rfl) (hg : Gl X "any" := by rfl) (h1 : starEach [a] X.env = (false, eval a X.env) :: starEach [] X.env := by rfl) (hpl : (backTo pos (starEach [] X.env)).any (·.1) = false := by rfl) :
    Ev A X (.Call (.Name "any" pn) [a] [] pos) Γ (fun z => z = .bl (bs.any id)) := ev_bf (cr_any hc) hm (ea1 ha h1) (fun xs ds B H hp hi ex Q q => by
  obtain ⟨d, rfl, rfl⟩ := hp
  obtain ⟨v, rfl, a, ys, rfl, h2, j2⟩ := hi.one
  have e := j2.bls
  subst e
  exact ⟨a, bs, rfl, SqL.of (ex _ _ h2), q _ B H _ rfl (Stp.refl0 ex) rfl⟩) (by decide +kernel) hg (by decide) (by decide) h1 hpl
theorem ev_sum (hm : X.mg "sum" = none) (ha : Ev A X a Γ (fun z => z = .lst (ns.map Dat.int))) (hc : X.calm = true := by rfl) (hg : Gl X "sum" := by rfl) (h1 : starEach [a] X.env = (false, eval a X.env) :: starEach [] X.env := by rfl) (hpl : (backTo pos (starEach [] X.env)).any (·.1) = false := by rfl) :
    Ev A X (.Call (.Name "sum" pn) [a] [] pos) Γ (fun z => z = .int ns.sum) := ev_bf (cr_sum hc) hm (ea1 ha h1) (fun xs ds B H hp hi ex Q q => by
  obtain ⟨d, rfl, rfl⟩ := hp
  obtain ⟨v, rfl, a, ys, rfl, h2, j2⟩ := hi.one
  have e := j2.ints
  subst e
  exact ⟨a, ns, rfl, SqL.of (ex _ _ h2), q _ B H _ rfl (Stp.refl0 ex) rfl⟩) (by decide +kernel) hg (by decide) (by decide) h1 hpl
end
/-- the items of a list, a tuple -/
def itemsD : Dat → Option (List Dat)
  | .lst ds => some ds
  | .tup ds => some ds
  | _ => none
/-- list(x) -/
theorem en_list {ds : List Dat} {d : Dat} {pn : Pos} (hm : X.mg "list" = none) (ha : Ev A X a Γ (fun z => z = d)) (hd : itemsD d = some ds) (hg : Gl X "list" := by rfl) (h1 : starEach [a] X.env = (false, eval a X.env) :: starEach [] X.env := by rfl) (hpl : (backTo pos (starEach [] X.env)).any (·.1) = false := by rfl) :
    EvN A X (.Call (.Name "list" pn) [a] [] pos) Γ (fun z => z = ds) := fun F σ B H R Q q => ⟨_, pe_callTy call_list_of hg hm (by decide +kernel) pa_w (by decide) (by decide) h1 hpl, ea1 ha h1 F σ B H R _ fun vs B1 H1 es pe s1 R1 i1 => by
  obtain ⟨d', rfl, rfl⟩ := pe
  obtain ⟨v, rfl, iv⟩ := i1.one
  cases d' with
  | lst es =>
    cases hd
    obtain ⟨l, xs, rfl, h2, j2⟩ := iv
    exact ⟨l, xs, rfl, .inl (SqL.of (R1.sub _ _ h2)), new_lst (P := fun z => z = ds) s1 R1 j2 rfl q⟩
  | tup es =>
    cases hd
    obtain ⟨l, xs, rfl, h2, j2⟩ := iv
    exact ⟨l, xs, rfl, .inr (SqT.of (R1.sub _ _ h2)), new_lst (P := fun z => z = ds) s1 R1 j2 rfl q⟩
  | _ => cases hd⟩
/-- tuple(x) -/
theorem ev_tuple {ds : List Dat} {d : Dat} {pn : Pos} (hm : X.mg "tuple" = none) (ha : Ev A X a Γ (fun z => z = d)) (hd : itemsD d = some ds) (hg : Gl X "tuple" := by rfl) (h1 : starEach [a] X.env = (false, eval a X.env) :: starEach [] X.env := by rfl) (hpl : (backTo pos (starEach [] X.env)).any (·.1) = false := by rfl) :
    Ev A X (.Call (.Name "tuple" pn) [a] [] pos) Γ (fun z => z = .tup ds) := ev_bt call_tuple_of hm (ea1 ha h1) (fun xs es B H hp hi ex Q q => by
  obtain ⟨d', rfl, rfl⟩ := hp
  obtain ⟨v, rfl, iv⟩ := hi.one
  cases d' with
  | lst es =>
    cases hd
    obtain ⟨l, xs, rfl, h2, j2⟩ := iv
    exact ⟨l, xs, rfl, .inl ⟨SqL.of (ex _ _ h2), fun p hp => q _ _ _ _ rfl (Stp.new ex hp) ⟨p, xs, rfl, upd_same, j2.mono (Ex.new (ex.back hp))⟩⟩⟩
  | tup es =>
    cases hd
    obtain ⟨l, xs, rfl, h2, j2⟩ := iv
    exact ⟨l, xs, rfl, .inr ⟨SqT.of (ex _ _ h2), q _ B H _ rfl (Stp.refl0 ex) ⟨l, xs, rfl, h2, j2⟩⟩⟩
  | _ => cases hd) (by decide +kernel) hg (by decide) (by decide) h1 hpl
/-- gcd -/
theorem ev_gcd {i j : Int} {pn : Pos} (hm : X.mg "gcd" = some (.builtin "math.gcd")) (ha : Ev A X a Γ (fun z => z = .int i)) (hb : Ev A X b Γ (fun z => z = .int j)) (hg : Gl X "gcd" := by rfl)
    (h1 : starEach [a, b] X.env = (false, eval a X.env) :: starEach [b] X.env := by rfl) (h2 : starEach [b] X.env = (false, eval b X.env) :: starEach [] X.env := by rfl) (hpl : (backTo pos (starEach [b] X.env)).any (·.1) = false := by rfl) :
    Ev A X (.Call (.Name "gcd" pn) [a, b] [] pos) Γ (fun z => z = .int ((Nat.gcd i.natAbs j.natAbs : Nat) : Int)) := ev_cb (pe_callBfun cr_gcd hg hm pa_w (by decide) h1 hpl) (ea2 ha hb h1 h2) (fun xs ds B H hp hi ex Q q => by
  obtain ⟨d, d', rfl, rfl, rfl⟩ := hp
  obtain ⟨v, w, rfl, iv, iw⟩ := hi.two
  cases iv; cases iw
  exact ⟨i, j, rfl, q _ B H _ rfl (Stp.refl0 ex) rfl⟩)
/-- lcm of numbers below 2 ^ 64 -/
def rLcm : List V → Hp → VK → Prop := fun vs H Q => ∃ a b : Int, vs = [.int a, .int b] ∧ a.natAbs < 2 ^ 64 ∧ b.natAbs < 2 ^ 64 ∧ Q (.int ((Nat.lcm a.natAbs b.natAbs : Nat) : Int)) H
theorem lcm_small {a b : Nat} (ha : a < 2 ^ 64) (hb : b < 2 ^ 64) : (((Nat.lcm a b : Nat) : Int)).natAbs.log2 < bitsLine := by
  have h1 : Nat.lcm a b ≤ a * b := PySem.W.mc_lcm_le a b
  have h2 : a * b < 2 ^ 128 := by
    have e : (2 : Nat) ^ 128 = 2 ^ 64 * 2 ^ 64 := by decide
    rw [e]
    exact Nat.mul_lt_mul'' ha hb
  have h3 : Nat.lcm a b < 2 ^ 128 := Nat.lt_of_le_of_lt h1 h2
  rw [Int.natAbs_natCast]
  have h4 : (Nat.lcm a b).log2 ≤ 127 := PySem.W.mg_log (k := 127) h3
  exact Nat.lt_of_le_of_lt h4 (by decide)
theorem cr_lcm : CallR X (.builtin "math.lcm") rLcm := by
  intro pins s σ H vs us Q I r h
  obtain ⟨a, b, rfl, ha, hb, q⟩ := h
  obtain ⟨t, u, rfl⟩ := Vals.int2 r
  refine PySem.W.mg_lcm ha hb ?_ ?_
  · rw [PySem.W.mc_lcm_one]
    exact lcm_small ha hb
  · rw [PySem.W.mc_lcm_one]
    exact ⟨.int _, H, I.tok _, ⟨_, rfl⟩, q⟩
theorem ev_lcm {i j : Int} {pn : Pos} (hm : X.mg "lcm" = some (.builtin "math.lcm")) (ha : Ev A X a Γ (fun z => z = .int i)) (hb : Ev A X b Γ (fun z => z = .int j)) (hi : i.natAbs < 2 ^ 64) (hj : j.natAbs < 2 ^ 64) (hg : Gl X "lcm" := by rfl)
    (h1 : starEach [a, b] X.env = (false, eval a X.env) :: starEach [b] X.env := by rfl) (h2 : starEach [b] X.env = (false, eval b X.env) :: starEach [] X.env := by rfl) (hpl : (backTo pos (starEach [b] X.env)).any (·.1) = false := by rfl) :
    Ev A X (.Call (.Name "lcm" pn) [a, b] [] pos) Γ (fun z => z = .int ((Nat.lcm i.natAbs j.natAbs : Nat) : Int)) := ev_cb (pe_callBfun cr_lcm hg hm pa_w (by decide) h1 hpl) (ea2 ha hb h1 h2) (fun xs ds B H hp hi' ex Q q => by
  obtain ⟨d, d', rfl, rfl, rfl⟩ := hp
  obtain ⟨v, w, rfl, iv, iw⟩ := hi'.two
  cases iv; cases iw
  exact ⟨i, j, rfl, hi, hj, q _ B H _ rfl (Stp.refl0 ex) rfl⟩)
/-- place in lot, ints -/
theorem inV_ints {i : Int} : ∀ ns : List Int, inV (.int i) (ns.map V.int) = decide (i ∈ ns)
  | [] => by simp [inV]
  | n :: ns => by
    have ih := inV_ints (i := i) ns
    unfold inV at ih ⊢
    rw [List.map_cons, List.any_cons, ih]
    by_cases e : n = i
    · subst e
      simp [eqV]
    · have : eqV (.int n) (.int i) = false := by simp [eqV, e]
      rw [this, Bool.false_or]
      simp only [List.mem_cons, decide_eq_decide]
      constructor
      · exact fun h => .inr h
      · exact fun h => h.resolve_left fun z => e z.symm
theorem ev_inL {i : Int} {ns : List Int} (ha : Ev A X a Γ (fun z => z = .int i)) (hb : Ev A X b Γ (fun z => z = .lst (ns.map Dat.int))) (hm : behindInMarks .In b = false := by rfl) : Ev A X (.Compare a [.In] [b] pos) Γ (fun z => z = .bl (decide (i ∈ ns))) :=
  ev_cmp op_in_seq ha hb (fun x y da db B H e1 e2 i1 i2 ex Q q => by
    subst e1 e2; cases i1
    obtain ⟨l, ys, rfl, h2, j2⟩ := i2
    have e := j2.ints
    subst e
    refine ⟨l, _, rfl, .inl (SqL.of (ex _ _ h2)), rfl, ?_, q _ B H _ rfl (Stp.refl0 ex) ?_⟩
    · rw [List.all_map]
      exact List.all_eq_true.mpr fun _ _ => rfl
    · show V.bl _ = V.bl _
      rw [if_neg Bool.false_ne_true, inV_ints]) hm
end
end K64
/-! isinstance, extend, pop, f-strings. -/
namespace K64
open PySem L2

/-! ### isinstance -/
/-- what the written part tells of an own class, for the type of its instances -/
structure TyC (K : PySem.W.Frag) (C : Addr) : Prop where
  cl : Cls K C
  ha : PySem.W.findIn K (.ref C) "__class__" = some (some (.builtin "object.__class__"))
  hn : PySem.W.specialIn K (.builtin "object.__class__") "__get__" = some (some (.builtin "getset_descriptor.__get__"))
  ht : PySem.W.takesIn K (.builtin "object.__class__") = some true
  hm : PySem.W.mroIn K C (.type "object") = some true
def tyD (A : Ad) : Dat → Value
  | .non => .type "NoneType"
  | .bl _ => .type "bool"
  | .int _ => .type "int"
  | .str _ => .type "str"
  | .dic => .type "dict"
  | .lst _ => .type "list"
  | .tup _ => .type "tuple"
  | .rat _ _ => .ref A.R
  | .prs _ _ _ => .ref A.P
theorem is_ty {K : PySem.W.Frag} {A : Ad} {B H : Hp} {v : V} (cR : TyC K A.R) (cP : TyC K A.P) (e : Ex B H) : ∀ {d : Dat}, Is A B d v → TyX K H v (tyD A d)
  | .non, h => by cases h; exact .base .non
  | .bl b, h => by cases h; exact .base (.bl b)
  | .int i, h => by cases h; exact .base (.int i)
  | .str i, h => by cases h; exact .base (.str i)
  | .dic, ⟨a, h1, h2⟩ => by cases h1; exact .base (.dK (e _ _ h2))
  | .lst _, ⟨a, xs, h1, h2, _⟩ => by cases h1; exact .base (.lst (e _ _ h2))
  | .tup _, ⟨a, xs, h1, h2, _⟩ => by cases h1; exact .base (.tup (e _ _ h2))
  | .rat _ _, ⟨a, dx, h1, h2⟩ => by cases h1; exact .base (.ins (e _ _ h2) cR.cl cR.ha cR.hn cR.ht cR.hm)
  | .prs _ _ _, ⟨a, dx, _, _, _, h1, h2, _⟩ => by cases h1; exact .base (.ins (e _ _ h2) cP.cl cP.ha cP.hn cP.ht cP.hm)
section
variable {A : Ad} {X : Cx} {Γ : Sls} {a b e : Expr} {es : List Expr} {P P1 P2 : Dat → Prop} {pos p : Pos}
/-- isinstance(x, T), T a built-in type -/
theorem ev_isT {d : Dat} {T : String} {x : Str} {k : Bool} {pn pt : Pos} (cR : TyC X.K A.R) (cP : TyC X.K A.P) (hm : X.mg "isinstance" = none) (ha : Ev A X a Γ (fun z => z = d)) (hT : X.mg x = none) (hk : PySem.W.kitOne X.K (tyD A d) (.type T) = some k)
    (hv : bootBuiltins x = some (.type T) := by decide +kernel) (hg : Gl X "isinstance" := by rfl) (hgT : Gl X x := by rfl) (hn : x ≠ "__name__" := by decide) (hd : (x == ("__debug__" : Str)) = false := by decide)
    (h1 : starEach [a, .Name x pt] X.env = (false, eval a X.env) :: starEach [.Name x pt] X.env := by rfl) (h2 : starEach [.Name x pt] X.env = (false, eval (.Name x pt) X.env) :: starEach [] X.env := by rfl) (hpl : (backTo pos (starEach [.Name x pt] X.env)).any (·.1) = false := by rfl) :
    Ev A X (.Call (.Name "isinstance" pn) [a, .Name x pt] [] pos) Γ (fun z => z = .bl k) :=
  ev_k (pe_callB call_isi hg hm (by decide +kernel) (pa_cons pe_w (pa_cons (pe_bltn (v := .ty T) hgT hT hv rfl hn hd) pa_nil h2) h1) (by decide) (by decide) h1 hpl) fun F σ B H R Q q => ha F σ B H R _ fun v B1 H1 d' pd s R1 iv => by
    subst pd
    exact ⟨v, .ty T, _, _, k, rfl, .ty T, is_ty cR cP R1.sub iv, hk, q _ B1 H1 _ rfl s R1 rfl⟩
/-- isinstance(x, C), C an own class -/
theorem ev_isC {d : Dat} {C : Addr} {x : Str} {k : Bool} {pn pt : Pos} (cR : TyC X.K A.R) (cP : TyC X.K A.P) (hm : X.mg "isinstance" = none) (ha : Ev A X a Γ (fun z => z = d)) (hT : X.mg x = some (.ref C)) (hk : PySem.W.kitOne X.K (tyD A d) (.ref C) = some k)
    (hg : Gl X "isinstance" := by rfl) (hgT : Gl X x := by rfl) (hd : (x == ("__debug__" : Str)) = false := by decide)
    (h1 : starEach [a, .Name x pt] X.env = (false, eval a X.env) :: starEach [.Name x pt] X.env := by rfl) (h2 : starEach [.Name x pt] X.env = (false, eval (.Name x pt) X.env) :: starEach [] X.env := by rfl) (hpl : (backTo pos (starEach [.Name x pt] X.env)).any (·.1) = false := by rfl) :
    Ev A X (.Call (.Name "isinstance" pn) [a, .Name x pt] [] pos) Γ (fun z => z = .bl k) :=
  ev_k (pe_callB call_isi hg hm (by decide +kernel) (pa_cons pe_w (pa_cons (pe_glob (v := .ref C) hgT hT rfl hd) pa_nil h2) h1) (by decide) (by decide) h1 hpl) fun F σ B H R Q q => ha F σ B H R _ fun v B1 H1 d' pd s R1 iv => by
    subst pd
    exact ⟨v, .ref C, _, _, k, rfl, .own C, is_ty cR cP R1.sub iv, hk, q _ B1 H1 _ rfl s R1 rfl⟩
/-- isinstance(x, (T, U)) -/
theorem ev_isTT {d : Dat} {T U : String} {x y : Str} {k : Bool} {pn pt pu ptt : Pos} {kk} (cR : TyC X.K A.R) (cP : TyC X.K A.P) (hm : X.mg "isinstance" = none) (ha : Ev A X a Γ (fun z => z = d)) (hT : X.mg x = none) (hU : X.mg y = none) (hk : PySem.W.kitAny X.K (tyD A d) [.type T, .type U] = some k)
    (hv : bootBuiltins x = some (.type T) := by decide +kernel) (hv2 : bootBuiltins y = some (.type U) := by decide +kernel) (hg : Gl X "isinstance" := by rfl) (hgT : Gl X x := by rfl) (hgU : Gl X y := by rfl) (hn : x ≠ "__name__" := by decide) (hn2 : y ≠ "__name__" := by decide) (hd : (x == ("__debug__" : Str)) = false := by decide) (hd2 : (y == ("__debug__" : Str)) = false := by decide)
    (h1 : starEach [a, .Tuple [.Name x pt, .Name y pu] kk ptt] X.env = (false, eval a X.env) :: starEach [.Tuple [.Name x pt, .Name y pu] kk ptt] X.env := by rfl) (h2 : starEach [.Tuple [.Name x pt, .Name y pu] kk ptt] X.env = (false, eval (.Tuple [.Name x pt, .Name y pu] kk ptt) X.env) :: starEach [] X.env := by rfl)
    (h3 : starEach [.Name x pt, .Name y pu] X.env = (false, eval (.Name x pt) X.env) :: starEach [.Name y pu] X.env := by rfl) (h4 : starEach [.Name y pu] X.env = (false, eval (.Name y pu) X.env) :: starEach [] X.env := by rfl)
    (hpl : (backTo pos (starEach [.Tuple [.Name x pt, .Name y pu] kk ptt] X.env)).any (·.1) = false := by rfl) :
    Ev A X (.Call (.Name "isinstance" pn) [a, .Tuple [.Name x pt, .Name y pu] kk ptt] [] pos) Γ (fun z => z = .bl k) :=
  ev_k (pe_callB call_isiT hg hm (by decide +kernel) (pa_cons pe_w (pa_cons (pe_tup (pa_cons (pe_bltn (v := .ty T) hgT hT hv rfl hn hd) (pa_cons (pe_bltn (v := .ty U) hgU hU hv2 rfl hn2 hd2) pa_nil h4) h3)) pa_nil h2) h1) (by decide) (by decide) h1 hpl) fun F σ B H R Q q => ha F σ B H R _ fun v B1 H1 d' pd s R1 iv => by
    subst pd
    refine ⟨by show 2 ≤ sizeLine; decide, fun tp htp => ?_⟩
    have s2 := Stp.own (o := .tup [.ty T, .ty U]) R1.sub htp
    have R2 := R1.step s2
    exact ⟨v, tp, [.ty T, .ty U], _, [.type T, .type U], k, rfl, upd_same, .cons (.ty T) (.cons (.ty U) .nil), is_ty cR cP R2.sub iv, hk, q _ B1 _ _ rfl (s.trans (s2.weak R1.mB)) R2 rfl⟩
end

section
variable {A : Ad} {X : Cx} {Γ : Sls} {a : Expr} {pos : Pos}
theorem ev_isInt (d : Dat) (k : Bool) {pn pt : Pos} (cR : TyC X.K A.R) (cP : TyC X.K A.P) (hm : X.mg "isinstance" = none) (ha : Ev A X a Γ (fun z => z = d)) (hT : X.mg "int" = none) (hk : PySem.W.kitOne X.K (tyD A d) (.type "int") = some k) (hg : Gl X "isinstance" := by rfl) (hgT : Gl X "int" := by rfl)
    (h1 : starEach [a, .Name "int" pt] X.env = (false, eval a X.env) :: starEach [.Name "int" pt] X.env := by rfl) (h2 : starEach [.Name "int" pt] X.env = (false, eval (.Name "int" pt) X.env) :: starEach [] X.env := by rfl) (hpl : (backTo pos (starEach [.Name "int" pt] X.env)).any (·.1) = false := by rfl) :
    Ev A X (.Call (.Name "isinstance" pn) [a, .Name "int" pt] [] pos) Γ (fun z => z = .bl k) := ev_isT (T := "int") cR cP hm ha hT hk (by decide +kernel) hg hgT (by decide) (by decide) h1 h2 hpl
theorem ev_isBool (d : Dat) (k : Bool) {pn pt : Pos} (cR : TyC X.K A.R) (cP : TyC X.K A.P) (hm : X.mg "isinstance" = none) (ha : Ev A X a Γ (fun z => z = d)) (hT : X.mg "bool" = none) (hk : PySem.W.kitOne X.K (tyD A d) (.type "bool") = some k) (hg : Gl X "isinstance" := by rfl) (hgT : Gl X "bool" := by rfl)
    (h1 : starEach [a, .Name "bool" pt] X.env = (false, eval a X.env) :: starEach [.Name "bool" pt] X.env := by rfl) (h2 : starEach [.Name "bool" pt] X.env = (false, eval (.Name "bool" pt) X.env) :: starEach [] X.env := by rfl) (hpl : (backTo pos (starEach [.Name "bool" pt] X.env)).any (·.1) = false := by rfl) :
    Ev A X (.Call (.Name "isinstance" pn) [a, .Name "bool" pt] [] pos) Γ (fun z => z = .bl k) := ev_isT (T := "bool") cR cP hm ha hT hk (by decide +kernel) hg hgT (by decide) (by decide) h1 h2 hpl
theorem ev_isLst (d : Dat) (k : Bool) {pn pt : Pos} (cR : TyC X.K A.R) (cP : TyC X.K A.P) (hm : X.mg "isinstance" = none) (ha : Ev A X a Γ (fun z => z = d)) (hT : X.mg "list" = none) (hk : PySem.W.kitOne X.K (tyD A d) (.type "list") = some k) (hg : Gl X "isinstance" := by rfl) (hgT : Gl X "list" := by rfl)
    (h1 : starEach [a, .Name "list" pt] X.env = (false, eval a X.env) :: starEach [.Name "list" pt] X.env := by rfl) (h2 : starEach [.Name "list" pt] X.env = (false, eval (.Name "list" pt) X.env) :: starEach [] X.env := by rfl) (hpl : (backTo pos (starEach [.Name "list" pt] X.env)).any (·.1) = false := by rfl) :
    Ev A X (.Call (.Name "isinstance" pn) [a, .Name "list" pt] [] pos) Γ (fun z => z = .bl k) := ev_isT (T := "list") cR cP hm ha hT hk (by decide +kernel) hg hgT (by decide) (by decide) h1 h2 hpl
theorem ev_isLT (d : Dat) (k : Bool) {pn pt pu ptt : Pos} {kk} (cR : TyC X.K A.R) (cP : TyC X.K A.P) (hm : X.mg "isinstance" = none) (ha : Ev A X a Γ (fun z => z = d)) (hT : X.mg "list" = none) (hU : X.mg "tuple" = none) (hk : PySem.W.kitAny X.K (tyD A d) [.type "list", .type "tuple"] = some k) (hg : Gl X "isinstance" := by rfl) (hgT : Gl X "list" := by rfl) (hgU : Gl X "tuple" := by rfl)
    (h1 : starEach [a, .Tuple [.Name "list" pt, .Name "tuple" pu] kk ptt] X.env = (false, eval a X.env) :: starEach [.Tuple [.Name "list" pt, .Name "tuple" pu] kk ptt] X.env := by rfl) (h2 : starEach [.Tuple [.Name "list" pt, .Name "tuple" pu] kk ptt] X.env = (false, eval (.Tuple [.Name "list" pt, .Name "tuple" pu] kk ptt) X.env) :: starEach [] X.env := by rfl)
    (h3 : starEach [.Name "list" pt, .Name "tuple" pu] X.env = (false, eval (.Name "list" pt) X.env) :: starEach [.Name "tuple" pu] X.env := by rfl) (h4 : starEach [.Name "tuple" pu] X.env = (false, eval (.Name "tuple" pu) X.env) :: starEach [] X.env := by rfl)
    (hpl : (backTo pos (starEach [.Tuple [.Name "list" pt, .Name "tuple" pu] kk ptt] X.env)).any (·.1) = false := by rfl) :
    Ev A X (.Call (.Name "isinstance" pn) [a, .Tuple [.Name "list" pt, .Name "tuple" pu] kk ptt] [] pos) Γ (fun z => z = .bl k) := ev_isTT (T := "list") (U := "tuple") cR cP hm ha hT hU hk (by decide +kernel) (by decide +kernel) hg hgT hgU (by decide) (by decide) (by decide) (by decide) h1 h2 h3 h4 hpl
end
theorem kit_lt {K : PySem.W.Frag} {T : String} {k l : Bool} (h1 : kitB T "list" = some k) (h2 : kitB T "tuple" = some l) : PySem.W.kitAny K (.type T) [.type "list", .type "tuple"] = some (k || l) := by
  refine kitAny_cons (kit_ty h1) (fun h => ?_) (fun h => by rw [h]; rfl)
  rw [h, Bool.false_or]
  refine kitAny_cons (kit_ty h2) (fun h => ?_) (fun h => h)
  rw [h]
  rfl

/-! ### f-strings -/
section
variable {A : Ad} {X : Cx} {Γ : Sls} {e : Expr} {pos : Pos}
inductive EvJ (A : Ad) (X : Cx) (Γ : Sls) : List Expr → List Str → Prop
  | nil : EvJ A X Γ [] []
  | cons {e : Expr} {s : Str} {es : List Expr} {ss : List Str} (h : Ev A X e Γ (fun z => z = .str s)) (r : EvJ A X Γ es ss) : EvJ A X Γ (e :: es) (s :: ss)
def joinD (acc : Str) : List Str → Str
  | [] => acc
  | s :: ss => joinD (acc ++ s) ss
def lens (ss : List Str) : Nat := (ss.map fun s => s.length).sum
theorem ev_fmtS {s : Str} (h : Ev A X e Γ (fun z => z = .str s)) (hl : s.length ≤ sizeLine) : Ev A X (.FormattedValue e (-1) none pos) Γ (fun z => z = .str s) := ev_k (pe_fmt pe_w) fun F σ B H R Q q => h F σ B H R _ fun v B' H' d pd st R' iv => by
  subst pd; cases iv
  exact .inl ⟨s, rfl, hl, q _ B' H' _ rfl st R' rfl⟩
theorem ev_fmtI {i : Int} (h : Ev A X e Γ (fun z => z = .int i)) (hl : i.natAbs.log2 < 1920) : Ev A X (.FormattedValue e (-1) none pos) Γ (fun z => z = .str (toString i)) := ev_k (pe_fmt pe_w) fun F σ B H R Q q => h F σ B H R _ fun v B' H' d pd st R' iv => by
  subst pd; cases iv
  exact .inr ⟨i, rfl, hl, q _ B' H' _ rfl st R' rfl⟩
theorem tJs_run {es : List Expr} {ss : List Str} (h : EvJ A X Γ es ss) : ∀ (acc : Str), acc.length + lens ss ≤ sizeLine → ∀ (F : Fx) (σ : L2.St) (B H : Hp), Rel A F Γ σ B H → ∀ Q : Str → Hp → Prop, (∀ B' H', Stp F.mp B H B' H' → Rel A F Γ σ B' H' → Q (joinD acc ss) H') → tJs (es.map (wE X)) acc σ H Q := by
  induction h with
  | nil => exact fun acc _ F σ B H R Q q => q B H (Stp.refl R.sub R.mB) R
  | @cons e s es ss h r ih =>
    intro acc hl F σ B H R Q q
    have hl' : acc.length + (s.length + lens ss) ≤ sizeLine := hl
    refine h F σ B H R _ fun v B1 H1 d pd s1 R1 iv => ?_
    subst pd; cases iv
    have e1 : (acc ++ s).length = acc.length + s.length := PySem.strLen_append _ _
    exact ⟨s, rfl, by rw [e1]; omega, ih (acc ++ s) (by rw [e1]; omega) F σ B1 H1 R1 Q fun B' H' s2 R' => q B' H' (s1.trans s2) R'⟩
theorem pj_w : ∀ es : List Expr, PJ X es (es.map (wE X))
  | [] => .nil
  | _ :: es => .cons pe_w (pj_w es)
theorem ev_join {v1 v2 : Expr} {rest : List Expr} {ss : List Str} (h : EvJ A X Γ (v1 :: v2 :: rest) ss) (hl : lens ss ≤ sizeLine) : Ev A X (.JoinedStr (v1 :: v2 :: rest) pos) Γ (fun z => z = .str (joinD Str.empty ss)) :=
  ev_k (pe_joined (pj_w _)) fun F σ B H R Q q => tJs_run h Str.empty (by show 0 + _ ≤ _; omega) F σ B H R _ fun B' H' st R' => q _ B' H' _ rfl st R' rfl
end

/-! ### xs.extend(t), t a tuple -/
theorem ext_tup (l : Addr) (xs : Array Value) (n : Nat) (b : Addr) (ys : Array Value) (m : Nat) (dd : Option Addr) (sl : Array (Option Value)) (h0 : ¬ (!xs.isEmpty && Builtin.List.listTooLong (xs.size + ys.size)) = true) (h1 : xs.size ≤ sizeLine) (h2 : xs.size + ys.size ≤ sizeLine + 1) :
    Meets (Builtin.«list.extend» ⟨[.ref l, .ref b], []⟩) (fun _ R s => s.heap.get? l = some { cls := .type "list", dict := none, data := .seq xs n, slots := #[] } ∧ s.heap.get? b = some { cls := .type "tuple", dict := dd, data := .seq ys m, slots := sl } ∧
      R (.ok (.ret Value.none)) { s with heap := s.heap.update l (Obj.mapSeq fun z => z ++ ys), toks := s.toks }) :=
  .of_wp fun prog w A R s h => by
    obtain ⟨hp, g, d, tk, os⟩ := s
    obtain ⟨e1, e2, hR⟩ := h
    have g1 := AutoSeq1.idx_int
    have g2 := AutoSeq1.sub_tuple_tuple
    have g3 := AutoSeq1.sub_list_list
    have g4 := AutoSeq1.sub_tuple_list
    have g5 := AutoSeq1.sub_list_tuple
    have hz : (xs ++ ys).size ≤ sizeLine + 1 := by
      rw [Array.size_append]
      exact h2
    wp_walk using (wpAny_updateSeq e1 rfl (hz := h1) (_hz' := hz)), AutoSeq1.wpAny_loadPart' e1, AutoSeq1.wpAny_loadPart' e2
    exact ⟨_, rfl, hR⟩
def rExtT (K : PySem.W.Frag) : V → List V → Hp → VK → Prop := fun x vs H Q => ∃ l b xs zs, x = .ref l ∧ vs = [.ref b] ∧ H l = some (.lst xs) ∧ SqT K H b zs ∧ xs.length + zs.length ≤ sizeLine ∧ Q .non (upd H l (.lst (xs ++ zs)))
theorem mt_extT {X : Cx} : MtM X "list.extend" (rExtT X.K) := by
  intro pins s σ H x vs v us Q I rx rv h
  obtain ⟨l, b, xs, zs, rfl, rfl, hH, hB, hz, q⟩ := h
  cases rx
  obtain ⟨u, rfl, ru⟩ := rv.one
  cases ru
  obtain ⟨z, its, n, r, hl, e⟩ := I.lstM hH
  obtain ⟨its2, r2, ⟨o, e2, hc2, m, hd2⟩, _⟩ := I.tuple hB
  obtain ⟨oc, od, dt, sl⟩ := o
  simp only at hc2 hd2
  subst hc2 hd2
  have hl2 := r2.length
  have hsz : its.toArray.size + its2.toArray.size ≤ sizeLine := by
    rw [List.size_toArray, List.size_toArray]
    omega
  have hlong : ¬ (!its.toArray.isEmpty && Builtin.List.listTooLong (its.toArray.size + its2.toArray.size)) = true := by
    rw [notLongL hsz, Bool.and_false]
    decide
  refine call_meets F.slot_list_extend ⟨_, e, rfl⟩ F.entry_list_extend (F.args_list_extend_2 _ _) (ext_tup l its.toArray n b its2.toArray m od sl hlong (by omega) (by omega)) ⟨e, e2, ?_⟩
  refine ⟨.non, _, I.lset (its' := its ++ its2) hH e (by simp) (r.append r2) ?_, rfl, q⟩
  rw [List.length_append]
  exact hz
section
variable {A : Ad} {X : Cx} {Γ : Sls} {e : Expr} {rest : List Stmt} {a : AE} {P P1 P2 : Dat → Prop} {pos p : Pos}
/-- xs.extend(e), xs a list of one's own in slot i, e a tuple -/
theorem sb_extT (i : Nat) {o : Expr} {ds es : List Dat} (he : Ev A X e Γ (fun z => z = .tup es)) (k : Sb A X rest (Γ.set i (some (.mu (ds ++ es)))) a) (hl : ds.length + es.length ≤ 100000) (hΓ : Γ[i]? = some (some (.mu ds)) := by rfl) {pa pc ps : Pos}
    (pe : PE X (.Call (.Attribute o "extend" pa) [e] [] pc) (tBM X.K "list" (rExtT X.K) (tVar i) (wA X [e])) := by exact pe_bm PySem.F.plainAttrs_list PySem.F.slot_list_extend PySem.F.type_list_extend mt_extT (pv _) pa_w)
    (h1 : starEach [e] X.env = (false, eval e X.env) :: starEach [] X.env := by rfl) (hs : swapsWith (.Call (.Attribute o "extend" pa) [e] [] pc) none ps.line X.env = pure false := by rfl) :
    Sb A X (.Expr (.Call (.Attribute o "extend" pa) [e] [] pc) ps :: rest) Γ a :=
  sb_st (ps_expr pe hs) fun F D σ B H E R => by
    obtain ⟨p, xs, e1, h0, hm, hB, hH, hI⟩ := R.mu hΓ
    refine ⟨_, e1, .inl ⟨rfl, _, SqL.of hH⟩, ea1 he h1 F σ B H R _ fun vs B' H' fs pe s R' iv => ?_⟩
    obtain ⟨d, rfl, rfl⟩ := pe
    obtain ⟨v, rfl, m, ys, rfl, h2, j2⟩ := iv.one
    have hH' : H' p = some (.lst xs) := s.ex p _ (fun z => hm z.symm) hH
    have hxs : xs.length + ys.length ≤ sizeLine := by rw [← hI.len, ← j2.len]; exact Nat.le_trans hl (by decide)
    exact ⟨p, m, xs, ys, rfl, rfl, hH', SqT.of (R'.sub _ _ h2), hxs, E.nx' k (R'.putMu hΓ e1 ((hI.mono s.exB).append j2))⟩
/-- xs.extend(e), e a list -/
theorem sb_extL (i : Nat) {o : Expr} {ds : List Dat} {PL : List Dat → Prop} (he : Ev A X e Γ P) (hP : ∀ d, P d → ∃ es, d = .lst es ∧ PL es) (k : ∀ es, PL es → Sb A X rest (Γ.set i (some (.mu (ds ++ es)))) a) (hl : ∀ es, PL es → ds.length + es.length ≤ 100000) (hΓ : Γ[i]? = some (some (.mu ds)) := by rfl) {pa pc ps : Pos}
    (pe : PE X (.Call (.Attribute o "extend" pa) [e] [] pc) (tBM X.K "list" rExtend (tVar i) (wA X [e])) := by exact pe_bm PySem.F.plainAttrs_list PySem.F.slot_list_extend PySem.F.type_list_extend mt_extend (pv _) pa_w)
    (h1 : starEach [e] X.env = (false, eval e X.env) :: starEach [] X.env := by rfl) (hs : swapsWith (.Call (.Attribute o "extend" pa) [e] [] pc) none ps.line X.env = pure false := by rfl) :
    Sb A X (.Expr (.Call (.Attribute o "extend" pa) [e] [] pc) ps :: rest) Γ a :=
  sb_st (ps_expr pe hs) fun F D σ B H E R => by
    obtain ⟨p, xs, e1, h0, hm, hB, hH, hI⟩ := R.mu hΓ
    refine ⟨_, e1, .inl ⟨rfl, _, SqL.of hH⟩, ea1 he h1 F σ B H R _ fun vs B' H' fs pe s R' iv => ?_⟩
    obtain ⟨d, rfl, pd⟩ := pe
    obtain ⟨es, rfl, pl⟩ := hP d pd
    obtain ⟨v, rfl, m, ys, rfl, h2, j2⟩ := iv.one
    have hH' : H' p = some (.lst xs) := s.ex p _ (fun z => hm z.symm) hH
    have hxs : xs.length + ys.length ≤ sizeLine := by rw [← hI.len, ← j2.len]; exact Nat.le_trans (hl es pl) (by decide)
    exact ⟨p, m, xs, ys, rfl, rfl, hH', R'.sub _ _ h2, hxs, E.nx' (k es pl) (R'.putMu hΓ e1 ((hI.mono s.exB).append j2))⟩
theorem iss_erase {A : Ad} {B : Hp} : ∀ {ds : List Dat} {vs : List V} (n : Nat), Iss A B ds vs → Iss A B (ds.eraseIdx n) (vs.eraseIdx n)
  | [], _, n, h => by cases h; rfl
  | _ :: _, _, 0, ⟨v, r, h1, h2, h3⟩ => by cases h1; exact h3
  | _ :: _, _, n + 1, ⟨v, r, h1, h2, h3⟩ => by cases h1; exact ⟨v, _, rfl, h2, iss_erase n h3⟩
/-- y = xs.pop(e), xs a list of one's own in slot i, y in slot j -/
theorem sb_popAt (i j : Nat) {o : Expr} {x : Str} {px : Pos} {ds : List Dat} {d : Dat} {n : Nat} (he : Ev A X e Γ (fun z => z = .int (n : Nat))) (hd : ds[n]? = some d) (k : Sb A X rest ((Γ.set i (some (.mu (ds.eraseIdx n)))).set j (some (.im d))) a) (hn : n < 100000) (hΓ : Γ[i]? = some (some (.mu ds)) := by rfl) {pa pc : Pos}
    (hN : X.N.Nodup := by assumption) (hj : X.N[j]? = some x := by rfl) (hx : Loc X.env.scope x := by first | exact Or.inl rfl | exact Or.inr rfl) (hl : j < Γ.length := by exact Nat.le_of_ble_eq_true rfl)
    (pe : PE X (.Call (.Attribute o "pop" pa) [e] [] pc) (tBM X.K "list" rPopAt (tVar i) (wA X [e])) := by exact pe_bm PySem.F.plainAttrs_list PySem.F.slot_list_pop PySem.F.type_list_pop mt_popAt (pv _) pa_w)
    (h1 : starEach [e] X.env = (false, eval e X.env) :: starEach [] X.env := by rfl) (hs : swapsWith (.Call (.Attribute o "pop" pa) [e] [] pc) (some (.Name x px)) pos.line X.env = pure false := by rfl) (hf : X.fn x = true ∨ X.env.scope.names.lookup x = some .local := by first | exact .inl rfl | exact .inr rfl) :
    Sb A X (.Assign [.Name x px] (.Call (.Attribute o "pop" pa) [e] [] pc) pos :: rest) Γ a :=
  sb_st (ps_set hN hj hx pe hs hf) fun F D σ B H E R => by
    obtain ⟨p, xs, e1, h0, hm, hB, hH, hI⟩ := R.mu hΓ
    refine ⟨_, e1, .inl ⟨rfl, _, SqL.of hH⟩, ea1 he h1 F σ B H R _ fun vs B' H' fs pe s R' iv => ?_⟩
    obtain ⟨d', rfl, rfl⟩ := pe
    obtain ⟨v, rfl, h2⟩ := iv.one
    cases h2
    have hH' : H' p = some (.lst xs) := s.ex p _ (fun z => hm z.symm) hH
    obtain ⟨y, hy, iy⟩ := hI.at hd
    have hlt := (List.getElem?_eq_some_iff.mp hy).1
    refine ⟨p, xs, _, n, y, rfl, rfl, hH', by omega, by omega, ?_, hy, E.nx' k ((R'.putMu hΓ e1 (iss_erase n (hI.mono s.exB))).set (iy.mono s.exB) (by rw [List.length_set]; exact hl))⟩
    have e3 : ixN xs.length ((n : Nat) : Int) = some n := by
      unfold ixN
      rw [if_pos (by omega), if_pos (by omega), Int.toNat_natCast]
    exact (ixN_seq e3).1
end
end K64
/-! The text by places; what the written part holds. Printed by gen_txt.py. -/
namespace K64
open PySem L2
def topS (i : Nat) : Stmt := PySem.Challenge.pw_pairsfree_k64_whole_trials.main.body.getD i (.Pass ⟨0, 0, 0, 0⟩)
abbrev s_is_integer : Stmt := topS 10
abbrev n_is_integer : List Str := ["value"]
theorem sc_is_integer : FnScope n_is_integer ["value"] (defScope s_is_integer) := ⟨rfl, rfl, rfl, by decide +kernel, rfl, by decide +kernel, by decide +kernel⟩
abbrev s_is_count : Stmt := topS 11
abbrev n_is_count : List Str := ["value"]
theorem sc_is_count : FnScope n_is_count ["value"] (defScope s_is_count) := ⟨rfl, rfl, rfl, by decide +kernel, rfl, by decide +kernel, by decide +kernel⟩
abbrev s_is_list : Stmt := topS 12
abbrev n_is_list : List Str := ["value"]
theorem sc_is_list : FnScope n_is_list ["value"] (defScope s_is_list) := ⟨rfl, rfl, rfl, by decide +kernel, rfl, by decide +kernel, by decide +kernel⟩
abbrev s_digits_of : Stmt := topS 15
abbrev n_digits_of : List Str := ["number", "left", "told", "part", "sign"]
theorem sc_digits_of : FnScope n_digits_of ["number"] (defScope s_digits_of) := ⟨rfl, rfl, rfl, by decide +kernel, rfl, by decide +kernel, by decide +kernel⟩
abbrev s_common_part : Stmt := topS 16
abbrev n_common_part : List Str := ["one", "other"]
theorem sc_common_part : FnScope n_common_part ["one", "other"] (defScope s_common_part) := ⟨rfl, rfl, rfl, by decide +kernel, rfl, by decide +kernel, by decide +kernel⟩
abbrev s_told_pair : Stmt := topS 18
abbrev n_told_pair : List Str := ["value"]
theorem sc_told_pair : FnScope n_told_pair ["value"] (defScope s_told_pair) := ⟨rfl, rfl, rfl, by decide +kernel, rfl, by decide +kernel, by decide +kernel⟩
abbrev s_is_number : Stmt := topS 19
abbrev n_is_number : List Str := ["value"]
theorem sc_is_number : FnScope n_is_number ["value"] (defScope s_is_number) := ⟨rfl, rfl, rfl, by decide +kernel, rfl, by decide +kernel, by decide +kernel⟩
abbrev s_ratio_of : Stmt := topS 20
abbrev n_ratio_of : List Str := ["number"]
theorem sc_ratio_of : FnScope n_ratio_of ["number"] (defScope s_ratio_of) := ⟨rfl, rfl, rfl, by decide +kernel, rfl, by decide +kernel, by decide +kernel⟩
abbrev s_wholes : Stmt := topS 21
abbrev n_wholes : List Str := ["ratios", "bottom", "ratio"]
theorem sc_wholes : FnScope n_wholes ["ratios"] (defScope s_wholes) := ⟨rfl, rfl, rfl, by decide +kernel, rfl, by decide +kernel, by decide +kernel⟩
abbrev s_are_numbers : Stmt := topS 23
abbrev n_are_numbers : List Str := ["value", "wide", "number"]
theorem sc_are_numbers : FnScope n_are_numbers ["value", "wide"] (defScope s_are_numbers) := ⟨rfl, rfl, rfl, by decide +kernel, rfl, by decide +kernel, by decide +kernel⟩
abbrev s_ratios_of : Stmt := topS 24
abbrev n_ratios_of : List Str := ["row", "number"]
theorem sc_ratios_of : FnScope n_ratios_of ["row"] (defScope s_ratios_of) := ⟨rfl, rfl, rfl, by decide +kernel, rfl, by decide +kernel, by decide +kernel⟩
abbrev s_plain_row : Stmt := topS 25
abbrev n_plain_row : List Str := ["row", "common", "number"]
theorem sc_plain_row : FnScope n_plain_row ["row"] (defScope s_plain_row) := ⟨rfl, rfl, rfl, by decide +kernel, rfl, by decide +kernel, by decide +kernel⟩
abbrev s_ints_of : Stmt := topS 26
abbrev n_ints_of : List Str := ["rows", "row"]
theorem sc_ints_of : FnScope n_ints_of ["rows"] (defScope s_ints_of) := ⟨rfl, rfl, rfl, by decide +kernel, rfl, by decide +kernel, by decide +kernel⟩
abbrev s_cleared : Stmt := topS 27
abbrev n_cleared : List Str := ["row", "head", "place", "near", "far"]
theorem sc_cleared : FnScope n_cleared ["row", "head", "place"] (defScope s_cleared) := ⟨rfl, rfl, rfl, by decide +kernel, rfl, by decide +kernel, by decide +kernel⟩
abbrev s_first_at : Stmt := topS 28
abbrev n_first_at : List Str := ["rows", "place", "at", "row"]
theorem sc_first_at : FnScope n_first_at ["rows", "place"] (defScope s_first_at) := ⟨rfl, rfl, rfl, by decide +kernel, rfl, by decide +kernel, by decide +kernel⟩
abbrev s_int_rank : Stmt := topS 29
abbrev n_int_rank : List Str := ["rows", "left", "many", "place", "at", "head", "row"]
theorem sc_int_rank : FnScope n_int_rank ["rows"] (defScope s_int_rank) := ⟨rfl, rfl, rfl, by decide +kernel, rfl, by decide +kernel, by decide +kernel⟩
abbrev s_is_pair : Stmt := topS 33
abbrev n_is_pair : List Str := ["value", "size", "row"]
theorem sc_is_pair : FnScope n_is_pair ["value", "size"] (defScope s_is_pair) := ⟨rfl, rfl, rfl, by decide +kernel, rfl, by decide +kernel, by decide +kernel⟩
abbrev s_right_pairs : Stmt := topS 34
abbrev n_right_pairs : List Str := ["size", "value", "pair"]
theorem sc_right_pairs : FnScope n_right_pairs ["size", "value"] (defScope s_right_pairs) := ⟨rfl, rfl, rfl, by decide +kernel, rfl, by decide +kernel, by decide +kernel⟩
abbrev s_want_pairs : Stmt := topS 37
abbrev n_want_pairs : List Str := ["value"]
theorem sc_want_pairs : FnScope n_want_pairs ["value"] (defScope s_want_pairs) := ⟨rfl, rfl, rfl, by decide +kernel, rfl, by decide +kernel, by decide +kernel⟩
abbrev s_ints_at : Stmt := topS 40
abbrev n_ints_at : List Str := ["pairs", "lot", "found", "place"]
theorem sc_ints_at : FnScope n_ints_at ["pairs", "lot"] (defScope s_ints_at) := ⟨rfl, rfl, rfl, by decide +kernel, rfl, by decide +kernel, by decide +kernel⟩
abbrev s_rank_of : Stmt := topS 41
abbrev n_rank_of : List Str := ["pairs", "lot"]
theorem sc_rank_of : FnScope n_rank_of ["pairs", "lot"] (defScope s_rank_of) := ⟨rfl, rfl, rfl, by decide +kernel, rfl, by decide +kernel, by decide +kernel⟩
abbrev s_free_of : Stmt := topS 42
abbrev n_free_of : List Str := ["pairs", "lot"]
theorem sc_free_of : FnScope n_free_of ["pairs", "lot"] (defScope s_free_of) := ⟨rfl, rfl, rfl, by decide +kernel, rfl, by decide +kernel, by decide +kernel⟩
abbrev s_longer_lots : Stmt := topS 43
abbrev n_longer_lots : List Str := ["pairs", "lots", "found", "lot", "place"]
theorem sc_longer_lots : FnScope n_longer_lots ["pairs", "lots"] (defScope s_longer_lots) := ⟨rfl, rfl, rfl, by decide +kernel, rfl, by decide +kernel, by decide +kernel⟩
abbrev s_greatest_of : Stmt := topS 44
abbrev n_greatest_of : List Str := ["pairs", "found", "longer"]
theorem sc_greatest_of : FnScope n_greatest_of ["pairs"] (defScope s_greatest_of) := ⟨rfl, rfl, rfl, by decide +kernel, rfl, by decide +kernel, by decide +kernel⟩
abbrev s_numbers_in : Stmt := topS 46
abbrev n_numbers_in : List Str := ["pairs", "value", "number"]
theorem sc_numbers_in : FnScope n_numbers_in ["pairs", "value"] (defScope s_numbers_in) := ⟨rfl, rfl, rfl, by decide +kernel, rfl, by decide +kernel, by decide +kernel⟩
abbrev s_sum_at : Stmt := topS 47
abbrev n_sum_at : List Str := ["pairs", "numbers", "low", "high", "found", "number", "pair", "one", "two"]
theorem sc_sum_at : FnScope n_sum_at ["pairs", "numbers", "low", "high"] (defScope s_sum_at) := ⟨rfl, rfl, rfl, by decide +kernel, rfl, by decide +kernel, by decide +kernel⟩
abbrev s_sum_of : Stmt := topS 48
abbrev n_sum_of : List Str := ["pairs", "numbers", "size", "rows", "low", "high", "place"]
theorem sc_sum_of : FnScope n_sum_of ["pairs", "numbers"] (defScope s_sum_of) := ⟨rfl, rfl, rfl, by decide +kernel, rfl, by decide +kernel, by decide +kernel⟩
abbrev s_rank_by : Stmt := topS 49
abbrev n_rank_by : List Str := ["pairs", "numbers"]
theorem sc_rank_by : FnScope n_rank_by ["pairs", "numbers"] (defScope s_rank_by) := ⟨rfl, rfl, rfl, by decide +kernel, rfl, by decide +kernel, by decide +kernel⟩
abbrev s_trial_numbers : Stmt := topS 50
abbrev n_trial_numbers : List Str := ["pairs", "here", "lot", "place"]
theorem sc_trial_numbers : FnScope n_trial_numbers ["pairs"] (defScope s_trial_numbers) := ⟨rfl, rfl, rfl, by decide +kernel, rfl, by decide +kernel, by decide +kernel⟩
abbrev s_is_trial : Stmt := topS 51
abbrev n_is_trial : List Str := ["pairs", "value", "here", "numbers"]
theorem sc_is_trial : FnScope n_is_trial ["pairs", "value"] (defScope s_is_trial) := ⟨rfl, rfl, rfl, by decide +kernel, rfl, by decide +kernel, by decide +kernel⟩
abbrev s__law_pot : Stmt := topS 53
abbrev n__law_pot : List Str := ["_law_script", "_law_k", "_law_cell"]
theorem sc__law_pot : FnScope n__law_pot ["_law_script", "_law_k"] (defScope s__law_pot) := ⟨rfl, rfl, rfl, by decide +kernel, rfl, by decide +kernel, by decide +kernel⟩
abbrev s__law_draw : Stmt := topS 54
abbrev n__law_draw : List Str := ["_law_pot_here", "_law_many", "_law_digit"]
theorem sc__law_draw : FnScope n__law_draw ["_law_pot_here", "_law_many"] (defScope s__law_draw) := ⟨rfl, rfl, rfl, by decide +kernel, rfl, by decide +kernel, by decide +kernel⟩
abbrev s__law_pick : Stmt := topS 55
abbrev n__law_pick : List Str := ["_law_pot_here", "_law_some"]
theorem sc__law_pick : FnScope n__law_pick ["_law_pot_here", "_law_some"] (defScope s__law_pick) := ⟨rfl, rfl, rfl, by decide +kernel, rfl, by decide +kernel, by decide +kernel⟩
abbrev s__law_number : Stmt := topS 56
abbrev n__law_number : List Str := ["_law_pot_here"]
theorem sc__law_number : FnScope n__law_number ["_law_pot_here"] (defScope s__law_number) := ⟨rfl, rfl, rfl, by decide +kernel, rfl, by decide +kernel, by decide +kernel⟩
abbrev s__law_row : Stmt := topS 57
abbrev n__law_row : List Str := ["_law_pot_here", "_law_size", "_law_found", "_law_place"]
theorem sc__law_row : FnScope n__law_row ["_law_pot_here", "_law_size"] (defScope s__law_row) := ⟨rfl, rfl, rfl, by decide +kernel, rfl, by decide +kernel, by decide +kernel⟩
abbrev s__law_pairs : Stmt := topS 58
abbrev n__law_pairs : List Str := ["_law_pot_here", "_law_size", "_law_many", "_law_found", "_law_turn", "_law_near", "_law_way", "_law_far", "_law_number_here"]
theorem sc__law_pairs : FnScope n__law_pairs ["_law_pot_here", "_law_size", "_law_many"] (defScope s__law_pairs) := ⟨rfl, rfl, rfl, by decide +kernel, rfl, by decide +kernel, by decide +kernel⟩
abbrev s__law_given : Stmt := topS 59
abbrev n__law_given : List Str := ["_law_pot_here", "_law_pairs_here", "_law_found", "_law_near", "_law_far", "_law_way", "_law_one", "_law_other", "_law_number_here"]
theorem sc__law_given : FnScope n__law_given ["_law_pot_here", "_law_pairs_here"] (defScope s__law_given) := ⟨rfl, rfl, rfl, by decide +kernel, rfl, by decide +kernel, by decide +kernel⟩
abbrev s__law_cleared : Stmt := topS 60
abbrev n__law_cleared : List Str := ["_law_row_here", "_law_head", "_law_place", "_law_near", "_law_far"]
theorem sc__law_cleared : FnScope n__law_cleared ["_law_row_here", "_law_head", "_law_place"] (defScope s__law_cleared) := ⟨rfl, rfl, rfl, by decide +kernel, rfl, by decide +kernel, by decide +kernel⟩
abbrev s__law_rank : Stmt := topS 61
abbrev n__law_rank : List Str := ["_law_rows", "_law_left", "_law_many", "_law_place", "_law_some", "_law_head", "_law_row_here", "_law_at"]
theorem sc__law_rank : FnScope n__law_rank ["_law_rows"] (defScope s__law_rank) := ⟨rfl, rfl, rfl, by decide +kernel, rfl, by decide +kernel, by decide +kernel⟩
abbrev s__law_turned : Stmt := topS 62
abbrev n__law_turned : List Str := ["_law_pairs_here", "_law_numbers", "_law_size", "_law_found", "_law_p", "_law_line", "_law_q", "_law_c", "_law_near", "_law_far"]
theorem sc__law_turned : FnScope n__law_turned ["_law_pairs_here", "_law_numbers", "_law_size"] (defScope s__law_turned) := ⟨rfl, rfl, rfl, by decide +kernel, rfl, by decide +kernel, by decide +kernel⟩
abbrev s__law_lots : Stmt := topS 63
abbrev n__law_lots : List Str := ["_law_many", "_law_size", "_law_found", "_law_at", "_law_longer", "_law_lot", "_law_place"]
theorem sc__law_lots : FnScope n__law_lots ["_law_many", "_law_size"] (defScope s__law_lots) := ⟨rfl, rfl, rfl, by decide +kernel, rfl, by decide +kernel, by decide +kernel⟩
abbrev s__law_lot_rows : Stmt := topS 64
abbrev n__law_lot_rows : List Str := ["_law_pairs_here", "_law_lot", "_law_found", "_law_place"]
theorem sc__law_lot_rows : FnScope n__law_lot_rows ["_law_pairs_here", "_law_lot"] (defScope s__law_lot_rows) := ⟨rfl, rfl, rfl, by decide +kernel, rfl, by decide +kernel, by decide +kernel⟩
abbrev s__law_greatest : Stmt := topS 65
abbrev n__law_greatest : List Str := ["_law_pairs_here", "_law_many", "_law_size", "_law_lot"]
theorem sc__law_greatest : FnScope n__law_greatest ["_law_pairs_here"] (defScope s__law_greatest) := ⟨rfl, rfl, rfl, by decide +kernel, rfl, by decide +kernel, by decide +kernel⟩
abbrev s__law_is_number : Stmt := topS 66
abbrev n__law_is_number : List Str := ["_law_value"]
theorem sc__law_is_number : FnScope n__law_is_number ["_law_value"] (defScope s__law_is_number) := ⟨rfl, rfl, rfl, by decide +kernel, rfl, by decide +kernel, by decide +kernel⟩
abbrev s__law_ints : Stmt := topS 67
abbrev n__law_ints : List Str := ["_law_value", "_law_bottom", "_law_number_here"]
theorem sc__law_ints : FnScope n__law_ints ["_law_value"] (defScope s__law_ints) := ⟨rfl, rfl, rfl, by decide +kernel, rfl, by decide +kernel, by decide +kernel⟩
abbrev s__law_is_trial : Stmt := topS 68
abbrev n__law_is_trial : List Str := ["_law_own", "_law_size", "_law_most", "_law_value", "_law_number_here"]
theorem sc__law_is_trial : FnScope n__law_is_trial ["_law_own", "_law_size", "_law_most", "_law_value"] (defScope s__law_is_trial) := ⟨rfl, rfl, rfl, by decide +kernel, rfl, by decide +kernel, by decide +kernel⟩
abbrev s__law_drawn : Stmt := topS 69
abbrev n__law_drawn : List Str := ["_law_pot_here", "_law_many", "_law_found", "_law_place"]
theorem sc__law_drawn : FnScope n__law_drawn ["_law_pot_here", "_law_many"] (defScope s__law_drawn) := ⟨rfl, rfl, rfl, by decide +kernel, rfl, by decide +kernel, by decide +kernel⟩
abbrev s__law_right : Stmt := topS 70
abbrev n__law_right : List Str := ["_law_pot_here", "_law_size", "_law_own", "_law_pairs_here", "_law_most", "_law_told", "_law_values", "_law_turn", "_law_value", "_law_shown", "_law_due", "_law_number_here"]
theorem sc__law_right : FnScope n__law_right ["_law_pot_here"] (defScope s__law_right) := ⟨rfl, rfl, rfl, by decide +kernel, rfl, by decide +kernel, by decide +kernel⟩
abbrev s_law : Stmt := topS 71
abbrev n_law : List Str := ["_law_script"]
theorem sc_law : FnScope n_law ["_law_script"] (defScope s_law) := ⟨rfl, rfl, rfl, by decide +kernel, rfl, by decide +kernel, by decide +kernel⟩
abbrev s_Ratio_init : Stmt := inClass (topS 17) 0
abbrev n_Ratio_init : List Str := ["self", "top", "bottom", "common"]
theorem sc_Ratio_init : FnScope n_Ratio_init ["self", "top", "bottom"] (defScope s_Ratio_init) := ⟨rfl, rfl, rfl, by decide +kernel, rfl, by decide +kernel, by decide +kernel⟩
abbrev s_Ratio_top : Stmt := inClass (topS 17) 1
abbrev n_Ratio_top : List Str := ["self"]
theorem sc_Ratio_top : FnScope n_Ratio_top ["self"] (defScope s_Ratio_top) := ⟨rfl, rfl, rfl, by decide +kernel, rfl, by decide +kernel, by decide +kernel⟩
abbrev s_Ratio_bottom : Stmt := inClass (topS 17) 2
abbrev n_Ratio_bottom : List Str := ["self"]
theorem sc_Ratio_bottom : FnScope n_Ratio_bottom ["self"] (defScope s_Ratio_bottom) := ⟨rfl, rfl, rfl, by decide +kernel, rfl, by decide +kernel, by decide +kernel⟩
abbrev s_Ratio_sign : Stmt := inClass (topS 17) 3
abbrev n_Ratio_sign : List Str := ["self"]
theorem sc_Ratio_sign : FnScope n_Ratio_sign ["self"] (defScope s_Ratio_sign) := ⟨rfl, rfl, rfl, by decide +kernel, rfl, by decide +kernel, by decide +kernel⟩
abbrev s_Ratio_add : Stmt := inClass (topS 17) 6
abbrev n_Ratio_add : List Str := ["self", "other", "top", "bottom"]
theorem sc_Ratio_add : FnScope n_Ratio_add ["self", "other"] (defScope s_Ratio_add) := ⟨rfl, rfl, rfl, by decide +kernel, rfl, by decide +kernel, by decide +kernel⟩
abbrev s_Ratio_sub : Stmt := inClass (topS 17) 8
abbrev n_Ratio_sub : List Str := ["self", "other", "top", "bottom"]
theorem sc_Ratio_sub : FnScope n_Ratio_sub ["self", "other"] (defScope s_Ratio_sub) := ⟨rfl, rfl, rfl, by decide +kernel, rfl, by decide +kernel, by decide +kernel⟩
abbrev s_Ratio_mul : Stmt := inClass (topS 17) 10
abbrev n_Ratio_mul : List Str := ["self", "other", "top", "bottom"]
theorem sc_Ratio_mul : FnScope n_Ratio_mul ["self", "other"] (defScope s_Ratio_mul) := ⟨rfl, rfl, rfl, by decide +kernel, rfl, by decide +kernel, by decide +kernel⟩
abbrev s_Ratio_neg : Stmt := inClass (topS 17) 12
abbrev n_Ratio_neg : List Str := ["self"]
theorem sc_Ratio_neg : FnScope n_Ratio_neg ["self"] (defScope s_Ratio_neg) := ⟨rfl, rfl, rfl, by decide +kernel, rfl, by decide +kernel, by decide +kernel⟩
abbrev s_Ratio_repr : Stmt := inClass (topS 17) 19
abbrev n_Ratio_repr : List Str := ["self"]
theorem sc_Ratio_repr : FnScope n_Ratio_repr ["self"] (defScope s_Ratio_repr) := ⟨rfl, rfl, rfl, by decide +kernel, rfl, by decide +kernel, by decide +kernel⟩
abbrev s_Pairs_init : Stmt := inClass (topS 36) 0
abbrev n_Pairs_init : List Str := ["self", "size", "rows", "pair"]
theorem sc_Pairs_init : FnScope n_Pairs_init ["self", "size", "rows"] (defScope s_Pairs_init) := ⟨rfl, rfl, rfl, by decide +kernel, rfl, by decide +kernel, by decide +kernel⟩

/-- a method of the text, found in the class at C -/
structure Mth (K : PySem.W.Frag) (C : Addr) (m qual : Str) (st : Stmt) (ps : List Str) : Prop where
  ex : ∃ (f : Addr) (fd : FuncData), Fun K m qual st f fd ∧ PySem.W.findIn K (.ref C) m = some (some (.ref f)) ∧ PySem.W.isFn K (.ref f) = true ∧ Binds K fd ps []
/-- a property of the text -/
structure Prp (K : PySem.W.Frag) (C : Addr) (m qual : Str) (st : Stmt) (ps : List Str) : Prop where
  ex : ∃ (q f : Addr) (fd : FuncData), Fun K m qual st f fd ∧ PropOf K C m q f ∧ Binds K fd ps []
/-- an __init__ with one default -/
structure Ini (K : PySem.W.Frag) (C : Addr) (qual : Str) (st : Stmt) (dv : V) : Prop where
  ex : ∃ (f : Addr) (fd : FuncData), FunD K "__init__" qual (defArgs st) (defBody st) (defScope st) [dv] [] f fd ∧ Mk K C f
theorem dfn_mk {K : PySem.W.Frag} {h : Heap} {mg : Str → Option Value} (X : K.In h) (G : h.Ns mainGlobals mg) {x : Str} {st : Stmt} {ps : List Str} {f : Addr} {oc : Value} {od an : Option Addr} {osl : Array (Option Value)} {kV doc pm cdv ct : Value}
    (a : PySem.W.nsIn K mainGlobals x = some (some (.ref f))) (l : K.lookup f = some ⟨oc, od, .func (PySem.W.fnOf x x (defArgs st) (defBody st) (defScope st) .none kV doc pm an cdv ct), osl⟩) (c : PySem.W.codeIn K cdv x = true) (k : PySem.W.keepIn K (.ref f) = true)
    (b : ∀ (kV doc pm : Value) (an : Option Addr) (cdv ct : Value) (us : List Value), us.length = ps.length → bindArgs (PySem.W.fnOf x x (defArgs st) (defBody st) (defScope st) .none kV doc pm an cdv ct) ⟨us, []⟩ = pure (ps.zip us)) : Dfn K mg x st ps :=
  ⟨f, _, fun_mk l c k, PySem.W.mg_of X G a, (fun_mk l c k).binds b⟩
theorem mth_mk {K : PySem.W.Frag} {C : Addr} {m qual : Str} {st : Stmt} {ps : List Str} {f : Addr} {oc : Value} {od an : Option Addr} {osl : Array (Option Value)} {kV doc pm cdv ct : Value}
    (a : PySem.W.findIn K (.ref C) m = some (some (.ref f))) (i : PySem.W.isFn K (.ref f) = true) (l : K.lookup f = some ⟨oc, od, .func (PySem.W.fnOf m qual (defArgs st) (defBody st) (defScope st) .none kV doc pm an cdv ct), osl⟩) (c : PySem.W.codeIn K cdv qual = true) (k : PySem.W.keepIn K (.ref f) = true)
    (b : ∀ (kV doc pm : Value) (an : Option Addr) (cdv ct : Value) (us : List Value), us.length = ps.length → bindArgs (PySem.W.fnOf m qual (defArgs st) (defBody st) (defScope st) .none kV doc pm an cdv ct) ⟨us, []⟩ = pure (ps.zip us)) : Mth K C m qual st ps :=
  ⟨f, _, fun_mk l c k, a, i, (fun_mk l c k).binds b⟩
theorem prp_mk {K : PySem.W.Frag} {C : Addr} {m qual : Str} {st : Stmt} {ps : List Str} {q f : Addr} {rest : List Value} {oc : Value} {od an : Option Addr} {osl : Array (Option Value)} {kV doc pm cdv ct : Value}
    (a : PySem.W.findIn K (.ref C) m = some (some (.ref q))) (g : PySem.W.specialIn K (.ref q) "__get__" = some (some (.builtin "property.__get__"))) (t : PySem.W.takesIn K (.ref q) = some true) (r : PySem.W.recIn K q "property" = some (.ref f :: rest))
    (l : K.lookup f = some ⟨oc, od, .func (PySem.W.fnOf m qual (defArgs st) (defBody st) (defScope st) .none kV doc pm an cdv ct), osl⟩) (c : PySem.W.codeIn K cdv qual = true) (k : PySem.W.keepIn K (.ref f) = true)
    (b : ∀ (kV doc pm : Value) (an : Option Addr) (cdv ct : Value) (us : List Value), us.length = ps.length → bindArgs (PySem.W.fnOf m qual (defArgs st) (defBody st) (defScope st) .none kV doc pm an cdv ct) ⟨us, []⟩ = pure (ps.zip us)) : Prp K C m qual st ps :=
  ⟨q, f, _, fun_mk l c k, ⟨a, g, t, rest, r⟩, (fun_mk l c k).binds b⟩
theorem ini_mk {K : PySem.W.Frag} {C : Addr} {qual : Str} {st : Stmt} {dv : V} {f T : Addr} {u : Value} {oc ot : Value} {od an dd : Option Addr} {osl sl : Array (Option Value)} {n : Nat} {kV doc pm cdv ct : Value}
    (a : PySem.W.findIn K (.ref C) "__init__" = some (some (.ref f))) (i : PySem.W.isFn K (.ref f) = true) (l : K.lookup f = some ⟨oc, od, .func (PySem.W.fnOf "__init__" qual (defArgs st) (defBody st) (defScope st) (.ref T) kV doc pm an cdv ct), osl⟩) (c : PySem.W.codeIn K cdv qual = true) (k : PySem.W.keepIn K (.ref f) = true)
    (t : K.lookup T = some ⟨ot, dd, .seq #[u] n, sl⟩) (r : RelV dv u) (m : PySem.W.makesIn K C = true) (kc : PySem.W.keepIn K (.ref C) = true) : Ini K C qual st dv :=
  ⟨f, _, ⟨⟨oc, od, .ref T, kV, doc, pm, an, cdv, ct, osl, rfl, l, c, .inr ⟨(fun z => nomatch z), T, _, [u], n, rfl, t, rfl, .cons r .nil⟩, .inl rfl⟩, k⟩, m, a, i, kc⟩
/-- what of the two classes' tuples of kinds is known -/
structure Kit (K : PySem.W.Frag) (A : Ad) (N : Addr) : Prop where
  RI : PySem.W.kitOne K (.ref A.R) (.type "int") = some false
  IR : PySem.W.kitOne K (.type "int") (.ref A.R) = some false
  BR : PySem.W.kitOne K (.type "bool") (.ref A.R) = some false
  SR : PySem.W.kitOne K (.type "str") (.ref A.R) = some false
  IN : PySem.W.kitOne K (.type "int") (.ref N) = some false

section
variable {K : PySem.W.Frag} {mg : Str → Option Value} {h : Heap} {C : Addr}
theorem mgx_mk {x : Str} {u : Value} {i : Int} (X : K.In h) (G : h.Ns mainGlobals mg) (a : PySem.W.nsIn K mainGlobals x = some (some u)) (e : ∃ t, u = .int i t) : ∃ t, mg x = some (.int i t) := by
  obtain ⟨t, rfl⟩ := e
  exact ⟨t, PySem.W.mg_of X G a⟩
theorem fldR_mk (a : PySem.W.plainGet K C Str.empty = true) (b : PySem.W.hasDictIn K C = true) (c : PySem.W.plainOver K C = true) (d : PySem.W.findIn K (.ref C) "__setattr__" = some (some (.builtin "object.__setattr__")))
    (e : PySem.W.findIn K (.ref C) "own_top" = some none) (f : PySem.W.findIn K (.ref C) "own_bottom" = some none) : FldR K C := ⟨⟨a, b, c, d⟩, e, f⟩
theorem fldP_mk (a : PySem.W.plainGet K C Str.empty = true) (b : PySem.W.hasDictIn K C = true) (c : PySem.W.plainOver K C = true) (d : PySem.W.findIn K (.ref C) "__setattr__" = some (some (.builtin "object.__setattr__")))
    (e : PySem.W.findIn K (.ref C) "own_rows" = some none) (f : PySem.W.findIn K (.ref C) "own_size" = some none) (g : PySem.W.findIn K (.ref C) "own_ints" = some none) : FldP K C := ⟨⟨a, b, c, d⟩, e, f, g⟩
theorem tyc_mk (a : PySem.W.plainGet K C Str.empty = true) (b : PySem.W.hasDictIn K C = true) (c : PySem.W.plainOver K C = true) (d : PySem.W.findIn K (.ref C) "__setattr__" = some (some (.builtin "object.__setattr__")))
    (e : PySem.W.findIn K (.ref C) "__class__" = some (some (.builtin "object.__class__"))) (f : PySem.W.specialIn K (.builtin "object.__class__") "__get__" = some (some (.builtin "getset_descriptor.__get__")))
    (g : PySem.W.takesIn K (.builtin "object.__class__") = some true) (m : PySem.W.mroIn K C (.type "object") = some true) : TyC K C := ⟨⟨a, b, c, d⟩, e, f, g, m⟩
theorem opc_mk {nm : String} {rc fo ro : Option Value} (a : PySem.W.selfFirst K C = true) (b : PySem.W.findIn K (.ref C) (dunderR nm) = some rc) (c : rc = none ∨ ∃ g : Addr, rc = some (.ref g)) (d : PySem.W.findIn K (.type "int") (PySem.dunder nm) = some fo)
    (e : PySem.W.findIn K (.type "int") (dunderR nm) = some ro) (f : PySem.W.subIn K (.type "int") (.ref C) = some false) : OpC K C nm := ⟨a, ⟨rc, b, c⟩, ⟨fo, d⟩, ⟨ro, e⟩, f⟩
end
/-- what the top has written -/
structure Txt (K : PySem.W.Frag) (mg : Str → Option Value) (A : Ad) (N : Addr) : Prop where
  d_is_integer : Dfn K mg "is_integer" s_is_integer ["value"]
  d_is_count : Dfn K mg "is_count" s_is_count ["value"]
  d_is_list : Dfn K mg "is_list" s_is_list ["value"]
  d_digits_of : Dfn K mg "digits_of" s_digits_of ["number"]
  d_common_part : Dfn K mg "common_part" s_common_part ["one", "other"]
  d_told_pair : Dfn K mg "told_pair" s_told_pair ["value"]
  d_is_number : Dfn K mg "is_number" s_is_number ["value"]
  d_ratio_of : Dfn K mg "ratio_of" s_ratio_of ["number"]
  d_wholes : Dfn K mg "wholes" s_wholes ["ratios"]
  d_are_numbers : Dfn K mg "are_numbers" s_are_numbers ["value", "wide"]
  d_ratios_of : Dfn K mg "ratios_of" s_ratios_of ["row"]
  d_plain_row : Dfn K mg "plain_row" s_plain_row ["row"]
  d_ints_of : Dfn K mg "ints_of" s_ints_of ["rows"]
  d_cleared : Dfn K mg "cleared" s_cleared ["row", "head", "place"]
  d_first_at : Dfn K mg "first_at" s_first_at ["rows", "place"]
  d_int_rank : Dfn K mg "int_rank" s_int_rank ["rows"]
  d_is_pair : Dfn K mg "is_pair" s_is_pair ["value", "size"]
  d_right_pairs : Dfn K mg "right_pairs" s_right_pairs ["size", "value"]
  d_want_pairs : Dfn K mg "want_pairs" s_want_pairs ["value"]
  d_ints_at : Dfn K mg "ints_at" s_ints_at ["pairs", "lot"]
  d_rank_of : Dfn K mg "rank_of" s_rank_of ["pairs", "lot"]
  d_free_of : Dfn K mg "free_of" s_free_of ["pairs", "lot"]
  d_longer_lots : Dfn K mg "longer_lots" s_longer_lots ["pairs", "lots"]
  d_greatest_of : Dfn K mg "greatest_of" s_greatest_of ["pairs"]
  d_numbers_in : Dfn K mg "numbers_in" s_numbers_in ["pairs", "value"]
  d_sum_at : Dfn K mg "sum_at" s_sum_at ["pairs", "numbers", "low", "high"]
  d_sum_of : Dfn K mg "sum_of" s_sum_of ["pairs", "numbers"]
  d_rank_by : Dfn K mg "rank_by" s_rank_by ["pairs", "numbers"]
  d_trial_numbers : Dfn K mg "trial_numbers" s_trial_numbers ["pairs"]
  d_is_trial : Dfn K mg "is_trial" s_is_trial ["pairs", "value"]
  d_law_pot : Dfn K mg "_law_pot" s__law_pot ["_law_script", "_law_k"]
  d_law_draw : Dfn K mg "_law_draw" s__law_draw ["_law_pot_here", "_law_many"]
  d_law_pick : Dfn K mg "_law_pick" s__law_pick ["_law_pot_here", "_law_some"]
  d_law_number : Dfn K mg "_law_number" s__law_number ["_law_pot_here"]
  d_law_row : Dfn K mg "_law_row" s__law_row ["_law_pot_here", "_law_size"]
  d_law_pairs : Dfn K mg "_law_pairs" s__law_pairs ["_law_pot_here", "_law_size", "_law_many"]
  d_law_given : Dfn K mg "_law_given" s__law_given ["_law_pot_here", "_law_pairs_here"]
  d_law_cleared : Dfn K mg "_law_cleared" s__law_cleared ["_law_row_here", "_law_head", "_law_place"]
  d_law_rank : Dfn K mg "_law_rank" s__law_rank ["_law_rows"]
  d_law_turned : Dfn K mg "_law_turned" s__law_turned ["_law_pairs_here", "_law_numbers", "_law_size"]
  d_law_lots : Dfn K mg "_law_lots" s__law_lots ["_law_many", "_law_size"]
  d_law_lot_rows : Dfn K mg "_law_lot_rows" s__law_lot_rows ["_law_pairs_here", "_law_lot"]
  d_law_greatest : Dfn K mg "_law_greatest" s__law_greatest ["_law_pairs_here"]
  d_law_is_number : Dfn K mg "_law_is_number" s__law_is_number ["_law_value"]
  d_law_ints : Dfn K mg "_law_ints" s__law_ints ["_law_value"]
  d_law_is_trial : Dfn K mg "_law_is_trial" s__law_is_trial ["_law_own", "_law_size", "_law_most", "_law_value"]
  d_law_drawn : Dfn K mg "_law_drawn" s__law_drawn ["_law_pot_here", "_law_many"]
  d_law_right : Dfn K mg "_law_right" s__law_right ["_law_pot_here"]
  d_law : Dfn K mg "law" s_law ["_law_script"]
  m_Ratio_top : Prp K A.R "top" "Ratio.top" s_Ratio_top ["self"]
  m_Ratio_bottom : Prp K A.R "bottom" "Ratio.bottom" s_Ratio_bottom ["self"]
  m_Ratio_sign : Prp K A.R "sign" "Ratio.sign" s_Ratio_sign ["self"]
  m_Ratio_add : Mth K A.R "__add__" "Ratio.__add__" s_Ratio_add ["self", "other"]
  m_Ratio_sub : Mth K A.R "__sub__" "Ratio.__sub__" s_Ratio_sub ["self", "other"]
  m_Ratio_mul : Mth K A.R "__mul__" "Ratio.__mul__" s_Ratio_mul ["self", "other"]
  m_Ratio_neg : Mth K A.R "__neg__" "Ratio.__neg__" s_Ratio_neg ["self"]
  m_Ratio_repr : Mth K A.R "__repr__" "Ratio.__repr__" s_Ratio_repr ["self"]
  iR : Ini K A.R "Ratio.__init__" s_Ratio_init (.int 1)
  iP : ∃ v, Ini K A.P "Pairs.__init__" s_Pairs_init (.ref v)
  gR : mg "Ratio" = some (.ref A.R)
  gP : mg "Pairs" = some (.ref A.P)
  gN : mg "Known" = some (.ref N)
  gGcd : mg "gcd" = some (.builtin "math.gcd")
  gLcm : mg "lcm" = some (.builtin "math.lcm")
  gPart : ∃ t, mg "PART" = some (.int (10 ^ 60) t)
  gMs : ∃ t, mg "MOST_SIZE" = some (.int 8 t)
  gMp : ∃ t, mg "MOST_PAIRS" = some (.int 8 t)
  b_isinstance : mg "isinstance" = none
  b_int : mg "int" = none
  b_bool : mg "bool" = none
  b_str : mg "str" = none
  b_list : mg "list" = none
  b_tuple : mg "tuple" = none
  b_len : mg "len" = none
  b_abs : mg "abs" = none
  b_max : mg "max" = none
  b_divmod : mg "divmod" = none
  b_all : mg "all" = none
  b_any : mg "any" = none
  b_sum : mg "sum" = none
  b_range : mg "range" = none
  b_zip : mg "zip" = none
  b_enumerate : mg "enumerate" = none
  b_repr : mg "repr" = none
  fR : FldR K A.R
  fP : FldP K A.P
  tR : TyC K A.R
  tP : TyC K A.P
  oAdd : OpC K A.R "add"
  oMul : OpC K A.R "mul"
  oSub : OpC K A.R "sub"
  kit : Kit K A N
end K64
/-! Methods of the text and their promises. -/
namespace K64
open PySem L2
section
variable {P : Program} {w : World} {K : PySem.W.Frag} {mg : Str → Option Value} {base : Heap} {A : Ad}
/-- a def of the module, itself in sight -/
structure CalF (P : Program) (w : World) (K : PySem.W.Frag) (mg : Str → Option Value) (base : Heap) (x : Str) (st : Stmt) (ps : List Str) (k : Nat) (sp : Sp) : Prop where
  ex : ∃ (f : Addr) (fd : FuncData), mg x = some (.ref f) ∧ Fun K x x st f fd ∧ Binds K fd ps [] ∧ FnOk P w K mg base CX0 k f fd ps sp
theorem CalF.cal {x : Str} {st : Stmt} {ps : List Str} {k : Nat} {sp : Sp} (C : CalF P w K mg base x st ps k sp) : Cal P w K mg base x k sp :=
  let ⟨f, fd, hm, F, hb, ok⟩ := C.ex
  ⟨f, fd, ps, hm, F.kp, hb, ok⟩
theorem Dfn.puF {x : Str} {st : Stmt} {N ps : List Str} {k : Nat} {Pre : List Dat → Prop} {Post : List Dat → Dat → Prop} (D : Dfn K mg x st ps) (S : FnScope N ps (defScope st)) (hn : ps.length ≤ N.length) (len : ∀ ds, Pre ds → ds.length = ps.length)
    (body : ∀ (f : Addr) (cdv : Value) (A' : Around) (outer : List Env) (s : Shared) (H : Hp) (ds : List Dat), Room k (A'.deeper (PyProof.Rows.envOfC x (defScope st) s.heap.objs.size f cdv)) → Pre ds →
      Sb A (cxOf CX0 P w K mg base N x (defScope st) f cdv A' outer s H E0).nox (defBody st) (sl0 N ds) { nx := fun _ => Post ds .non, rt := Post ds }) : CalF P w K mg base x st ps (k + 1) (Pu A Pre Post) :=
  let ⟨f, fd, F, hm, hb⟩ := D.ex
  ⟨f, fd, hm, F, hb, fok_pu F S hn len (body f)⟩
theorem Dfn.puNF {x : Str} {st : Stmt} {N ps : List Str} {k : Nat} {Pre : List Dat → Prop} {Post : List Dat → List Dat → Prop} (D : Dfn K mg x st ps) (S : FnScope N ps (defScope st)) (hn : ps.length ≤ N.length) (len : ∀ ds, Pre ds → ds.length = ps.length)
    (body : ∀ (f : Addr) (cdv : Value) (A' : Around) (outer : List Env) (s : Shared) (H : Hp) (ds : List Dat), Room k (A'.deeper (PyProof.Rows.envOfC x (defScope st) s.heap.objs.size f cdv)) → Pre ds →
      Sb A (cxOf CX0 P w K mg base N x (defScope st) f cdv A' outer s H E0).nox (defBody st) (sl0 N ds) { nx := fun _ => False, rt := fun _ => False, rtN := Post ds }) : CalF P w K mg base x st ps (k + 1) (PuN A Pre Post) :=
  let ⟨f, fd, F, hm, hb⟩ := D.ex
  ⟨f, fd, hm, F, hb, fok_puN F S hn len (body f)⟩
theorem Mth.pu {C : Addr} {m qual : Str} {st : Stmt} {N ps : List Str} {k : Nat} {Pre : List Dat → Prop} {Post : List Dat → Dat → Prop} (D : Mth K C m qual st ps) (S : FnScope N ps (defScope st)) (hn : ps.length ≤ N.length) (len : ∀ ds, Pre ds → ds.length = ps.length)
    (body : ∀ (f : Addr) (cdv : Value) (A' : Around) (outer : List Env) (s : Shared) (H : Hp) (ds : List Dat), Room k (A'.deeper (PyProof.Rows.envOfC qual (defScope st) s.heap.objs.size f cdv)) → Pre ds →
      Sb A (cxOf CX0 P w K mg base N qual (defScope st) f cdv A' outer s H E0).nox (defBody st) (sl0 N ds) { nx := fun _ => Post ds .non, rt := Post ds }) : CalM P w K mg base C m (k + 1) (Pu A Pre Post) :=
  let ⟨f, fd, F, h1, h2, hb⟩ := D.ex
  ⟨f, fd, ps, h1, h2, F.kp, hb, fok_pu F S hn len (body f)⟩
theorem Prp.pu {C : Addr} {m qual : Str} {st : Stmt} {N ps : List Str} {k : Nat} {Pre : List Dat → Prop} {Post : List Dat → Dat → Prop} (D : Prp K C m qual st ps) (S : FnScope N ps (defScope st)) (hn : ps.length ≤ N.length) (len : ∀ ds, Pre ds → ds.length = ps.length)
    (body : ∀ (f : Addr) (cdv : Value) (A' : Around) (outer : List Env) (s : Shared) (H : Hp) (ds : List Dat), Room k (A'.deeper (PyProof.Rows.envOfC qual (defScope st) s.heap.objs.size f cdv)) → Pre ds →
      Sb A (cxOf CX0 P w K mg base N qual (defScope st) f cdv A' outer s H E0).nox (defBody st) (sl0 N ds) { nx := fun _ => Post ds .non, rt := Post ds }) : CalG P w K mg base C m (k + 1) (Pu A Pre Post) :=
  let ⟨q, f, fd, F, h1, hb⟩ := D.ex
  ⟨q, f, fd, ps, h1, hb, fok_pu F S hn len (body f)⟩
/-- the body of an __init__ with defaults keeps its promise -/
theorem fok_puD {x qual : Str} {st : Stmt} {f : Addr} {fd : FuncData} {N ps : List Str} {dvs : List V} {k : Nat} {C : Addr} {Pre : List Dat → Prop} {Post : List Dat → List (Str × Dat) → Prop} (F : FunD K x qual (defArgs st) (defBody st) (defScope st) dvs [] f fd) (S : FnScope N ps (defScope st)) (hn : ps.length ≤ N.length) (len : ∀ ds, Pre ds → ds.length + 1 = ps.length)
    (body : ∀ (cdv : Value) (A' : Around) (outer : List Env) (s : Shared) (H : Hp) (ds : List Dat), Room k (A'.deeper (PyProof.Rows.envOfC qual (defScope st) s.heap.objs.size f cdv)) → Pre ds →
      Sb A (cxOf CX0 P w K mg base N qual (defScope st) f cdv A' outer s H E0).nox (defBody st) (slI N C ds) { nx := fun Γ => ∃ fs, Γ[0]? = some (some (.self C fs)) ∧ Post ds fs, rt := fun _ => False }) : FnOk P w K mg base CX0 (k + 1) f fd ps (PuI A C Pre Post) := by
  refine F.ok S (fun vs H Q E ⟨B, p, dx, us, ds, e, _, _, _, h, hp, _⟩ => by rw [e, List.length_cons, ← h.len]; exact len ds hp) fun cdv A' outer s H vs Q E hr ⟨B, p, dx, us, ds, e, hB, hBp, hpt, h, hp, q⟩ => ?_
  subst e
  have sb := body cdv A' outer s H ds hr hp ⟨some p, B, H⟩ { nx := fun _ H' => Q .non H', rt := Q } (L2.start N (.ref p :: us)) B H
    ⟨fun Γ σ B' H' ⟨fs, h1, h2⟩ R => by
      obtain ⟨v, _, p', dx', gs, _, hm, g1, g2⟩ := R.sl 0 _ h1
      cases hm
      exact q fs gs dx' B' H' h2 R.st g1 g2, fun _ _ _ _ z => z.elim, fun _ _ _ _ _ z => z.elim, fun _ _ _ _ z => z.elim, fun _ _ _ _ z => z.elim, fun _ _ z => z.elim⟩
    (relI hB hBp hpt h (by rw [len ds hp]; exact hn))
  obtain ⟨t, h1, h2⟩ := sb
  exact ⟨t, PSs.nox (X := cxOf CX0 P w K mg base N qual (defScope st) f cdv A' outer s H E) ⟨fun pins s' σ H' D I hw => h1.run pins s' σ H' D I hw⟩, h2⟩
/-- a class whose __init__ has one default: all written -/
theorem Ini.calc3 {x : Str} {C : Addr} {qual : Str} {st : Stmt} {dv : V} {k : Nat} {ps : List Str} {sp : Sp} (I : Ini K C qual st dv) (g : mg x = some (.ref C)) (hl : ps.length = 3)
    (h : ∀ (T : Addr) (kV doc pm : Value) (an : Option Addr) (cdv ct : Value) (a b c d : Value), ∃ k, bindArgs (PySem.W.fnOf "__init__" qual (defArgs st) (defBody st) (defScope st) (.ref T) kV doc pm an cdv ct) ⟨[a, b, c], []⟩ = seqItems? (.ref T) >>= k ∧ k (some [d].toArray) = pure (ps.zip [a, b, c]))
    (F : ∀ f fd, FunD K "__init__" qual (defArgs st) (defBody st) (defScope st) [dv] [] f fd → FnOk P w K mg base CX0 k f fd ps sp) : CalC P w K mg base x C k [] sp := by
  obtain ⟨f, fd, D, M⟩ := I.ex
  obtain ⟨its, h1, h2⟩ := D.binds1 (ps := ps) 3 1 (by simp) (by rw [hl]; rfl) (fun T kV doc pm an cdv ct us its l1 l2 => by
    obtain ⟨a, b, c, rfl⟩ : ∃ a b c, us = [a, b, c] := by
      match us, l1 with
      | [a, b, c], _ => exact ⟨a, b, c, rfl⟩
    obtain ⟨d, rfl⟩ : ∃ d, its = [d] := by
      match its, l2 with
      | [d], _ => exact ⟨d, rfl⟩
    exact h T kV doc pm an cdv ct a b c d)
  exact ⟨f, fd, ps, [], its, g, M, h2, h1, fun _ _ => rfl, F f fd D⟩
/-- .. the default fills up -/
theorem Ini.calc2 {x : Str} {C : Addr} {qual : Str} {st : Stmt} {dv : V} {dd : Dat} {k : Nat} {ps : List Str} {sp : Sp} (I : Ini K C qual st dv) (g : mg x = some (.ref C)) (hl : ps.length = 3) (hd : ∀ A B, Is A B dd dv)
    (h : ∀ (T : Addr) (kV doc pm : Value) (an : Option Addr) (cdv ct : Value) (a b d : Value), ∃ k, bindArgs (PySem.W.fnOf "__init__" qual (defArgs st) (defBody st) (defScope st) (.ref T) kV doc pm an cdv ct) ⟨[a, b], []⟩ = seqItems? (.ref T) >>= k ∧ k (some [d].toArray) = pure (ps.zip [a, b, d]))
    (F : ∀ f fd, FunD K "__init__" qual (defArgs st) (defBody st) (defScope st) [dv] [] f fd → FnOk P w K mg base CX0 k f fd ps sp) : CalC P w K mg base x C k [dd] sp := by
  obtain ⟨f, fd, D, M⟩ := I.ex
  obtain ⟨its, h1, h2⟩ := D.binds1 (ps := ps) 2 0 (by simp) (by rw [hl]; rfl) (fun T kV doc pm an cdv ct us its l1 l2 => by
    obtain ⟨a, b, rfl⟩ : ∃ a b, us = [a, b] := by
      match us, l1 with
      | [a, b], _ => exact ⟨a, b, rfl⟩
    obtain ⟨d, rfl⟩ : ∃ d, its = [d] := by
      match its, l2 with
      | [d], _ => exact ⟨d, rfl⟩
    exact h T kV doc pm an cdv ct a b d)
  exact ⟨f, fd, ps, [dv], its, g, M, h2, h1, fun A B => ⟨dv, [], rfl, hd A B, rfl⟩, F f fd D⟩
end
end K64
/-! Calls by the number of arguments. -/
namespace K64
open PySem L2
abbrev Q1 (R : Dat → Prop) : List Dat → Prop := fun ds => ∃ d, ds = [d] ∧ R d
abbrev Q2 (R : Dat → Dat → Prop) : List Dat → Prop := fun ds => ∃ d e, ds = [d, e] ∧ R d e
abbrev Q3 (R : Dat → Dat → Dat → Prop) : List Dat → Prop := fun ds => ∃ d e f, ds = [d, e, f] ∧ R d e f
abbrev Q4 (R : Dat → Dat → Dat → Dat → Prop) : List Dat → Prop := fun ds => ∃ d e f g, ds = [d, e, f, g] ∧ R d e f g
abbrev O1 {α : Type} (R : Dat → α → Prop) : List Dat → α → Prop := fun ds z => ∃ d, ds = [d] ∧ R d z
abbrev O2 {α : Type} (R : Dat → Dat → α → Prop) : List Dat → α → Prop := fun ds z => ∃ d e, ds = [d, e] ∧ R d e z
abbrev O3 {α : Type} (R : Dat → Dat → Dat → α → Prop) : List Dat → α → Prop := fun ds z => ∃ d e f, ds = [d, e, f] ∧ R d e f z
abbrev O4 {α : Type} (R : Dat → Dat → Dat → Dat → α → Prop) : List Dat → α → Prop := fun ds z => ∃ d e f g, ds = [d, e, f, g] ∧ R d e f g z
section
variable {A : Ad} {X : Cx} {Γ : Sls} {P : Dat → Prop} {PN : List Dat → Prop} {pos p : Pos} {x : Str} {a b c e : Expr} {k j : Nat} {d1 d2 d3 d4 : Dat}
theorem ea4 {P1 P2 P3 P4 : Dat → Prop} (ha : Ev A X a Γ P1) (hb : Ev A X b Γ P2) (hc : Ev A X c Γ P3) (he : Ev A X e Γ P4) (h1 : starEach [a, b, c, e] X.env = (false, eval a X.env) :: starEach [b, c, e] X.env := by rfl) (h2 : starEach [b, c, e] X.env = (false, eval b X.env) :: starEach [c, e] X.env := by rfl) (h3 : starEach [c, e] X.env = (false, eval c X.env) :: starEach [e] X.env := by rfl) (h4 : starEach [e] X.env = (false, eval e X.env) :: starEach [] X.env := by rfl) :
    EvA A X [a, b, c, e] Γ (fun ds => ∃ d d' d'' d3, ds = [d, d', d'', d3] ∧ P1 d ∧ P2 d' ∧ P3 d'' ∧ P4 d3) :=
  (ea_cons ha (ea3 hb hc he h2 h3 h4) h1).imp fun ds ⟨d, r, h, p, d', d'', d3, h', p', p'', p3⟩ => ⟨d, d', d'', d3, by rw [h, h'], p, p', p'', p3⟩
theorem ev_c1 {Pr : Dat → Prop} {R : Dat → Dat → Prop} (C : Cal X.prog X.w X.K X.mg X.base x k (Pu A (Q1 Pr) (O1 R))) (hr : Room j X.A) (ha : Ev A X a Γ (fun z => z = d1)) (hp : Pr d1) (hq : ∀ z, R d1 z → P z) (hk : k ≤ j := by decide) (hg : Gl X x := by rfl)
    (hdb : (x == ("__debug__" : Str)) = false := by decide) (h1 : starEach [a] X.env = (false, eval a X.env) :: starEach [] X.env := by rfl) (hpl : (backTo pos (starEach [] X.env)).any (·.1) = false := by rfl) : Ev A X (.Call (.Name x p) [a] [] pos) Γ P :=
  ev_call C hr (ea1 ha h1) (fun ds ⟨d, h1, h2⟩ => by subst h1; subst h2; exact ⟨⟨d, rfl, hp⟩, fun z ⟨d', g1, g2⟩ => by cases g1; exact hq z g2⟩) hk hg hdb h1 hpl
theorem ev_c2 {Pr : Dat → Dat → Prop} {R : Dat → Dat → Dat → Prop} (C : Cal X.prog X.w X.K X.mg X.base x k (Pu A (Q2 Pr) (O2 R))) (hr : Room j X.A) (ha : Ev A X a Γ (fun z => z = d1)) (hb : Ev A X b Γ (fun z => z = d2)) (hp : Pr d1 d2) (hq : ∀ z, R d1 d2 z → P z) (hk : k ≤ j := by decide) (hg : Gl X x := by rfl)
    (hdb : (x == ("__debug__" : Str)) = false := by decide) (h1 : starEach [a, b] X.env = (false, eval a X.env) :: starEach [b] X.env := by rfl) (h2 : starEach [b] X.env = (false, eval b X.env) :: starEach [] X.env := by rfl) (hpl : (backTo pos (starEach [b] X.env)).any (·.1) = false := by rfl) : Ev A X (.Call (.Name x p) [a, b] [] pos) Γ P :=
  ev_call C hr (ea2 ha hb h1 h2) (fun ds ⟨d, d', h1, h2, h3⟩ => by subst h1; subst h2; subst h3; exact ⟨⟨d, d', rfl, hp⟩, fun z ⟨_, _, g1, g2⟩ => by cases g1; exact hq z g2⟩) hk hg hdb h1 hpl
theorem ev_c3 {Pr : Dat → Dat → Dat → Prop} {R : Dat → Dat → Dat → Dat → Prop} (C : Cal X.prog X.w X.K X.mg X.base x k (Pu A (Q3 Pr) (O3 R))) (hr : Room j X.A) (ha : Ev A X a Γ (fun z => z = d1)) (hb : Ev A X b Γ (fun z => z = d2)) (hc : Ev A X c Γ (fun z => z = d3)) (hp : Pr d1 d2 d3) (hq : ∀ z, R d1 d2 d3 z → P z) (hk : k ≤ j := by decide) (hg : Gl X x := by rfl)
    (hdb : (x == ("__debug__" : Str)) = false := by decide) (h1 : starEach [a, b, c] X.env = (false, eval a X.env) :: starEach [b, c] X.env := by rfl) (h2 : starEach [b, c] X.env = (false, eval b X.env) :: starEach [c] X.env := by rfl) (h3 : starEach [c] X.env = (false, eval c X.env) :: starEach [] X.env := by rfl) (hpl : (backTo pos (starEach [b, c] X.env)).any (·.1) = false := by rfl) : Ev A X (.Call (.Name x p) [a, b, c] [] pos) Γ P :=
  ev_call C hr (ea3 ha hb hc h1 h2 h3) (fun ds ⟨d, d', d'', h1, h2, h3, h4⟩ => by subst h1; subst h2; subst h3; subst h4; exact ⟨⟨_, _, _, rfl, hp⟩, fun z ⟨_, _, _, g1, g2⟩ => by cases g1; exact hq z g2⟩) hk hg hdb h1 hpl
theorem ev_c4 {Pr : Dat → Dat → Dat → Dat → Prop} {R : Dat → Dat → Dat → Dat → Dat → Prop} (C : Cal X.prog X.w X.K X.mg X.base x k (Pu A (Q4 Pr) (O4 R))) (hr : Room j X.A) (ha : Ev A X a Γ (fun z => z = d1)) (hb : Ev A X b Γ (fun z => z = d2)) (hc : Ev A X c Γ (fun z => z = d3)) (he : Ev A X e Γ (fun z => z = d4)) (hp : Pr d1 d2 d3 d4) (hq : ∀ z, R d1 d2 d3 d4 z → P z) (hk : k ≤ j := by decide) (hg : Gl X x := by rfl)
    (hdb : (x == ("__debug__" : Str)) = false := by decide) (h1 : starEach [a, b, c, e] X.env = (false, eval a X.env) :: starEach [b, c, e] X.env := by rfl) (h2 : starEach [b, c, e] X.env = (false, eval b X.env) :: starEach [c, e] X.env := by rfl) (h3 : starEach [c, e] X.env = (false, eval c X.env) :: starEach [e] X.env := by rfl) (h4 : starEach [e] X.env = (false, eval e X.env) :: starEach [] X.env := by rfl) (hpl : (backTo pos (starEach [b, c, e] X.env)).any (·.1) = false := by rfl) : Ev A X (.Call (.Name x p) [a, b, c, e] [] pos) Γ P :=
  ev_call C hr (ea4 ha hb hc he h1 h2 h3 h4) (fun ds ⟨d, d', d'', d3, h1, h2, h3, h4, h5⟩ => by subst h1; subst h2; subst h3; subst h4; subst h5; exact ⟨⟨_, _, _, _, rfl, hp⟩, fun z ⟨_, _, _, _, g1, g2⟩ => by cases g1; exact hq z g2⟩) hk hg hdb h1 hpl
theorem en_c1 {Pr : Dat → Prop} {R : Dat → List Dat → Prop} (C : Cal X.prog X.w X.K X.mg X.base x k (PuN A (Q1 Pr) (O1 R))) (hr : Room j X.A) (ha : Ev A X a Γ (fun z => z = d1)) (hp : Pr d1) (hq : ∀ z, R d1 z → PN z) (hk : k ≤ j := by decide) (hg : Gl X x := by rfl)
    (hdb : (x == ("__debug__" : Str)) = false := by decide) (h1 : starEach [a] X.env = (false, eval a X.env) :: starEach [] X.env := by rfl) (hpl : (backTo pos (starEach [] X.env)).any (·.1) = false := by rfl) : EvN A X (.Call (.Name x p) [a] [] pos) Γ PN :=
  en_call C hr (ea1 ha h1) (fun ds ⟨d, h1, h2⟩ => by subst h1; subst h2; exact ⟨⟨d, rfl, hp⟩, fun z ⟨d', g1, g2⟩ => by cases g1; exact hq z g2⟩) hk hg hdb h1 hpl
/-- with the pot first -/
theorem ev_cP0 {y : Str} {py : Pos} {R : Dat → Prop} (C : Cal X.prog X.w X.K X.mg X.base x k (PuP A (fun ds => ds = []) (fun ds z => ds = [] ∧ R z))) (hr : Room j X.A) (hq : ∀ z, R z → P z) (hΓ : Γ[0]? = some (some .pot) := by rfl) (hk : k ≤ j := by decide) (hg : Gl X x := by rfl)
    (py' : PE X (.Name y py) (tVar 0) := by exact pv 0) (hdb : (x == ("__debug__" : Str)) = false := by decide) (he : starEach [.Name y py] X.env = (false, eval (.Name y py) X.env) :: starEach [] X.env := by rfl) (hpl : (backTo pos (starEach [] X.env)).any (·.1) = false := by rfl) : Ev A X (.Call (.Name x p) [.Name y py] [] pos) Γ P :=
  ev_callP C hr ea_nil (fun ds h => ⟨h, fun z g => hq z g.2⟩) hΓ hk hg py' hdb he hpl
theorem ev_cP1 {y : Str} {py : Pos} {Pr : Dat → Prop} {R : Dat → Dat → Prop} (C : Cal X.prog X.w X.K X.mg X.base x k (PuP A (Q1 Pr) (O1 R))) (hr : Room j X.A) (ha : Ev A X a Γ (fun z => z = d1)) (hp : Pr d1) (hq : ∀ z, R d1 z → P z) (hΓ : Γ[0]? = some (some .pot) := by rfl) (hk : k ≤ j := by decide) (hg : Gl X x := by rfl)
    (py' : PE X (.Name y py) (tVar 0) := by exact pv 0) (hdb : (x == ("__debug__" : Str)) = false := by decide) (he : starEach [.Name y py, a] X.env = (false, eval (.Name y py) X.env) :: starEach [a] X.env := by rfl) (h1 : starEach [a] X.env = (false, eval a X.env) :: starEach [] X.env := by rfl) (hpl : (backTo pos (starEach [a] X.env)).any (·.1) = false := by rfl) : Ev A X (.Call (.Name x p) [.Name y py, a] [] pos) Γ P :=
  ev_callP C hr (ea1 ha h1) (fun ds ⟨d, h1, h2⟩ => by subst h1; subst h2; exact ⟨⟨d, rfl, hp⟩, fun z ⟨d', g1, g2⟩ => by cases g1; exact hq z g2⟩) hΓ hk hg py' hdb he hpl
theorem ev_cP2 {y : Str} {py : Pos} {Pr : Dat → Dat → Prop} {R : Dat → Dat → Dat → Prop} (C : Cal X.prog X.w X.K X.mg X.base x k (PuP A (Q2 Pr) (O2 R))) (hr : Room j X.A) (ha : Ev A X a Γ (fun z => z = d1)) (hb : Ev A X b Γ (fun z => z = d2)) (hp : Pr d1 d2) (hq : ∀ z, R d1 d2 z → P z) (hΓ : Γ[0]? = some (some .pot) := by rfl) (hk : k ≤ j := by decide) (hg : Gl X x := by rfl)
    (py' : PE X (.Name y py) (tVar 0) := by exact pv 0) (hdb : (x == ("__debug__" : Str)) = false := by decide) (he : starEach [.Name y py, a, b] X.env = (false, eval (.Name y py) X.env) :: starEach [a, b] X.env := by rfl) (h1 : starEach [a, b] X.env = (false, eval a X.env) :: starEach [b] X.env := by rfl) (h2 : starEach [b] X.env = (false, eval b X.env) :: starEach [] X.env := by rfl) (hpl : (backTo pos (starEach [a, b] X.env)).any (·.1) = false := by rfl) : Ev A X (.Call (.Name x p) [.Name y py, a, b] [] pos) Γ P :=
  ev_callP C hr (ea2 ha hb h1 h2) (fun ds ⟨d, d', h1, h2, h3⟩ => by subst h1; subst h2; subst h3; exact ⟨⟨d, d', rfl, hp⟩, fun z ⟨_, _, g1, g2⟩ => by cases g1; exact hq z g2⟩) hΓ hk hg py' hdb he hpl
end
/-- all slots but the first hold no instance under way -/
def tailOk : Sls → Bool
  | [] => true
  | none :: r => tailOk r
  | some (.im _) :: r => tailOk r
  | some (.mu _) :: r => tailOk r
  | _ => false
theorem tailOk_at : ∀ {Γ : Sls} {j : Nat} {s : Sl}, tailOk Γ = true → Γ[j]? = some (some s) → ∃ d, s = .im d ∨ ∃ ds, s = .mu ds
  | [], _, _, _, e => by simp at e
  | none :: _, 0, _, _, e => by cases e
  | none :: r, j + 1, s, h, e => tailOk_at (Γ := r) (j := j) h e
  | some (.im d) :: _, 0, _, _, e => by cases e; exact ⟨d, .inl rfl⟩
  | some (.im _) :: r, j + 1, s, h, e => tailOk_at (Γ := r) (j := j) h e
  | some (.mu d) :: _, 0, _, _, e => by cases e; exact ⟨.non, .inr ⟨d, rfl⟩⟩
  | some (.mu _) :: r, j + 1, s, h, e => tailOk_at (Γ := r) (j := j) h e
  | some .pot :: _, _, _, h, _ => by cases h
  | some (.self _ _) :: _, _, _, h, _ => by cases h
theorem hsl_of {s0 : Option Sl} {Γ : Sls} (h : tailOk Γ = true) (j : Nat) (s : Sl) (hj : j ≠ 0) (e : (s0 :: Γ)[j]? = some (some s)) : ∃ d, s = .im d ∨ ∃ ds, s = .mu ds := by
  cases j with
  | zero => exact absurd rfl hj
  | succ j => exact tailOk_at h e
/-- what is not an instance's is not asked further -/
theorem sb_ret1 {A : Ad} {X : Cx} {Γ : Sls} {rest : List Stmt} {a : AE} {e : Expr} {d : Dat} {pos : Pos} (he : Ev A X e Γ (fun z => z = d)) (k : a.rt d) (hp : a.pt → ∃ i : Nat, Γ[i]? = some (some Sl.pot) := by exact fun h => h.elim) : Sb A X (.Return (some e) pos :: rest) Γ a :=
  sb_ret he (fun z h => by rw [h]; exact k) hp
end K64
/-! Kinds; ratios. -/
namespace K64
open PySem L2
def Kd : Dat → Prop
  | .int _ => True
  | .bl _ => True
  | .str _ => True
  | .rat _ _ => True
  | _ => False
def isIntB : Dat → Bool
  | .int _ => true
  | _ => false
def isNumB : Dat → Bool
  | .int _ => true
  | .rat _ _ => true
  | _ => false
def isListB : Dat → Bool
  | .lst _ => true
  | .tup _ => true
  | _ => false
/-- the kinds that are asked whether they are lists -/
def Kl : Dat → Prop
  | .non => True
  | .int _ => True
  | .str _ => True
  | .dic => True
  | .lst _ => True
  | .tup _ => True
  | _ => False
section
variable {P : Program} {w : World} {K : PySem.W.Frag} {mg : Str → Option Value} {base : Heap} {A : Ad} {N : Addr} (T : Txt K mg A N)
include T
theorem c_is_integer : Cal P w K mg base "is_integer" 1 (Pu A (One Kd) (fun ds z => ∃ d, ds = [d] ∧ z = .bl (isIntB d))) := by
  refine T.d_is_integer.pu sc_is_integer (by decide) (by rintro _ ⟨d, rfl, _⟩; rfl) ?_
  rintro f cdv A' outer s H _ hr ⟨d, rfl, hd⟩
  have nd := sc_is_integer.nd
  refine (show Sb A _ _ [some (.im d)] _ from ?_)
  refine sb_ret (P := fun z => z = .bl (isIntB d)) ?_ (fun z h => ⟨d, rfl, h⟩)
  cases d with
  | int i => exact ev_and2 (k := true) (l := true) (ev_isInt (.int i) true T.tR T.tP T.b_isinstance (ev_v 0) T.b_int (kit_ty (by decide +kernel))) (fun _ => ev_not (k := false) (ev_isBool (.int i) false T.tR T.tP T.b_isinstance (ev_v 0) T.b_bool (kit_ty (by decide +kernel))))
  | bl b => exact ev_and2 (k := true) (l := false) (ev_isInt (.bl b) true T.tR T.tP T.b_isinstance (ev_v 0) T.b_int (kit_ty (by decide +kernel))) (fun _ => ev_not (k := true) (ev_isBool (.bl b) true T.tR T.tP T.b_isinstance (ev_v 0) T.b_bool (kit_ty (by decide +kernel))))
  | str b => exact ev_and2 (k := false) (l := false) (ev_isInt (.str b) false T.tR T.tP T.b_isinstance (ev_v 0) T.b_int (kit_ty (by decide +kernel))) (fun h => nomatch h)
  | rat b c => exact ev_and2 (k := false) (l := false) (ev_isInt (.rat b c) false T.tR T.tP T.b_isinstance (ev_v 0) T.b_int T.kit.RI) (fun h => nomatch h)
  | _ => exact hd.elim
theorem c_is_count : Cal P w K mg base "is_count" 2 (Pu A (fun ds => ∃ i, ds = [.int i]) (fun ds z => ∃ i, ds = [.int i] ∧ z = .bl (decide (0 ≤ i)))) := by
  refine T.d_is_count.pu sc_is_count (by decide) (by rintro _ ⟨d, rfl⟩; rfl) ?_
  rintro f cdv A' outer s H _ hr ⟨i, rfl⟩
  refine (show Sb A _ _ [some (.im (.int i))] _ from ?_)
  refine sb_ret (P := fun z => z = .bl (decide (0 ≤ i))) ?_ (fun z h => ⟨i, rfl, h⟩)
  refine (ev_and2 (k := true) (l := decide (0 ≤ i)) (ev_call (c_is_integer T) hr (ea1 (ev_v 0)) fun ds h => ?_) (fun _ => ev_ge (ev_v 0) ev_int)).imp fun d h => by rw [h]; rfl
  obtain ⟨d, rfl, rfl⟩ := h
  exact ⟨⟨_, rfl, trivial⟩, fun z ⟨d, h1, h2⟩ => by cases h1; exact h2⟩
theorem c_is_list : Cal P w K mg base "is_list" 1 (Pu A (One Kl) (fun ds z => ∃ d, ds = [d] ∧ z = .bl (isListB d))) := by
  refine T.d_is_list.pu sc_is_list (by decide) (by rintro _ ⟨d, rfl, _⟩; rfl) ?_
  rintro f cdv A' outer s H _ hr ⟨d, rfl, hd⟩
  refine (show Sb A _ _ [some (.im d)] _ from ?_)
  refine sb_ret (P := fun z => z = .bl (isListB d)) ?_ (fun z h => ⟨d, rfl, h⟩)
  cases d with
  | non => exact ev_isLT .non false T.tR T.tP T.b_isinstance (ev_v 0) T.b_list T.b_tuple (kit_lt (k := false) (l := false) (by decide +kernel) (by decide +kernel))
  | int i => exact ev_isLT (.int i) false T.tR T.tP T.b_isinstance (ev_v 0) T.b_list T.b_tuple (kit_lt (k := false) (l := false) (by decide +kernel) (by decide +kernel))
  | str i => exact ev_isLT (.str i) false T.tR T.tP T.b_isinstance (ev_v 0) T.b_list T.b_tuple (kit_lt (k := false) (l := false) (by decide +kernel) (by decide +kernel))
  | dic => exact ev_isLT .dic false T.tR T.tP T.b_isinstance (ev_v 0) T.b_list T.b_tuple (kit_lt (k := false) (l := false) (by decide +kernel) (by decide +kernel))
  | lst i => exact ev_isLT (.lst i) true T.tR T.tP T.b_isinstance (ev_v 0) T.b_list T.b_tuple (kit_lt (k := true) (l := false) (by decide +kernel) (by decide +kernel))
  | tup i => exact ev_isLT (.tup i) true T.tR T.tP T.b_isinstance (ev_v 0) T.b_list T.b_tuple (kit_lt (k := false) (l := true) (by decide +kernel) (by decide +kernel))
  | _ => exact hd.elim

/-! ### ratios -/
omit T
/-- the worth of a number: above and below -/
def tbD : Dat → Int × Int
  | .int i => (i, 1)
  | .rat t b => (t, b)
  | _ => (0, 1)
def gcdI (t b : Int) : Int := ((Nat.gcd t.natAbs b.natAbs : Nat) : Int)
/-- the ratio of two ints, the lower one above 0 -/
def mkRat (t b : Int) : Dat := .rat (t / gcdI t b) (b / gcdI t b)
theorem gcdI_pos {t b : Int} (h : 0 < b) : 0 < gcdI t b := by
  unfold gcdI
  have : 0 < Nat.gcd t.natAbs b.natAbs := Nat.gcd_pos_of_pos_right _ (by omega)
  omega
theorem gcdI_le {t b : Int} (h : 0 < b) : (gcdI t b).natAbs ≤ b.natAbs := by
  unfold gcdI
  rw [Int.natAbs_natCast]
  exact Nat.le_of_dvd (by omega) (Nat.gcd_dvd_right _ _)
def Bd (n : Nat) (i : Int) : Prop := i.natAbs < 2 ^ n
theorem Bd.mono {n m : Nat} {i : Int} (h : Bd n i) (k : n ≤ m) : Bd m i := Nat.lt_of_lt_of_le h (Nat.pow_le_pow_right (by decide) k)
theorem Bd.mul {n m : Nat} {i j : Int} (h : Bd n i) (k : Bd m j) : Bd (n + m) (i * j) := by
  unfold Bd
  rw [Int.natAbs_mul, Nat.pow_add]
  exact Nat.mul_lt_mul'' h k
theorem Bd.add {n : Nat} {i j : Int} (h : Bd n i) (k : Bd n j) : Bd (n + 1) (i + j) := by
  have h' : i.natAbs < 2 ^ n := h
  have k' : j.natAbs < 2 ^ n := k
  show (i + j).natAbs < 2 ^ (n + 1)
  have e : (2 : Nat) ^ (n + 1) = 2 ^ n + 2 ^ n := by rw [Nat.pow_succ]; omega
  have := Int.natAbs_add_le i j
  omega
theorem Bd.sub {n : Nat} {i j : Int} (h : Bd n i) (k : Bd n j) : Bd (n + 1) (i - j) := by
  have h' : i.natAbs < 2 ^ n := h
  have k' : j.natAbs < 2 ^ n := k
  show (i - j).natAbs < 2 ^ (n + 1)
  have e : (2 : Nat) ^ (n + 1) = 2 ^ n + 2 ^ n := by rw [Nat.pow_succ]; omega
  omega
theorem Bd.neg {n : Nat} {i : Int} (h : Bd n i) : Bd n (-i) := by
  unfold Bd
  rw [Int.natAbs_neg]
  exact h
/-- numbers of n bits, above and below, the lower one above 0 -/
def NumB (n : Nat) (d : Dat) : Prop := IsNum d ∧ 0 < (tbD d).2 ∧ Bd n (tbD d).1 ∧ Bd n (tbD d).2
include T
theorem c_common_part : Cal P w K mg base "common_part" 1 (Pu A (Q2 fun d e => ∃ i j, d = .int i ∧ e = .int j) (O2 fun d e z => ∃ i j, d = .int i ∧ e = .int j ∧ z = .int (gcdI i j))) := by
  refine T.d_common_part.pu sc_common_part (by decide) (by rintro _ ⟨_, _, rfl, _⟩; rfl) ?_
  rintro f cdv A' outer s H _ hr ⟨_, _, rfl, i, j, rfl, rfl⟩
  refine (show Sb A _ _ [some (.im (.int i)), some (.im (.int j))] _ from ?_)
  exact sb_ret (ev_gcd T.gGcd (ev_v 0 rfl) (ev_v 1 rfl)) (fun z h => ⟨_, _, rfl, i, j, rfl, rfl, h⟩)
theorem kitRR : PySem.W.kitOne K (.ref A.R) (.ref A.R) = some true := by
  unfold PySem.W.kitOne
  rw [if_pos (by simp)]
theorem c_told_pair : Cal P w K mg base "told_pair" 2 (Pu A (Q1 IsNum) (O1 fun d z => z = .tup [.int (tbD d).1, .int (tbD d).2])) := by
  refine T.d_told_pair.pu sc_told_pair (by decide) (by rintro _ ⟨d, rfl, _⟩; rfl) ?_
  rintro f cdv A' outer s H _ hr ⟨d, rfl, hd⟩
  refine (show Sb A _ _ [some (.im d)] _ from ?_)
  cases d with
  | int i =>
    refine sb_if (k := false) (et_v (ev_isC (d := .int i) T.tR T.tP T.b_isinstance (ev_v 0 rfl) T.gR T.kit.IR)) (fun h => nomatch h) fun _ => sb_nil ?_
    refine sb_skip (et_not (k := true) (et_v (ev_c1 (P := fun z => z = .bl true) (c_is_integer T) hr (ev_v 0 rfl) trivial fun z h => h))) ?_
    refine sb_ret (ev_tup (ea2 (ev_v 0 rfl) ev_int) (fun ds h => by obtain ⟨d, d', rfl, _⟩ := h; show 2 ≤ sizeLine; decide)) fun z h => ?_
    obtain ⟨ds, ⟨d, d', rfl, rfl, rfl⟩, rfl⟩ := h
    exact ⟨_, rfl, rfl⟩
  | rat t b =>
    refine sb_if (k := true) (et_v (ev_isC (d := .rat t b) T.tR T.tP T.b_isinstance (ev_v 0 rfl) T.gR (kitRR T))) (fun _ => ?_) (fun h => nomatch h)
    refine sb_ret (ev_tup (ea2 (ev_ot (ev_v 0 rfl) T.fR) (ev_ob (ev_v 0 rfl) T.fR)) (fun ds h => by obtain ⟨d, d', rfl, _⟩ := h; show 2 ≤ sizeLine; decide)) fun z h => ?_
    obtain ⟨ds, ⟨d, d', rfl, rfl, rfl⟩, rfl⟩ := h
    exact ⟨_, rfl, rfl⟩
  | _ => exact hd.elim
theorem c_is_number : Cal P w K mg base "is_number" 2 (Pu A (Q1 Kd) (O1 fun d z => z = .bl (isNumB d))) := by
  refine T.d_is_number.pu sc_is_number (by decide) (by rintro _ ⟨d, rfl, _⟩; rfl) ?_
  rintro f cdv A' outer s H _ hr ⟨d, rfl, hd⟩
  refine (show Sb A _ _ [some (.im d)] _ from ?_)
  refine sb_ret (P := fun z => z = .bl (isNumB d)) ?_ (fun z h => ⟨d, rfl, h⟩)
  cases d with
  | int i => exact ev_or2 (k := true) (l := true) (ev_c1 (c_is_integer T) hr (ev_v 0 rfl) trivial fun z h => h) (fun h => nomatch h)
  | bl b => exact ev_or2 (k := false) (l := false) (ev_c1 (c_is_integer T) hr (ev_v 0 rfl) trivial fun z h => h) (fun _ => ev_isC (d := .bl b) T.tR T.tP T.b_isinstance (ev_v 0 rfl) T.gR T.kit.BR)
  | str b => exact ev_or2 (k := false) (l := false) (ev_c1 (c_is_integer T) hr (ev_v 0 rfl) trivial fun z h => h) (fun _ => ev_isC (d := .str b) T.tR T.tP T.b_isinstance (ev_v 0 rfl) T.gR T.kit.SR)
  | rat t b => exact ev_or2 (k := false) (l := true) (ev_c1 (c_is_integer T) hr (ev_v 0 rfl) trivial fun z h => h) (fun _ => ev_isC (d := .rat t b) T.tR T.tP T.b_isinstance (ev_v 0 rfl) T.gR (kitRR T))
  | _ => exact hd.elim
/-- Ratio(t, b) -/
def fsR (t b : Int) : List (Str × Dat) := [("own_top", .int (t / gcdI t b)), ("own_bottom", .int (b / gcdI t b))]
theorem c_Ratio_fok (f : Addr) (fd : FuncData) (F : FunD K "__init__" "Ratio.__init__" (defArgs s_Ratio_init) (defBody s_Ratio_init) (defScope s_Ratio_init) [.int 1] [] f fd) :
    FnOk P w K mg base CX0 2 f fd ["self", "top", "bottom"] (PuI A A.R (Q2 fun d e => ∃ t b, d = .int t ∧ e = .int b ∧ 0 < b ∧ Bd 8000 b) (O2 fun d e z => ∃ t b, d = .int t ∧ e = .int b ∧ z = fsR t b)) := by
  refine fok_puD F sc_Ratio_init (by decide) (by rintro _ ⟨_, _, rfl, _⟩; rfl) ?_
  rintro cdv A' outer s H _ hr ⟨_, _, rfl, t, b, rfl, rfl, hb, hB⟩
  have nd := sc_Ratio_init.nd
  refine (show Sb A _ _ [some (.self A.R []), some (.im (.int t)), some (.im (.int b)), none] _ from ?_)
  refine sb_skip (et_not (k := true) (et_v (ev_c1 (P := fun z => z = .bl true) (c_is_integer T) hr (ev_v 1 rfl) trivial fun z h => h))) ?_
  refine sb_skip (EvW.t (ew_or (k := false) (l := false) (et_not (k := true) (et_v (ev_c1 (P := fun z => z = .bl true) (c_is_integer T) hr (ev_v 2 rfl) trivial fun z h => h))) (fun _ => ew_or1 ((et_eq (i := b) (j := 0) (ev_v 2 rfl) ev_int).imp fun z h => by rw [h]; exact decide_eq_false (by omega))))) ?_
  refine sb_set 3 (P := fun z => z = .int (gcdI t b)) (ev_c2 (c_common_part T) hr (ev_v 1 rfl) (ev_v 2 rfl) ⟨t, b, rfl, rfl⟩ fun z ⟨i, j, h1, h2, h3⟩ => by cases h1; cases h2; exact h3) (fun d h => ?_)
  subst h
  refine sb_if (k := false) ((et_lt (i := b) (j := 0) (ev_v 2 rfl) ev_int).imp fun z h => by rw [h]; exact decide_eq_false (by omega)) (fun h => nomatch h) fun _ => sb_nil ?_
  have g0 := gcdI_pos (t := t) hb
  have g1 : Bd 8000 (gcdI t b) := Nat.lt_of_le_of_lt (gcdI_le hb) hB
  refine sb_fld T.fR.cl T.fR.t (ev_fdiv 8000 (ev_v 1 rfl) (ev_v 3 rfl) g0 g1) (fun d h => ?_) (hsl := hsl_of rfl)
  subst h
  refine sb_fld T.fR.cl T.fR.b (ev_fdiv 8000 (ev_v 2 rfl) (ev_v 3 rfl) g0 g1) (fun d h => ?_) (hsl := hsl_of rfl)
  subst h
  exact sb_nil ⟨_, rfl, _, _, rfl, t, b, rfl, rfl, rfl⟩
end
end K64
/-! Ratios made and reckoned with. -/
namespace K64
open PySem L2
theorem mkRat_one (i : Int) : mkRat i 1 = .rat i 1 := by
  have e : gcdI i 1 = 1 := by unfold gcdI; simp
  unfold mkRat
  rw [e, Int.ediv_one, Int.ediv_one]
theorem is_fsR {A : Ad} {t b : Int} {B : Hp} {p dx : Addr} {gs : List (Str × V)} (h : B p = some (.ins A.R dx gs)) (hf : Isf A B (fsR t b) gs) : Is A B (mkRat t b) (.ref p) := by
  obtain ⟨v1, r1, rfl, h1, v2, r2, rfl, h2, h3⟩ := hf
  cases h3
  cases h1
  cases h2
  exact ⟨p, dx, rfl, h⟩
section
variable {P : Program} {w : World} {K : PySem.W.Frag} {mg : Str → Option Value} {base : Heap} {A : Ad} {N : Addr} (T : Txt K mg A N)
include T
abbrev preR : List Dat → Prop := Q2 fun d e => ∃ t b, d = .int t ∧ e = .int b ∧ 0 < b ∧ Bd 8000 b
abbrev postR : List Dat → List (Str × Dat) → Prop := O2 fun d e z => ∃ t b, d = .int t ∧ e = .int b ∧ z = fsR t b
theorem c_R2 : CalC P w K mg base "Ratio" A.R 2 [] (PuI A A.R preR postR) := T.iR.calc3 T.gR (ps := ["self", "top", "bottom"]) rfl (fun T' kV doc pm an cdv ct a b c d => ⟨_, rfl, rfl⟩) (c_Ratio_fok T)
theorem c_R1 : CalC P w K mg base "Ratio" A.R 2 [.int 1] (PuI A A.R preR postR) := T.iR.calc2 T.gR (ps := ["self", "top", "bottom"]) rfl (fun _ _ => rfl) (fun T' kV doc pm an cdv ct a b d => ⟨_, rfl, rfl⟩) (c_Ratio_fok T)
end
section
variable {A : Ad} {X : Cx} {Γ : Sls} {pos p : Pos} {a b : Expr} {j : Nat} {N : Addr} (T : Txt X.K X.mg A N)
include T
theorem ev_R2 {t u : Int} (hr : Room j X.A) (ha : Ev A X a Γ (fun z => z = .int t)) (hb : Ev A X b Γ (fun z => z = .int u)) (h0 : 0 < u) (hB : Bd 8000 u) (hk : 3 ≤ j := by decide) (hg : Gl X "Ratio" := by rfl)
    (h1 : starEach [a, b] X.env = (false, eval a X.env) :: starEach [b] X.env := by rfl) (h2 : starEach [b] X.env = (false, eval b X.env) :: starEach [] X.env := by rfl) (hpl : (backTo pos (starEach [b] X.env)).any (·.1) = false := by rfl) : Ev A X (.Call (.Name "Ratio" p) [a, b] [] pos) Γ (fun z => z = mkRat t u) :=
  ev_make (c_R2 T) hr (ea2 ha hb h1 h2) (fun ds ⟨d, e, h1, h2, h3⟩ => by
    subst h1; subst h2; subst h3
    exact ⟨⟨_, _, rfl, t, u, rfl, rfl, h0, hB⟩, fun fs ⟨_, _, g1, t', u', g2, g3, g4⟩ => by
      cases g1; cases g2; cases g3; subst g4
      exact ⟨mkRat t u, rfl, fun B p dx gs q1 q2 => is_fsR q1 q2⟩⟩) hk hg (by decide) h1 hpl
theorem ev_R1 {t : Int} (hr : Room j X.A) (ha : Ev A X a Γ (fun z => z = .int t)) (hk : 3 ≤ j := by decide) (hg : Gl X "Ratio" := by rfl)
    (h1 : starEach [a] X.env = (false, eval a X.env) :: starEach [] X.env := by rfl) (hpl : (backTo pos (starEach [] X.env)).any (·.1) = false := by rfl) : Ev A X (.Call (.Name "Ratio" p) [a] [] pos) Γ (fun z => z = .rat t 1) :=
  ev_make (c_R1 T) hr (ea1 ha h1) (fun ds ⟨d, h1, h2⟩ => by
    subst h1; subst h2
    refine ⟨⟨_, _, rfl, t, 1, rfl, rfl, by decide, ?_⟩, fun fs ⟨_, _, g1, t', u', g2, g3, g4⟩ => ?_⟩
    · show (1 : Nat) < 2 ^ 8000
      exact Nat.one_lt_two_pow (by decide)
    · cases g1; cases g2; cases g3; subst g4
      exact ⟨.rat t 1, rfl, fun B p dx gs q1 q2 => by rw [← mkRat_one]; exact is_fsR q1 q2⟩) hk hg (by decide) h1 hpl
end
def ratD : Dat → Dat
  | .int i => .rat i 1
  | d => d
theorem ratD_rat (t b : Int) : ratD (.rat t b) = .rat t b := rfl
section
variable {P : Program} {w : World} {K : PySem.W.Frag} {mg : Str → Option Value} {base : Heap} {A : Ad} {N : Addr} (T : Txt K mg A N)
include T
theorem c_ratio_of : Cal P w K mg base "ratio_of" 4 (Pu A (Q1 IsNum) (O1 fun d z => z = ratD d)) := by
  refine T.d_ratio_of.pu sc_ratio_of (by decide) (by rintro _ ⟨d, rfl, _⟩; rfl) ?_
  rintro f cdv A' outer s H _ hr ⟨d, rfl, hd⟩
  refine (show Sb A _ _ [some (.im d)] _ from ?_)
  refine sb_ret (P := fun z => z = ratD d) ?_ (fun z h => ⟨d, rfl, h⟩)
  cases d with
  | int i => exact ev_if (k := false) (et_v (ev_isC (d := .int i) T.tR T.tP T.b_isinstance (ev_v 0) T.gR T.kit.IR)) (fun h => nomatch h) fun _ => ev_R1 T hr (ev_v 0)
  | rat t b => exact ev_if (k := true) (et_v (ev_isC (d := .rat t b) T.tR T.tP T.b_isinstance (ev_v 0) T.gR (kitRR T))) (fun _ => ev_v 0) (fun h => nomatch h)
  | _ => exact hd.elim
/-! ### the parts -/
theorem g_top : CalG P w K mg base A.R "top" 1 (Pu A (Q1 fun d => ∃ t b, d = .rat t b) (O1 fun d z => z = .int (tbD d).1)) := by
  refine T.m_Ratio_top.pu sc_Ratio_top (by decide) (by rintro _ ⟨d, rfl, _⟩; rfl) ?_
  rintro f cdv A' outer s H _ hr ⟨_, rfl, t, b, rfl⟩
  refine (show Sb A _ _ [some (.im (.rat t b))] _ from ?_)
  exact sb_ret (ev_ot (t := t) (bt := b) (ev_v 0) T.fR) (fun z h => ⟨_, rfl, h⟩)
theorem g_bottom : CalG P w K mg base A.R "bottom" 1 (Pu A (Q1 fun d => ∃ t b, d = .rat t b) (O1 fun d z => z = .int (tbD d).2)) := by
  refine T.m_Ratio_bottom.pu sc_Ratio_bottom (by decide) (by rintro _ ⟨d, rfl, _⟩; rfl) ?_
  rintro f cdv A' outer s H _ hr ⟨_, rfl, t, b, rfl⟩
  refine (show Sb A _ _ [some (.im (.rat t b))] _ from ?_)
  exact sb_ret (ev_ob (t := t) (bt := b) (ev_v 0) T.fR) (fun z h => ⟨_, rfl, h⟩)
theorem g_sign : CalG P w K mg base A.R "sign" 1 (Pu A (Q1 fun d => ∃ t b, d = .rat t b) (O1 fun d z => ∃ i, z = .int i ∧ (i = 0 ↔ (tbD d).1 = 0))) := by
  refine T.m_Ratio_sign.pu sc_Ratio_sign (by decide) (by rintro _ ⟨d, rfl, _⟩; rfl) ?_
  rintro f cdv A' outer s H _ hr ⟨_, rfl, t, b, rfl⟩
  refine (show Sb A _ _ [some (.im (.rat t b))] _ from ?_)
  refine sb_ret (ev_sub (ev_intB T.b_int (ev_gt (ev_ot (t := t) (bt := b) (ev_v 0) T.fR) ev_int)) (ev_intB T.b_int (ev_lt (ev_ot (t := t) (bt := b) (ev_v 0) T.fR) ev_int))) (fun z h => ⟨_, rfl, _, h, ?_⟩)
  show _ ↔ t = 0
  by_cases h1 : 0 < t
  · simp [h1]; omega
  · by_cases h2 : t < 0
    · simp [h1, h2]; omega
    · simp [h1, h2]; omega
/-! ### + - * -/
theorem m_add : CalM P w K mg base A.R "__add__" 4 (Pu A (Q2 fun d e => (∃ t b, d = .rat t b) ∧ NumB 4000 d ∧ NumB 4000 e) (O2 fun d e z => z = mkRat ((tbD d).1 * (tbD e).2 + (tbD e).1 * (tbD d).2) ((tbD d).2 * (tbD e).2))) := by
  refine T.m_Ratio_add.pu sc_Ratio_add (by decide) (by rintro _ ⟨_, _, rfl, _⟩; rfl) ?_
  rintro f cdv A' outer s H _ hr ⟨_, e, rfl, ⟨t, b, rfl⟩, ⟨_, h1, h2, h3⟩, k0, k1, k2, k3⟩
  have nd := sc_Ratio_add.nd
  refine (show Sb A _ _ [some (.im (.rat t b)), some (.im e), none, none] _ from ?_)
  refine sb_asg (P := fun z => z = .tup [.int (tbD e).1, .int (tbD e).2]) (ev_c1 (c_told_pair T) hr (ev_v 1 rfl) k0 fun z h => h) (fun d h => ?_)
  subst h
  refine ⟨_, _, tg_two (tg_name 2) (tg_name 3), ?_⟩
  refine sb_ret (ev_R2 T hr (ev_add (ev_mul 4000 4000 (ev_ot (t := t) (bt := b) (ev_v 0) T.fR) (ev_v 3 rfl) h2 k3) (ev_mul 4000 4000 (ev_v 2 rfl) (ev_ob (t := t) (bt := b) (ev_v 0) T.fR) k2 h3)) (ev_mul 4000 4000 (ev_ob (t := t) (bt := b) (ev_v 0) T.fR) (ev_v 3 rfl) h3 k3) (Int.mul_pos h1 k1) (h3.mul k3)) (fun z h => ⟨_, _, rfl, h⟩)
theorem m_sub : CalM P w K mg base A.R "__sub__" 4 (Pu A (Q2 fun d e => (∃ t b, d = .rat t b) ∧ NumB 4000 d ∧ NumB 4000 e) (O2 fun d e z => z = mkRat ((tbD d).1 * (tbD e).2 - (tbD e).1 * (tbD d).2) ((tbD d).2 * (tbD e).2))) := by
  refine T.m_Ratio_sub.pu sc_Ratio_sub (by decide) (by rintro _ ⟨_, _, rfl, _⟩; rfl) ?_
  rintro f cdv A' outer s H _ hr ⟨_, e, rfl, ⟨t, b, rfl⟩, ⟨_, h1, h2, h3⟩, k0, k1, k2, k3⟩
  have nd := sc_Ratio_sub.nd
  refine (show Sb A _ _ [some (.im (.rat t b)), some (.im e), none, none] _ from ?_)
  refine sb_asg (P := fun z => z = .tup [.int (tbD e).1, .int (tbD e).2]) (ev_c1 (c_told_pair T) hr (ev_v 1 rfl) k0 fun z h => h) (fun d h => ?_)
  subst h
  refine ⟨_, _, tg_two (tg_name 2) (tg_name 3), ?_⟩
  refine sb_ret (ev_R2 T hr (ev_sub (ev_mul 4000 4000 (ev_ot (t := t) (bt := b) (ev_v 0) T.fR) (ev_v 3 rfl) h2 k3) (ev_mul 4000 4000 (ev_v 2 rfl) (ev_ob (t := t) (bt := b) (ev_v 0) T.fR) k2 h3)) (ev_mul 4000 4000 (ev_ob (t := t) (bt := b) (ev_v 0) T.fR) (ev_v 3 rfl) h3 k3) (Int.mul_pos h1 k1) (h3.mul k3)) (fun z h => ⟨_, _, rfl, h⟩)
theorem m_mul : CalM P w K mg base A.R "__mul__" 4 (Pu A (Q2 fun d e => (∃ t b, d = .rat t b) ∧ NumB 4000 d ∧ NumB 4000 e) (O2 fun d e z => z = mkRat ((tbD d).1 * (tbD e).1) ((tbD d).2 * (tbD e).2))) := by
  refine T.m_Ratio_mul.pu sc_Ratio_mul (by decide) (by rintro _ ⟨_, _, rfl, _⟩; rfl) ?_
  rintro f cdv A' outer s H _ hr ⟨_, e, rfl, ⟨t, b, rfl⟩, ⟨_, h1, h2, h3⟩, k0, k1, k2, k3⟩
  have nd := sc_Ratio_mul.nd
  refine (show Sb A _ _ [some (.im (.rat t b)), some (.im e), none, none] _ from ?_)
  refine sb_asg (P := fun z => z = .tup [.int (tbD e).1, .int (tbD e).2]) (ev_c1 (c_told_pair T) hr (ev_v 1 rfl) k0 fun z h => h) (fun d h => ?_)
  subst h
  refine ⟨_, _, tg_two (tg_name 2) (tg_name 3), ?_⟩
  refine sb_ret (ev_R2 T hr (ev_mul 4000 4000 (ev_ot (t := t) (bt := b) (ev_v 0) T.fR) (ev_v 2 rfl) h2 k2) (ev_mul 4000 4000 (ev_ob (t := t) (bt := b) (ev_v 0) T.fR) (ev_v 3 rfl) h3 k3) (Int.mul_pos h1 k1) (h3.mul k3)) (fun z h => ⟨_, _, rfl, h⟩)
theorem m_neg : CalM P w K mg base A.R "__neg__" 4 (Pu A (Q1 fun d => (∃ t b, d = .rat t b) ∧ NumB 4000 d) (O1 fun d z => z = mkRat (0 - (tbD d).1) (tbD d).2)) := by
  refine T.m_Ratio_neg.pu sc_Ratio_neg (by decide) (by rintro _ ⟨_, rfl, _⟩; rfl) ?_
  rintro f cdv A' outer s H _ hr ⟨_, rfl, ⟨t, b, rfl⟩, ⟨_, h1, h2, h3⟩⟩
  refine (show Sb A _ _ [some (.im (.rat t b))] _ from ?_)
  exact sb_ret (ev_R2 T hr (ev_sub ev_int (ev_ot (t := t) (bt := b) (ev_v 0) T.fR)) (ev_ob (t := t) (bt := b) (ev_v 0) T.fR) h1 (h3.mono (by decide))) (fun z h => ⟨_, rfl, h⟩)
end
end K64
/-! Texts of ratios; wholes. -/
namespace K64
open PySem L2
def absI (i : Int) : Int := if 0 ≤ i then i else 0 - i
def sgS (i : Int) : Str := if i < 0 then "-" else ""
def digS (i : Int) : Str := joinD Str.empty [sgS i, toString (absI i), ""]
def ratS (t b : Int) : Str := joinD Str.empty ["Ratio(", digS t, ", ", digS b, ")"]
theorem joinD_len : ∀ (ss : List Str) (acc : Str), (joinD acc ss).length = acc.length + lens ss
  | [], acc => rfl
  | s :: ss, acc => by
    show (joinD (acc ++ s) ss).length = acc.length + (s.length + lens ss)
    rw [joinD_len ss, PySem.strLen_append]
    omega
theorem absI_nat (i : Int) : absI i = (i.natAbs : Nat) := by unfold absI; split <;> omega
theorem absI_log {i : Int} (h : i.natAbs < 10 ^ 60) : (absI i).natAbs.log2 < 1920 := by
  rw [absI_nat, Int.natAbs_natCast]
  have : i.natAbs < 2 ^ 200 := Nat.lt_of_lt_of_le h (by decide)
  exact Nat.lt_of_le_of_lt (PySem.W.mg_log (k := 199) this) (by decide)
theorem digS_lens {i : Int} (h : i.natAbs < 10 ^ 60) : lens [sgS i, toString (absI i), ""] ≤ 1922 := by
  show (sgS i).length + ((Str.ofString (toString (absI i))).length + (0 + 0)) ≤ 1922
  have h1 : (Str.ofString (toString (absI i))).length ≤ 1921 := PyProof.Rows.int_text_len_1921 (absI_log h)
  have h2 : (sgS i).length ≤ 1 := by
    unfold sgS
    split
    · exact Nat.le_refl 1
    · exact Nat.zero_le 1
  omega
theorem digS_len {i : Int} (h : i.natAbs < 10 ^ 60) : (digS i).length ≤ 1922 := by
  unfold digS
  rw [joinD_len]
  have := digS_lens h
  show 0 + _ ≤ _
  omega
theorem sl_big : 4000000 ≤ sizeLine := by decide
theorem ratS_lens {t b : Int} (h : t.natAbs < 10 ^ 60) (k : b.natAbs < 10 ^ 60) : lens ["Ratio(", digS t, ", ", digS b, ")"] ≤ 4000 := by
  have h1 := digS_len h
  have h2 := digS_len k
  show 6 + ((digS t).length + (2 + ((digS b).length + (1 + 0)))) ≤ 4000
  omega
theorem ratS_len {t b : Int} (h : t.natAbs < 10 ^ 60) (k : b.natAbs < 10 ^ 60) : (ratS t b).length ≤ 4000 := by
  unfold ratS
  rw [joinD_len]
  have := ratS_lens h k
  show 0 + _ ≤ _
  omega
section
variable {P : Program} {w : World} {K : PySem.W.Frag} {mg : Str → Option Value} {base : Heap} {A : Ad} {N : Addr} (T : Txt K mg A N)
include T
theorem c_digits_of : Cal P w K mg base "digits_of" 1 (Pu A (Q1 fun d => ∃ i, d = .int i ∧ i.natAbs < 10 ^ 60) (O1 fun d z => ∃ i, d = .int i ∧ z = .str (digS i))) := by
  refine T.d_digits_of.pu sc_digits_of (by decide) (by rintro _ ⟨d, rfl, _⟩; rfl) ?_
  rintro f cdv A' outer s H _ hr ⟨_, rfl, i, rfl, hi⟩
  have nd := sc_digits_of.nd
  obtain ⟨tk, hP⟩ := T.gPart
  refine (show Sb A _ _ [some (.im (.int i)), none, none, none, none] _ from ?_)
  refine sb_par 1 2 (P1 := fun z => z = .int (absI i)) (ev_if (et_ge (i := i) (j := 0) (ev_v 0) ev_int) (fun h => (ev_v 0).imp fun d e => ?_) (fun h => (ev_sub ev_int (ev_v 0 rfl)).imp fun d e => ?_)) ev_str (fun d d' h1 h2 => ?_)
  · rw [e, absI, if_pos (of_decide_eq_true h)]
  · rw [e, absI, if_neg (of_decide_eq_false h)]
  subst h1
  subst h2
  refine sb_while (fun m Γ' => m = 0 ∧ Γ' = [some (.im (.int i)), some (.im (.int (absI i))), some (.im (.str "")), none, none]) 0 ⟨rfl, rfl⟩ ?_
  rintro _ _ ⟨rfl, rfl⟩
  refine ⟨false, (et_ge (i := absI i) (j := 10 ^ 60) (ev_v 1) (ev_gi hP)).imp fun z h => ?_, fun h => (nomatch h), fun _ => ?_⟩
  · rw [h, absI_nat]
    exact decide_eq_false (by
      have : ((i.natAbs : Nat) : Int) < ((10 ^ 60 : Nat) : Int) := Int.ofNat_lt.mpr hi
      have e : ((10 ^ 60 : Nat) : Int) = (10 : Int) ^ 60 := by decide
      omega)
  refine sb_set 4 (P := fun z => z = .str (sgS i)) (ev_if (et_lt (i := i) (j := 0) (ev_v 0) ev_int) (fun h => ev_str.imp fun d e => ?_) (fun h => ev_str.imp fun d e => ?_)) (fun d h => ?_)
  · rw [e, sgS, if_pos (of_decide_eq_true h)]
  · rw [e, sgS, if_neg (of_decide_eq_false h)]
  subst h
  have hL := digS_lens hi
  have l1 : (sgS i).length ≤ 1922 := by
    have : lens [sgS i, toString (absI i), ""] = (sgS i).length + ((Str.ofString (toString (absI i))).length + (0 + 0)) := rfl
    omega
  refine sb_ret (ev_join (.cons (ev_fmtS (ev_v 4) ?_) (.cons (ev_fmtI (ev_v 1) (absI_log hi)) (.cons (ev_fmtS (ev_v 2) ?_) .nil))) ?_) (fun z h => ⟨_, rfl, i, rfl, h⟩)
  · exact Nat.le_trans l1 (by decide)
  · exact Nat.zero_le _
  · exact Nat.le_trans hL (by decide)
theorem m_repr : CalM P w K mg base A.R "__repr__" 2 (Pu A (Q1 fun d => ∃ t b, d = .rat t b ∧ t.natAbs < 10 ^ 60 ∧ b.natAbs < 10 ^ 60) (O1 fun d z => z = .str (ratS (tbD d).1 (tbD d).2))) := by
  refine T.m_Ratio_repr.pu sc_Ratio_repr (by decide) (by rintro _ ⟨d, rfl, _⟩; rfl) ?_
  rintro f cdv A' outer s H _ hr ⟨_, rfl, t, b, rfl, ht, hb⟩
  have nd := sc_Ratio_repr.nd
  refine (show Sb A _ _ [some (.im (.rat t b))] _ from ?_)
  refine sb_ret (ev_join (.cons ev_str (.cons (ev_fmtS (s := digS t) ?_ ?_) (.cons ev_str (.cons (ev_fmtS (s := digS b) ?_ ?_) (.cons ev_str .nil))))) ?_) (fun z h => ⟨_, rfl, h⟩)
  · exact ev_call (c_digits_of T) hr (ea1 (ev_ot (t := t) (bt := b) (ev_v 0) T.fR)) fun ds ⟨d, h1, h2⟩ => by
      subst h1; subst h2
      exact ⟨⟨_, rfl, t, rfl, ht⟩, fun z ⟨_, g1, i, g2, g3⟩ => by cases g1; cases g2; exact g3⟩
  · exact Nat.le_trans (digS_len ht) (by decide)
  · exact ev_call (c_digits_of T) hr (ea1 (ev_ob (t := t) (bt := b) (ev_v 0) T.fR)) fun ds ⟨d, h1, h2⟩ => by
      subst h1; subst h2
      exact ⟨⟨_, rfl, b, rfl, hb⟩, fun z ⟨_, g1, i, g2, g3⟩ => by cases g1; cases g2; exact g3⟩
  · exact Nat.le_trans (digS_len hb) (by decide)
  · exact Nat.le_trans (ratS_lens ht hb) (by decide)
end
end K64
/-! Wholes; rows; tests of numbers. -/
namespace K64
open PySem L2
def QR (n : Nat) (d : Dat) : Prop := ∃ t b, d = .rat t b ∧ 0 < b ∧ b ∣ 4 ∧ Bd n t
theorem dvd4 {b : Int} (h0 : 0 < b) (h : b ∣ 4) : b ≤ 4 := Int.le_of_dvd (by decide) h
theorem bd_small {i : Int} (n : Nat) (h0 : 0 ≤ i) (h : i ≤ 4) (hn : 3 ≤ n) : Bd n i := by
  have : i.natAbs < 2 ^ 3 := by
    have : i.natAbs ≤ 4 := by omega
    exact Nat.lt_of_le_of_lt this (by decide)
  exact Nat.lt_of_lt_of_le this (Nat.pow_le_pow_right (by decide) hn)
theorem wk_seq {A : Ad} {X : Cx} {Γ : Sls} {tg iter : Expr} {d : Dat} {ds : List Dat} (h : Ev A X iter Γ (fun z => z = d)) (hd : itemsD d = some ds) : Wk A X tg iter Γ ds := by
  cases d with
  | lst es => cases hd; exact wk_list h
  | tup es => cases hd; exact wk_tup h
  | _ => cases hd
/-- bottoms made one -/
def wholeD (L : Nat) (r : Dat) : Int := (tbD r).1 * ((L : Int) / (tbD r).2)
section
variable {P : Program} {w : World} {K : PySem.W.Frag} {mg : Str → Option Value} {base : Heap} {A : Ad} {N : Addr} (T : Txt K mg A N)
include T
theorem c_wholes : Cal P w K mg base "wholes" 1 (Pu A (Q1 fun d => ∃ rs, d = .lst rs ∧ rs.length ≤ 100000 ∧ ∀ r ∈ rs, QR 4000 r) (O1 fun d z => ∃ rs, d = .lst rs ∧ ∃ L : Nat, 0 < L ∧ L ∣ 4 ∧ (∀ r ∈ rs, (tbD r).2 ∣ (L : Int)) ∧ z = .tup [.int (L : Nat), .lst (rs.map fun r => .int (wholeD L r))])) := by
  refine T.d_wholes.pu sc_wholes (by decide) (by rintro _ ⟨d, rfl, _⟩; rfl) ?_
  rintro f cdv A' outer s H _ hr ⟨_, rfl, rs, rfl, hl, hq⟩
  have nd := sc_wholes.nd
  refine (show Sb A _ _ [some (.im (.lst rs)), none, none] _ from ?_)
  refine sb_set 1 ev_int (fun d h => ?_)
  subst h
  refine sb_for (wk_list (ev_v 0 rfl)) (fun k Γ' => ∃ (L : Nat) (x : Option Sl), Γ' = [some (.im (.lst rs)), some (.im (.int (L : Nat))), x] ∧ 0 < L ∧ L ∣ 4 ∧ ∀ r ∈ rs.take k, (tbD r).2 ∣ (L : Int)) ⟨1, none, rfl, by decide, by decide, by simp⟩ ?_ ?_
  · rintro k d _ hd ⟨L, x, rfl, h1, h2, h3⟩
    obtain ⟨t, b, rfl, h0, hb4, hB⟩ := hq d (List.mem_of_getElem? hd)
    have hb := dvd4 h0 hb4
    have hL : L ≤ 4 := Nat.le_of_dvd (by decide) h2
    refine ⟨_, _, tg_name 2, ?_⟩
    refine sb_set 1 (ev_lcm (i := (L : Nat)) (j := b) T.gLcm (ev_v 1) (ev_ob (t := t) (bt := b) (ev_v 2) T.fR) (by rw [Int.natAbs_natCast]; exact Nat.lt_of_le_of_lt hL (by decide)) (Nat.lt_of_le_of_lt (show b.natAbs ≤ 4 by omega) (by decide))) (fun z hz => ?_)
    subst hz
    refine sb_nil ⟨Nat.lcm (L : Int).natAbs b.natAbs, some (.im (.rat t b)), rfl, ?_, ?_, ?_⟩
    · rw [Int.natAbs_natCast]
      exact Nat.lcm_pos h1 (by omega)
    · rw [Int.natAbs_natCast]
      exact Nat.lcm_dvd h2 (by rw [← Int.natAbs_dvd_natAbs] at hb4; exact hb4)
    · intro r hr'
      rw [Int.natAbs_natCast]
      rw [List.take_add_one, hd] at hr'
      rcases List.mem_append.mp hr' with hr' | hr'
      · exact Int.dvd_trans (h3 r hr') (Int.ofNat_dvd.mpr (Nat.dvd_lcm_left _ _))
      · have : r = .rat t b := by simpa using hr'
        subst this
        show b ∣ _
        have e : b = ((b.natAbs : Nat) : Int) := by omega
        rw [e]
        exact Int.ofNat_dvd.mpr (by rw [Int.natAbs_natCast]; exact Nat.dvd_lcm_right _ _)
  · rintro _ ⟨L, x, rfl, h1, h2, h3⟩
    rw [List.take_length] at h3
    have hL : L ≤ 4 := Nat.le_of_dvd (by decide) h2
    refine sb_drop 2 ?_
    refine sb_ret (ev_tup (ea2 (ev_v 1 rfl) (EvN.ev (P' := fun z => z = .lst (rs.map fun r => .int (wholeD L r))) (en_map [("ratio", 2)] (fun r => .int (wholeD L r)) (wk_list (ev_v 0 rfl)) (fun d hd => ?_) hl (own1 rfl)) (fun ds h => by rw [h]))) (fun ds h => by obtain ⟨d, d', rfl, _⟩ := h; show 2 ≤ sizeLine; decide)) fun z h => ?_
    · obtain ⟨t, b, rfl, h0, hb4, hB⟩ := hq d hd
      have hb := dvd4 h0 hb4
      have hq0 : 0 ≤ (L : Int) / b := Int.ediv_nonneg (by omega) (by omega)
      have hq1 : (L : Int) / b ≤ 4 := Int.le_trans (Int.ediv_le_self _ (by omega)) (by omega)
      refine ⟨_, [2], by decide, fun s H C cl fp => tg_name 2, fun s H C cl fp => ?_⟩
      exact ev_mul 4000 4000 (ev_ot (t := t) (bt := b) (ev_v 2) T.fR) (ev_fdiv 4000 (ev_v 1) (ev_ob (t := t) (bt := b) (ev_v 2) T.fR) h0 (bd_small 4000 (Int.le_of_lt h0) hb (by decide))) hB (bd_small 4000 hq0 hq1 (by decide))
    · obtain ⟨ds, ⟨d, d', rfl, rfl, rfl⟩, rfl⟩ := h
      exact ⟨_, rfl, rs, rfl, L, h1, h2, h3, rfl⟩
end
end K64
/-! Lists, item by item; rows and matrices as data. -/
namespace K64
open PySem L2
def Fa2 {α β : Type} (R : α → β → Prop) : List α → List β → Prop
  | [], m => m = []
  | a :: l, m => ∃ b r, m = b :: r ∧ R a b ∧ Fa2 R l r
section
variable {α β γ δ : Type} {R : α → β → Prop}
theorem Fa2.len : ∀ {l : List α} {m : List β}, Fa2 R l m → m.length = l.length
  | [], _, h => by cases h; rfl
  | _ :: _, _, ⟨b, r, h1, _, h3⟩ => by subst h1; exact congrArg (· + 1) h3.len
theorem Fa2.snoc {a : α} {b : β} (hab : R a b) : ∀ {l : List α} {m : List β}, Fa2 R l m → Fa2 R (l ++ [a]) (m ++ [b])
  | [], _, h => by cases h; exact ⟨b, [], rfl, hab, rfl⟩
  | _ :: _, _, ⟨c, r, h1, h2, h3⟩ => by subst h1; exact ⟨c, _, rfl, h2, Fa2.snoc hab h3⟩
theorem Fa2.left {a : α} : ∀ {l : List α} {m : List β}, Fa2 R l m → a ∈ l → ∃ b ∈ m, R a b
  | [], _, _, h => nomatch h
  | x :: l, _, ⟨b, r, h1, h2, h3⟩, h => by
    subst h1
    rcases List.mem_cons.mp h with e | e
    · subst e; exact ⟨b, .head _, h2⟩
    · obtain ⟨c, hc, q⟩ := Fa2.left h3 e
      exact ⟨c, .tail _ hc, q⟩
theorem Fa2.right {b : β} : ∀ {l : List α} {m : List β}, Fa2 R l m → b ∈ m → ∃ a ∈ l, R a b
  | [], _, h, h2 => by cases h; cases h2
  | x :: l, _, ⟨c, r, h1, h2, h3⟩, h => by
    subst h1
    rcases List.mem_cons.mp h with e | e
    · subst e; exact ⟨x, .head _, h2⟩
    · obtain ⟨y, hc, q⟩ := Fa2.right h3 e
      exact ⟨y, .tail _ hc, q⟩
theorem Fa2.at {a : α} : ∀ {l : List α} {m : List β} {i : Nat}, Fa2 R l m → l[i]? = some a → ∃ b, m[i]? = some b ∧ R a b
  | [], _, _, _, h => by simp at h
  | x :: l, _, 0, ⟨c, r, h1, h2, h3⟩, h => by subst h1; cases h; exact ⟨c, rfl, h2⟩
  | x :: l, _, i + 1, ⟨c, r, h1, h2, h3⟩, h => by subst h1; exact Fa2.at (i := i) h3 h
theorem Fa2.imp {S : α → β → Prop} : ∀ {l : List α} {m : List β}, Fa2 R l m → (∀ a b, a ∈ l → R a b → S a b) → Fa2 S l m
  | [], _, h, _ => h
  | _ :: _, _, ⟨c, r, h1, h2, h3⟩, k => ⟨c, r, h1, k _ _ (.head _) h2, Fa2.imp h3 fun a b ha => k a b (.tail _ ha)⟩
/-- the results all of one form -/
theorem Fa2.form {f : γ → α} {g : δ → β} {Q : γ → δ → Prop} : ∀ {L : List γ} {zs : List β}, Fa2 R (L.map f) zs → (∀ r z, r ∈ L → R (f r) z → ∃ r', z = g r' ∧ Q r r') → ∃ L', zs = L'.map g ∧ Fa2 Q L L'
  | [], _, h, _ => by cases h; exact ⟨[], rfl, rfl⟩
  | x :: l, _, ⟨c, r, h1, h2, h3⟩, k => by
    subst h1
    obtain ⟨r', e, q⟩ := k x c (.head _) h2
    obtain ⟨L', e2, q2⟩ := Fa2.form (L := l) h3 fun a b ha => k a b (.tail _ ha)
    exact ⟨r' :: L', by rw [e, e2]; rfl, r', L', rfl, q, q2⟩
theorem Fa2.mapR {g : α → β} : ∀ {l : List α}, (∀ a ∈ l, R a (g a)) → Fa2 R l (l.map g)
  | [], _ => rfl
  | a :: l, h => ⟨g a, _, rfl, h a (.head _), Fa2.mapR fun b hb => h b (.tail _ hb)⟩
theorem Fa2.eqMap {g : α → β} : ∀ {l : List α} {m : List β}, Fa2 (fun a b => b = g a) l m → m = l.map g
  | [], _, h => h
  | _ :: _, _, ⟨c, r, h1, h2, h3⟩ => by rw [h1, h2, Fa2.eqMap h3]; rfl
end
section
variable {A : Ad} {X : Cx} {Γ : Sls} {pos : Pos}
/-- [e for x in ds], e so to x -/
theorem el_rel {elt tg iter : Expr} {scope : Scope} (own : List (Str × Nat)) {ds : List Dat} (R : Dat → Dat → Prop) (hw : Wk A X tg iter Γ ds)
    (hs : ∀ d, d ∈ ds → ∃ Γ'' js, (∀ j ∈ js, j ∈ own.map (·.2)) ∧ (Blk X scope fun Y => Tg A Y tg d Γ Γ'' js) ∧ (Blk X scope fun Y => Ev A Y elt Γ'' (R d)))
    (hl : ds.length ≤ 100000) (hv : ∀ j ∈ own.map (·.2), Γ[j]? = some none) : EvL A X elt tg iter [] scope own Γ (fun z => Fa2 R ds z) :=
  el_lc own hw (fun k acc => Fa2 R (ds.take k) acc ∧ acc.length ≤ k) ⟨rfl, Nat.le_refl _⟩ (fun k d acc hd pv => by
    obtain ⟨Γ3, js, g1, g2, g3⟩ := hs d (List.mem_of_getElem? hd)
    refine ⟨Γ3, js, g1, g2, true, fun _ _ _ _ _ => ef_nil, fun _ => ⟨_, g3, fun e he => ⟨?_, ?_⟩⟩, fun z => nomatch z⟩
    · rw [List.take_add_one, hd]
      exact Fa2.snoc he pv.1
    · rw [List.length_append]
      exact Nat.add_le_add pv.2 (Nat.le_refl 1)) (fun acc pv => by rw [List.take_length] at pv; exact pv.1) hl (fun k acc pv => pv.2) hv
theorem en_rel {elt tg iter : Expr} {scope : Scope} (own : List (Str × Nat)) {ds : List Dat} (R : Dat → Dat → Prop) (hw : Wk A X tg iter Γ ds)
    (hs : ∀ d, d ∈ ds → ∃ Γ'' js, (∀ j ∈ js, j ∈ own.map (·.2)) ∧ (Blk X scope fun Y => Tg A Y tg d Γ Γ'' js) ∧ (Blk X scope fun Y => Ev A Y elt Γ'' (R d)))
    (hl : ds.length ≤ 100000) (hv : ∀ j ∈ own.map (·.2), Γ[j]? = some none) (hN : X.N.Nodup := by assumption) (ok : BlkOk X.N X.env.scope scope own := by exact blkOk_by rfl) (hc : X.calm = true := by rfl)
    (hf : ∀ x, foldedSetIterable iter X.env x = pure x := by intro _; rfl) : EvN A X (.ListComp elt [⟨tg, iter, [], 0⟩] scope pos) Γ (fun z => Fa2 R ds z) := (el_rel own R hw hs hl hv).en hN ok hc hf
end
/-! ### rows and matrices -/
def rowD (r : List Int) : Dat := .lst (r.map Dat.int)
def matD (M : List (List Int)) : Dat := .lst (M.map rowD)
theorem rowf_at {r : List Int} {j : Nat} (h : j < r.length) : r[j]? = some (rowf r j) := by
  unfold rowf
  rw [List.getD_eq_getElem?_getD, List.getElem?_eq_getElem h]
  rfl
theorem rowf_off {r : List Int} {j : Nat} (h : r.length ≤ j) : rowf r j = 0 := by
  unfold rowf
  rw [List.getD_eq_getElem?_getD, List.getElem?_eq_none h]
  rfl
theorem rowf_of {r : List Int} {j : Nat} {x : Int} (h : r[j]? = some x) : rowf r j = x := by
  unfold rowf
  rw [List.getD_eq_getElem?_getD, h]
  rfl
theorem rowD_at {r : List Int} {j : Nat} (h : j < r.length) : (r.map Dat.int)[j]? = some (.int (rowf r j)) := by
  rw [List.getElem?_map, rowf_at h]
  rfl
def RBd (b : Nat) (r : List Int) : Prop := ∀ x ∈ r, Bd b x
theorem RBd.at {b : Nat} {r : List Int} (h : RBd b r) (j : Nat) : Bd b (rowf r j) := by
  by_cases hj : j < r.length
  · exact h _ (List.mem_of_getElem? (rowf_at hj))
  · rw [rowf_off (by omega)]
    show (0 : Nat) < 2 ^ b
    exact Nat.two_pow_pos b
/-! ### one step of an elimination -/
theorem elim_step {n p k at' : Nat} {L L' : List (List Int)} {head : List Int} (hp : p < n) (l : Low p L) (hh : L[at']? = some head) (h0 : rowf head p ≠ 0) (h : Fa2 (Clr p head) (L.eraseIdx at') L') :
    cnt (Ker n L) p (k + 1) = cnt (Ker n L') (p + 1) k + 1 ∧ Low (p + 1) L' := by
  have hm := List.mem_of_getElem? hh
  have h2 : ∀ r' ∈ L', ∃ r ∈ L, Clr p head r r' := fun r' hr' => by
    obtain ⟨r, hr, c⟩ := h.right hr'
    exact ⟨r, List.mem_of_mem_eraseIdx hr, c⟩
  refine ⟨cnt_head hp l hm h0 (fun r hr => ?_) h2, l.clear hm h2⟩
  by_cases e : r ∈ L.eraseIdx at'
  · obtain ⟨r', hr', c⟩ := h.left e
    exact .inr ⟨r', hr', c⟩
  · left
    obtain ⟨i, hi⟩ := List.mem_iff_getElem?.mp hr
    by_cases c : i = at'
    · subst c
      rw [hh] at hi
      cases hi
      rfl
    · exfalso
      apply e
      rw [List.mem_eraseIdx_iff_getElem?]
      exact ⟨i, c, hi⟩
end K64
/-! Tests of numbers; rows; the rank of whole numbers. -/
namespace K64
open PySem L2
def areB (d : Dat) (n : Nat) : Bool := match itemsD d with
  | some es => decide (es.length = n) && es.all isNumB
  | none => false
def KS (Q : Dat → Prop) (d : Dat) : Prop := ∀ es, itemsD d = some es → es.length ≤ 100000 ∧ ∀ x ∈ es, Q x
theorem bls_map (es : List Dat) (f : Dat → Bool) : es.map (fun d => Dat.bl (f d)) = (es.map f).map Dat.bl := by rw [List.map_map]; rfl
theorem all_map (es : List Dat) (f : Dat → Bool) : (es.map f).all id = es.all f := by rw [List.all_map]; rfl
theorem cast_eq (m n : Nat) : decide ((m : Int) = (n : Int)) = decide (m = n) := decide_eq_decide.mpr Int.ofNat_inj
theorem list_items {d : Dat} (h : isListB d = true) : ∃ es, itemsD d = some es := by
  cases d <;> first | exact ⟨_, rfl⟩ | cases h
theorem items_len {d : Dat} {es : List Dat} (h : itemsD d = some es) : lenD d = some es.length := by
  cases d <;> first | (cases h; rfl) | cases h
theorem items_list {d : Dat} {es : List Dat} (h : itemsD d = some es) : isListB d = true := by
  cases d <;> first | rfl | cases h
theorem areB_not {d : Dat} {n : Nat} (h : isListB d = false) : areB d n = false := by
  cases d <;> first | rfl | cases h
section
variable {P : Program} {w : World} {K : PySem.W.Frag} {mg : Str → Option Value} {base : Heap} {A : Ad} {N : Addr} (T : Txt K mg A N)
include T
theorem c_are_numbers : Cal P w K mg base "are_numbers" 3 (Pu A (Q2 fun d e => Kl d ∧ KS Kd d ∧ ∃ n : Nat, e = .int n) (O2 fun d e z => ∃ n : Nat, e = .int n ∧ z = .bl (areB d n))) := by
  refine T.d_are_numbers.pu sc_are_numbers (by decide) (by rintro _ ⟨_, _, rfl, _⟩; rfl) ?_
  rintro f cdv A' outer s H _ hr ⟨d, _, rfl, hk, hks, n, rfl⟩
  have nd := sc_are_numbers.nd
  refine (show Sb A _ _ [some (.im d), some (.im (.int (n : Nat))), none] _ from ?_)
  refine sb_ret (P := fun z => z = .bl (areB d n)) ?_ (fun z h => ⟨_, _, rfl, n, rfl, h⟩)
  by_cases hl : isListB d = true
  · obtain ⟨es, he⟩ := list_items hl
    obtain ⟨h1, h2⟩ := hks es he
    refine (ev_and3 (k := true) (l := decide (es.length = n)) (m := es.all isNumB) (ev_c1 (c_is_list T) hr (ev_v 0 rfl) hk fun z h => by rw [h, hl]) (fun _ => (ev_eq (i := (es.length : Nat)) (j := (n : Nat)) (ev_len (n := es.length) T.b_len (ev_v 0 rfl) fun z h => ?_) (ev_v 1)).imp fun z h => by rw [h, cast_eq]) fun _ _ => ?_).imp fun z h => ?_
    · rw [h]
      exact items_len he
    · rw [← all_map]
      refine ev_all T.b_all (EvN.ev (en_map [("number", 2)] (fun d => .bl (isNumB d)) (wk_seq (ev_v 0 rfl) he) (fun x hx => ?_) h1 (own1 rfl)) fun ds h => by rw [h, bls_map])
      exact ⟨_, [2], by decide, fun s H C cl fp => tg_name 2, fun s H C cl fp => ev_c1 (c_is_number T) hr (ev_v 2 rfl) (h2 x hx) fun z h => h⟩
    · rw [h]
      unfold areB
      rw [he]
      rfl
  · have hl' : isListB d = false := Bool.eq_false_iff.mpr hl
    refine (ev_and3 (k := false) (l := false) (m := false) (ev_c1 (c_is_list T) hr (ev_v 0 rfl) hk fun z h => by rw [h, hl']) (fun h => nomatch h) (fun h => nomatch h)).imp fun z h => ?_
    rw [h, areB_not hl']
    rfl
theorem c_ratios_of : Cal P w K mg base "ratios_of" 5 (Pu A (Q1 fun d => KS IsNum d ∧ ∃ es, itemsD d = some es) (O1 fun d z => ∃ es, itemsD d = some es ∧ z = .lst (es.map ratD))) := by
  refine T.d_ratios_of.pu sc_ratios_of (by decide) (by rintro _ ⟨_, rfl, _⟩; rfl) ?_
  rintro f cdv A' outer s H _ hr ⟨d, rfl, hk, es, he⟩
  have nd := sc_ratios_of.nd
  obtain ⟨h1, h2⟩ := hk es he
  refine (show Sb A _ _ [some (.im d), none] _ from ?_)
  refine sb_ret (EvN.ev (P' := fun z => z = .lst (es.map ratD)) (en_map [("number", 1)] ratD (wk_seq (ev_v 0 rfl) he) (fun x hx => ?_) h1 (own1 rfl)) fun ds h => by rw [h]) (fun z h => ⟨_, rfl, es, he, h⟩)
  exact ⟨_, [1], by decide, fun s H C cl fp => tg_name 1, fun s H C cl fp => ev_c1 (c_ratio_of T) hr (ev_v 1 rfl) (h2 x hx) fun z h => h⟩
theorem c_plain_row (b : Nat) (hb : b ≤ 8000) : Cal P w K mg base "plain_row" 2 (Pu A (Q1 fun d => ∃ r, d = rowD r ∧ r.length ≤ 100000 ∧ RBd b r) (O1 fun d z => ∃ r r', d = rowD r ∧ z = rowD r' ∧ r'.length = r.length ∧ RBd b r' ∧ ∃ c : Int, c ≠ 0 ∧ ∀ j, c * rowf r' j = rowf r j)) := by
  refine T.d_plain_row.pu sc_plain_row (by decide) (by rintro _ ⟨_, rfl, _⟩; rfl) ?_
  rintro f cdv A' outer s H _ hr ⟨_, rfl, r, rfl, hl, hB⟩
  have nd := sc_plain_row.nd
  refine (show Sb A _ _ [some (.im (rowD r)), none, none] _ from ?_)
  refine sb_set 1 ev_int (fun d h => ?_)
  subst h
  refine sb_for (wk_list (ev_v 0 rfl)) (fun k Γ' => ∃ (c : Int) (x : Option Sl), Γ' = [some (.im (rowD r)), some (.im (.int c)), x] ∧ 0 ≤ c ∧ Bd b c ∧ ∀ y ∈ r.take k, c ∣ y) ⟨0, none, rfl, Int.le_refl 0, Nat.two_pow_pos b, by simp⟩ ?_ ?_
  · rintro k d _ hd ⟨c, x, rfl, h1, h2, h3⟩
    rw [List.getElem?_map] at hd
    obtain ⟨y, hy, rfl⟩ := Option.map_eq_some_iff.mp hd
    have take_eq : r.take (k + 1) = r.take k ++ [y] := by rw [List.take_add_one, hy]; rfl
    refine ⟨_, _, tg_name 2, ?_⟩
    refine sb_if (et_ne (i := y) (j := 0) (ev_v 2) ev_int) (fun hne => ?_) (fun he => ?_)
    · have hy0 : y ≠ 0 := fun z => by rw [z] at hne; cases hne
      refine sb_set 1 (P := fun z => z = .int (gcdI c y)) (ev_c2 (c_common_part T) hr (ev_v 1 rfl) (ev_v 2 rfl) ⟨c, y, rfl, rfl⟩ fun z ⟨i, j, h1, h2, h3⟩ => by cases h1; cases h2; exact h3) (fun z hz => ?_)
      subst hz
      refine sb_nil (sb_nil ⟨gcdI c y, some (.im (.int y)), rfl, ?_, ?_, ?_⟩)
      · unfold gcdI; omega
      · have hyB := hB y (List.mem_of_getElem? hy)
        unfold Bd gcdI
        rw [Int.natAbs_natCast]
        exact Nat.lt_of_le_of_lt (Nat.le_of_dvd (by omega) (Nat.gcd_dvd_right _ _)) hyB
      · intro u hu
        have g1 : gcdI c y ∣ c := by
          unfold gcdI
          rw [← Int.natAbs_dvd_natAbs, Int.natAbs_natCast]
          exact Nat.gcd_dvd_left _ _
        have g2 : gcdI c y ∣ y := by
          unfold gcdI
          rw [← Int.natAbs_dvd_natAbs, Int.natAbs_natCast]
          exact Nat.gcd_dvd_right _ _
        rw [take_eq] at hu
        rcases List.mem_append.mp hu with hu | hu
        · exact Int.dvd_trans g1 (h3 u hu)
        · have : u = y := by simpa using hu
          rw [this]; exact g2
    · have hy0 : y = 0 := by
        by_cases e : y = 0
        · exact e
        · simp [e] at he
      refine sb_nil (sb_nil ⟨c, some (.im (.int y)), rfl, h1, h2, ?_⟩)
      intro u hu
      rw [take_eq] at hu
      rcases List.mem_append.mp hu with hu | hu
      · exact h3 u hu
      · have : u = y := by simpa using hu
        rw [this, hy0]; exact Int.dvd_zero c
  · rintro _ ⟨c, x, rfl, h1, h2, h3⟩
    have h3' : ∀ y ∈ r, c ∣ y := by
      have e : (r.map Dat.int).length = r.length := List.length_map _
      rw [e, List.take_length] at h3
      exact h3
    refine sb_drop 2 ?_
    refine sb_ret (P := fun z => ∃ r', z = rowD r' ∧ r'.length = r.length ∧ RBd b r' ∧ ∃ c : Int, c ≠ 0 ∧ ∀ j, c * rowf r' j = rowf r j) (ev_if (et_gt (i := c) (j := 1) (ev_v 1) ev_int) (fun hc => ?_) (fun hc => ?_)) (fun z ⟨r', g1, g2⟩ => ⟨_, rfl, r, r', rfl, g1, g2⟩)
    · have hc1 : 1 < c := of_decide_eq_true hc
      refine EvN.ev (en_map [("number", 2)] (fun d => .int ((tbD d).1 / c)) (wk_list (ev_v 0 rfl)) (fun d hd => ?_) (by rw [List.length_map]; exact hl) (own1 rfl)) (fun ds h => ?_)
      · obtain ⟨y, hy, rfl⟩ := List.mem_map.mp hd
        exact ⟨_, [2], by decide, fun s H C cl fp => tg_name 2, fun s H C cl fp => ev_fdiv 8000 (i := y) (j := c) (ev_v 2) (ev_v 1) (by omega) (h2.mono hb)⟩
      · refine ⟨r.map (· / c), ?_, List.length_map _, ?_, c, by omega, ?_⟩
        · rw [h, List.map_map]
          unfold rowD
          rw [List.map_map]
          rfl
        · intro y hy
          obtain ⟨u, hu, rfl⟩ := List.mem_map.mp hy
          have := hB u hu
          unfold Bd at this ⊢
          obtain ⟨q, hq⟩ := h3' u hu
          have e : u / c = q := by rw [hq]; exact Int.mul_ediv_cancel_left q (by omega)
          rw [e]
          have e2 : u.natAbs = c.natAbs * q.natAbs := by rw [hq, Int.natAbs_mul]
          have : q.natAbs ≤ u.natAbs := by rw [e2]; exact Nat.le_mul_of_pos_left _ (by omega)
          omega
        · intro j
          by_cases hj : j < r.length
          · have e1 := rowf_at hj
            have e2 : rowf (r.map (· / c)) j = rowf r j / c := rowf_of (by rw [List.getElem?_map, e1]; rfl)
            rw [e2]
            exact Int.mul_ediv_cancel' (h3' _ (List.mem_of_getElem? e1))
          · rw [rowf_off (r := r.map (· / c)) (by rw [List.length_map]; omega), rowf_off (r := r) (by omega), Int.mul_zero]
    · exact (ev_v 0).imp fun z h => ⟨r, h, rfl, hB, 1, by decide, fun j => Int.one_mul _⟩
end
end K64
/-! The rank of whole numbers. -/
namespace K64
open PySem L2
theorem rowD_inj {r s : List Int} (h : rowD r = rowD s) : r = s := by
  unfold rowD at h
  injection h with h
  exact (List.map_inj_right (fun x y e => by injection e)).mp h
theorem matD_inj {M L : List (List Int)} (h : matD M = matD L) : M = L := by
  unfold matD at h
  injection h with h
  exact (List.map_inj_right (fun x y e => rowD_inj e)).mp h
theorem ev_atTP {A : Ad} {X : Cx} {Γ : Sls} {a b : Expr} {pos : Pos} {P0 P : Dat → Prop} {i : Int} (ha : Ev A X a Γ P0) (hb : Ev A X b Γ (fun z => z = .int i)) (h : ∀ z, P0 z → ∃ ds d, z = .tup ds ∧ atI ds i = some d ∧ P d) (hs : PlainIx b := by exact fun _ _ => rfl) : Ev A X (.Subscript a b pos) Γ P :=
  ev_two (pe_ix ix_tup pe_w pe_w hs) ha hb fun x y da db B H e1 e2 i1 i2 ex Q q => by
    obtain ⟨ds, d, rfl, hd, hP⟩ := h da e1
    subst e2
    obtain ⟨l, xs, rfl, h1, j1⟩ := i1
    cases i2
    unfold atI at hd
    obtain ⟨k, hk, hd⟩ := Option.bind_eq_some_iff.mp hd
    obtain ⟨v, hv, iv⟩ := j1.at hd
    refine ⟨l, xs, i, v, rfl, rfl, SqT.of (ex _ _ h1), ?_, q v B H d hP (Stp.refl0 ex) iv⟩
    unfold atI
    rw [← j1.len, hk]
    exact hv
/-- a row made whole -/
def WhR (row z : Dat) : Prop := ∃ es, itemsD row = some es ∧ ∃ L : Nat, 0 < L ∧ L ∣ 4 ∧ (∀ e ∈ es, (tbD (ratD e)).2 ∣ (L : Int)) ∧ z = rowD (es.map fun e => wholeD L (ratD e))
def NumQ (n : Nat) (d : Dat) : Prop := IsNum d ∧ QR n (ratD d)
/-- head's place taken out of a row -/
def combR (hp rp : Int) : List Int → List Int → List Int
  | a :: r, b :: h => (hp * a - rp * b) :: combR hp rp r h
  | _, _ => []
theorem combR_len (hp rp : Int) : ∀ {r h : List Int}, r.length = h.length → (combR hp rp r h).length = r.length
  | [], [], _ => rfl
  | _ :: r, _ :: h, e => congrArg (· + 1) (combR_len hp rp (r := r) (h := h) (Nat.succ.inj e))
theorem combR_at (hp rp : Int) : ∀ {r h : List Int}, r.length = h.length → ∀ j, rowf (combR hp rp r h) j = hp * rowf r j - rp * rowf h j
  | [], [], _, j => by
    show rowf [] j = hp * rowf [] j - rp * rowf [] j
    have e : rowf [] j = 0 := rowf_off (Nat.zero_le _)
    rw [e, Int.mul_zero, Int.mul_zero]; rfl
  | _ :: r, _ :: h, e, 0 => rfl
  | _ :: r, _ :: h, e, j + 1 => combR_at hp rp (r := r) (h := h) (Nat.succ.inj e) j
theorem combR_bd {hp rp : Int} {b : Nat} (h1 : Bd b hp) (h2 : Bd b rp) : ∀ {r h : List Int}, RBd b r → RBd b h → RBd (2 * b + 1) (combR hp rp r h)
  | [], _, _, _, x, hx => by cases hx
  | _ :: _, [], _, _, x, hx => by cases hx
  | a :: r, c :: h, hr, hh, x, hx => by
    rcases List.mem_cons.mp hx with e | e
    · subst e
      have q1 := h1.mul (hr a (.head _))
      have q2 := h2.mul (hh c (.head _))
      have e : 2 * b + 1 = b + b + 1 := by omega
      rw [e]
      exact q1.sub q2
    · exact combR_bd h1 h2 (fun y hy => hr y (.tail _ hy)) (fun y hy => hh y (.tail _ hy)) x e
def combD (hp rp : Int) : Dat → Dat
  | .tup [.int a, .int b] => .int (hp * a - rp * b)
  | d => d
theorem combD_map (hp rp : Int) : ∀ (r h : List Int), (zipD (r.map Dat.int) (h.map Dat.int)).map (combD hp rp) = (combR hp rp r h).map Dat.int
  | [], h => by cases h <;> rfl
  | _ :: _, [] => rfl
  | a :: r, c :: h => by
    show combD hp rp (.tup [.int a, .int c]) :: (zipD (r.map Dat.int) (h.map Dat.int)).map (combD hp rp) = _
    rw [combD_map hp rp r h]
    rfl
theorem zip_ints {r h : List Int} {d : Dat} (hd : d ∈ zipD (r.map Dat.int) (h.map Dat.int)) : ∃ a c, a ∈ r ∧ c ∈ h ∧ d = .tup [.int a, .int c] := by
  obtain ⟨k, hk⟩ := List.mem_iff_getElem?.mp hd
  obtain ⟨x, y, hx, hy, rfl⟩ := zipD_at hk
  rw [List.getElem?_map] at hx hy
  obtain ⟨a, ha, rfl⟩ := Option.map_eq_some_iff.mp hx
  obtain ⟨c, hc, rfl⟩ := Option.map_eq_some_iff.mp hy
  exact ⟨a, c, List.mem_of_getElem? ha, List.mem_of_getElem? hc, rfl⟩
theorem zip_len {r h : List Int} (e : r.length = h.length) : (zipD (r.map Dat.int) (h.map Dat.int)).length = r.length := by
  rw [zipD_len, List.length_map, List.length_map]
  omega
def bits (b0 : Nat) : Nat → Nat
  | 0 => b0
  | k + 1 => 2 * bits b0 k + 1
theorem bits_eq (b0 : Nat) : ∀ k, bits b0 k + 1 = (b0 + 1) * 2 ^ k
  | 0 => by show b0 + 1 = _; omega
  | k + 1 => by
    have ih := bits_eq b0 k
    show 2 * bits b0 k + 1 + 1 = _
    rw [Nat.pow_succ, ← Nat.mul_assoc, ← ih]
    omega
theorem bits_le {k : Nat} (h : k ≤ 8) : bits 12 k ≤ 3400 := by
  have e := bits_eq 12 k
  have : 2 ^ k ≤ 2 ^ 8 := Nat.pow_le_pow_right (by decide) h
  have e2 : (2 : Nat) ^ 8 = 256 := by decide
  rw [e2] at this
  have : (12 + 1) * 2 ^ k ≤ (12 + 1) * 256 := Nat.mul_le_mul_left _ this
  omega
theorem take_drop_D {M : List (List Int)} {i : Nat} : (M.map rowD).take i ++ (M.map rowD).drop (i + 1) = (M.eraseIdx i).map rowD := by
  rw [List.eraseIdx_eq_take_drop_succ, List.map_append, List.map_take, List.map_drop]
section
variable {P : Program} {w : World} {K : PySem.W.Frag} {mg : Str → Option Value} {base : Heap} {A : Ad} {N : Addr} (T : Txt K mg A N)
include T
theorem c_ints_of : Cal P w K mg base "ints_of" 6 (Pu A (Q1 fun d => ∃ rs, d = .lst rs ∧ rs.length ≤ 100000 ∧ ∀ r ∈ rs, KS (NumQ 4000) r ∧ ∃ es, itemsD r = some es) (O1 fun d z => ∃ rs zs, d = .lst rs ∧ z = .lst zs ∧ Fa2 WhR rs zs)) := by
  refine T.d_ints_of.pu sc_ints_of (by decide) (by rintro _ ⟨_, rfl, _⟩; rfl) ?_
  rintro f cdv A' outer s H _ hr ⟨_, rfl, rs, rfl, hl, hq⟩
  have nd := sc_ints_of.nd
  refine (show Sb A _ _ [some (.im (.lst rs)), none] _ from ?_)
  refine sb_ret (P := fun z => ∃ zs, z = .lst zs ∧ Fa2 WhR rs zs) (EvN.ev (en_rel [("row", 1)] WhR (wk_list (ev_v 0 rfl)) (fun x hx => ?_) hl (own1 rfl)) fun ds h => ⟨ds, rfl, h⟩) (fun z ⟨zs, h1, h2⟩ => ⟨_, rfl, rs, zs, rfl, h1, h2⟩)
  obtain ⟨h1, es, he⟩ := hq x hx
  obtain ⟨g1, g2⟩ := h1 es he
  refine ⟨_, [1], by decide, fun s H C cl fp => tg_name 1, fun s H C cl fp => ?_⟩
  refine ev_atTP (i := 1) (ev_c1 (c_wholes T) hr (d1 := .lst (es.map ratD)) (ev_c1 (c_ratios_of T) hr (ev_v 1 rfl) ⟨fun fs hf => ?_, es, he⟩ fun z ⟨fs, q1, q2⟩ => ?_) ⟨_, rfl, by rw [List.length_map]; exact g1, fun r hr' => ?_⟩ fun z h => h) ev_int fun z ⟨rs', e1, L, k1, k2, k3, k4⟩ => ?_
  · rw [he] at hf
    cases hf
    exact ⟨g1, fun y hy => (g2 y hy).1⟩
  · rw [he] at q1
    cases q1
    exact q2
  · obtain ⟨y, hy, rfl⟩ := List.mem_map.mp hr'
    exact (g2 y hy).2
  · cases e1
    refine ⟨_, _, k4, rfl, es, he, L, k1, k2, fun e he => k3 _ (List.mem_map.mpr ⟨e, he, rfl⟩), ?_⟩
    unfold rowD
    rw [List.map_map, List.map_map]
    rfl
theorem c_cleared (b : Nat) (hb : 2 * b + 1 ≤ 8000) : Cal P w K mg base "cleared" 3 (Pu A (Q3 fun d e g => ∃ (r h : List Int) (p : Nat), d = rowD r ∧ e = rowD h ∧ g = .int p ∧ r.length = h.length ∧ p < r.length ∧ r.length ≤ 100000 ∧ RBd b r ∧ RBd b h ∧ rowf h p ≠ 0)
    (O3 fun d e g z => ∀ (r h : List Int) (p : Nat), d = rowD r → e = rowD h → g = .int p → ∃ r', z = rowD r' ∧ r'.length = r.length ∧ RBd (2 * b + 1) r' ∧ Clr p h r r')) := by
  refine T.d_cleared.pu sc_cleared (by decide) (by rintro _ ⟨_, _, _, rfl, _⟩; rfl) ?_
  rintro f cdv A' outer s H _ hr ⟨_, _, _, rfl, r, h, p, rfl, rfl, rfl, hl, hp, hl2, hB1, hB2, h0⟩
  have nd := sc_cleared.nd
  refine (show Sb A _ _ [some (.im (rowD r)), some (.im (rowD h)), some (.im (.int (p : Nat))), none, none] _ from ?_)
  have fin : ∀ z : Dat, (∃ r', z = rowD r' ∧ r'.length = r.length ∧ RBd (2 * b + 1) r' ∧ Clr p h r r') → (O3 fun d e g z => ∀ (r h : List Int) (p : Nat), d = rowD r → e = rowD h → g = .int p → ∃ r', z = rowD r' ∧ r'.length = r.length ∧ RBd (2 * b + 1) r' ∧ Clr p h r r') [rowD r, rowD h, .int p] z := fun z hz => ⟨_, _, _, rfl, fun r2 h2 p2 e1 e2 e3 => by
    have e1 := rowD_inj e1
    have e2 := rowD_inj e2
    have e3 : p = p2 := by injection e3 with e3; exact Int.ofNat_inj.mp e3
    subst e1 e2 e3
    exact hz⟩
  have ir : atI (r.map Dat.int) ((p : Nat) : Int) = some (.int (rowf r p)) := atI_n (rowD_at hp)
  have ih : atI (h.map Dat.int) ((p : Nat) : Int) = some (.int (rowf h p)) := atI_n (rowD_at (by omega))
  refine sb_if (et_eq (j := 0) (ev_atL (ev_v 0 rfl) (ev_v 2 rfl) ir) ev_int) (fun hk => ?_) (fun hk => ?_)
  · have hz : rowf r p = 0 := of_decide_eq_true hk
    refine sb_ret (ev_v 0) fun z hz' => fin z ⟨r, hz', rfl, fun x hx => (hB1 x hx).mono (by omega), rowf h p, h0, fun j => ?_⟩
    rw [hz, Int.zero_mul, Int.sub_zero]
  · refine sb_nil ?_
    refine sb_ret (ev_c1 (c_plain_row T (2 * b + 1) hb) hr (EvN.ev (P' := fun z => z = rowD (combR (rowf h p) (rowf r p) r h)) (en_map [("near", 3), ("far", 4)] (combD (rowf h p) (rowf r p)) (wk_zip (ev_v 0 rfl) (ev_v 1 rfl) T.b_zip) (fun d hd => ?_) (by rw [zip_len hl]; exact hl2) (own2 rfl rfl)) fun ds hds => by rw [hds, combD_map]; rfl) ⟨_, rfl, by rw [combR_len _ _ hl]; exact hl2, combR_bd (hB2.at p) (hB1.at p) hB1 hB2⟩ fun z hz => hz) fun z ⟨r1, r', e1, e2, e3, e4, c, c0, hc⟩ => fin z ?_
    · obtain ⟨a, c, ha, hc, rfl⟩ := zip_ints hd
      refine ⟨_, [3] ++ [4], by decide, fun s H C cl fp => tg_two (tg_name 3) (tg_name 4), fun s H C cl fp => ?_⟩
      exact ev_sub (ev_mul 8000 8000 (ev_atL (ev_v 1 rfl) (ev_v 2 rfl) ih) (ev_v 3 rfl) ((hB2.at p).mono (by omega)) ((hB1 a ha).mono (by omega))) (ev_mul 8000 8000 (ev_atL (ev_v 0 rfl) (ev_v 2 rfl) ir) (ev_v 4 rfl) ((hB1.at p).mono (by omega)) ((hB2 c hc).mono (by omega)))
    · have := rowD_inj e1
      subst this
      refine ⟨r', e2, by rw [e3, combR_len _ _ hl], e4, c, c0, fun j => ?_⟩
      rw [hc, combR_at _ _ hl]
theorem c_first_at : Cal P w K mg base "first_at" 1 (Pu A (Q2 fun d e => ∃ (M : List (List Int)) (p : Nat), d = matD M ∧ e = .int p ∧ ∀ r ∈ M, p < r.length)
    (O2 fun d e z => ∀ (M : List (List Int)) (p : Nat), d = matD M → e = .int p → ((∃ (i : Nat) (r : List Int), z = .int i ∧ M[i]? = some r ∧ rowf r p ≠ 0) ∨ (z = .int (-1) ∧ ∀ r ∈ M, rowf r p = 0)))) := by
  refine T.d_first_at.pu sc_first_at (by decide) (by rintro _ ⟨_, _, rfl, _⟩; rfl) ?_
  rintro f cdv A' outer s H _ hr ⟨_, _, rfl, M, p, rfl, rfl, hp⟩
  have nd := sc_first_at.nd
  refine (show Sb A _ _ [some (.im (matD M)), some (.im (.int (p : Nat))), none, none] _ from ?_)
  have fin : ∀ z : Dat, ((∃ (i : Nat) (r : List Int), z = .int i ∧ M[i]? = some r ∧ rowf r p ≠ 0) ∨ (z = .int (-1) ∧ ∀ r ∈ M, rowf r p = 0)) → (O2 fun d e z => ∀ (M : List (List Int)) (p : Nat), d = matD M → e = .int p → ((∃ (i : Nat) (r : List Int), z = .int i ∧ M[i]? = some r ∧ rowf r p ≠ 0) ∨ (z = .int (-1) ∧ ∀ r ∈ M, rowf r p = 0))) [matD M, .int p] z := fun z hz => ⟨_, _, rfl, fun M2 p2 e1 e2 => by
    have e1 := matD_inj e1
    have e2 : p = p2 := by injection e2 with e2; exact Int.ofNat_inj.mp e2
    subst e1 e2
    exact hz⟩
  refine sb_for (wk_enum (ds := M.map rowD) (ev_v 0 rfl) T.b_enumerate) (fun k Γ' => ∃ x y, Γ' = [some (.im (matD M)), some (.im (.int (p : Nat))), x, y] ∧ ∀ r ∈ M.take k, rowf r p = 0) ⟨none, none, rfl, by simp⟩ ?_ ?_
  · rintro k d _ hd ⟨x, y, rfl, h1⟩
    obtain ⟨u, hu, rfl⟩ := enumD_at hd
    rw [List.getElem?_map] at hu
    obtain ⟨r, hr', rfl⟩ := Option.map_eq_some_iff.mp hu
    have hlt := hp r (List.mem_of_getElem? hr')
    refine ⟨_, _, tg_two (tg_name 2) (tg_name 3), ?_⟩
    refine sb_if (et_ne (j := 0) (ev_atL (ds := r.map Dat.int) (ev_v 3) (ev_v 1 rfl) (atI_n (rowD_at hlt))) ev_int) (fun hk => ?_) (fun hk => ?_)
    · refine sb_ret (ev_v 2) fun z hz => fin z (.inl ⟨k, r, ?_, hr', ?_⟩)
      · rw [hz, Nat.zero_add]
      · intro e
        rw [e] at hk
        cases hk
    · refine sb_nil (sb_nil ⟨_, _, rfl, fun q hq => ?_⟩)
      rw [List.take_add_one, hr'] at hq
      rcases List.mem_append.mp hq with hq | hq
      · exact h1 q hq
      · have : q = r := by simpa using hq
        rw [this]
        by_cases e : rowf r p = 0
        · exact e
        · simp [e] at hk
  · rintro _ ⟨x, y, rfl, h1⟩
    rw [enumD_len, List.length_map, List.take_length] at h1
    exact sb_ret (ev_neg ev_int) fun z hz => fin z (.inr ⟨hz, h1⟩)
end
end K64
/-! int_rank. -/
namespace K64
open PySem L2
theorem rng_item {n k : Nat} {d : Dat} (h : (rng 0 ((n : Nat) : Int).toNat)[k]? = some d) : k < n ∧ d = .int ((k : Nat) : Int) := by
  rw [Int.toNat_natCast] at h
  obtain ⟨h1, h2⟩ := rng_at h
  exact ⟨h1, by rw [h2, Int.zero_add]⟩
theorem cut2 {M : List (List Int)} {i : Nat} (h : i < M.length) : cutD (M.map rowD) none (some ((i : Nat) : Int)) ++ cutD (M.map rowD) (some (((i : Nat) : Int) + 1)) none = (M.eraseIdx i).map rowD := by
  have e : ((i : Nat) : Int) + 1 = ((i + 1 : Nat) : Int) := by omega
  rw [e, cut_to (by rw [List.length_map]; omega), cut_from (by rw [List.length_map]; omega), take_drop_D]
theorem cut_lens {ds : List Dat} (a b : Option Int) : (cutD ds a b).length ≤ ds.length := by
  unfold cutD
  rw [List.length_take, List.length_drop]
  omega
section
variable {P : Program} {w : World} {K : PySem.W.Frag} {mg : Str → Option Value} {base : Heap} {A : Ad} {N : Addr} (T : Txt K mg A N)
include T
theorem c_int_rank : Cal P w K mg base "int_rank" 4 (Pu A (Q1 fun d => ∃ (M : List (List Int)) (n : Nat), d = matD M ∧ M.length ≤ 1000 ∧ n ≤ 8 ∧ ∀ r ∈ M, r.length = n ∧ RBd 12 r)
    (O1 fun d z => ∀ (M : List (List Int)) (n : Nat), d = matD M → (∀ r ∈ M, r.length = n) → z = .int (rk n (Ker n M) : Nat))) := by
  refine T.d_int_rank.pu sc_int_rank (by decide) (by rintro _ ⟨_, rfl, _⟩; rfl) ?_
  rintro f cdv A' outer s H _ hr ⟨_, rfl, M, n, rfl, hM, hn, hq⟩
  have nd := sc_int_rank.nd
  refine (show Sb A _ _ [some (.im (matD M)), none, none, none, none, none, none] _ from ?_)
  have fin : ∀ z : Dat, z = .int (rk n (Ker n M) : Nat) → (O1 fun d z => ∀ (M : List (List Int)) (n : Nat), d = matD M → (∀ r ∈ M, r.length = n) → z = .int (rk n (Ker n M) : Nat)) [matD M] z := fun z hz => ⟨_, rfl, fun M2 n2 e1 e2 => by
    have e1 := matD_inj e1
    subst e1
    cases M with
    | nil => rw [hz, rk_nil, rk_nil]
    | cons r M =>
      have q1 := (hq r (.head _)).1
      have q2 := e2 r (.head _)
      rw [q1] at q2
      subst q2
      exact hz⟩
  refine sb_par 1 2 (ev_v 0 rfl) (ev_int (i := 0)) (fun d d' h1 h2 => ?_)
  subst h1 h2
  -- how many places are walked
  have start : ∃ m : Nat, (m = n ∨ (m = 0 ∧ M = [])) ∧ (M ≠ [] → m = n) ∧ (M = [] → m = 0) := by
    by_cases e : M = []
    · exact ⟨0, .inr ⟨rfl, e⟩, fun z => absurd e z, fun _ => rfl⟩
    · exact ⟨n, .inl rfl, fun _ => rfl, fun z => absurd z e⟩
  obtain ⟨m, hm, m1, m2⟩ := start
  refine sb_for (ds := rng 0 ((m : Nat) : Int).toNat) (wk_range1 (ev_if (k := !(M.map rowD).isEmpty) (et_neNil hr (ev_v 0 rfl)) (fun hk => ?_) (fun hk => ?_)) (by omega) (by omega) T.b_range)
    (fun p Γ' => ∃ (L : List (List Int)) (c : Nat) (x y z : Option Sl), Γ' = [some (.im (matD M)), some (.im (matD L)), some (.im (.int (c : Nat))), x, y, z, none] ∧ (∀ r ∈ L, r.length = n ∧ RBd (bits 12 p) r) ∧ L.length ≤ M.length ∧ Low p L ∧ (p ≤ n → c + cnt (Ker n L) p (n - p) = rk n (Ker n M)))
    ⟨M, 0, none, none, none, rfl, hq, Nat.le_refl _, fun r _ j hj => absurd hj (Nat.not_lt_zero j), fun _ => by rw [Nat.zero_add]; rfl⟩ ?_ ?_
  · have hne : M ≠ [] := fun e => by rw [e] at hk; cases hk
    rw [m1 hne]
    obtain ⟨r, M', rfl⟩ := List.exists_cons_of_ne_nil hne
    exact ev_len (n := n) T.b_len (ev_atL (ev_v 0 rfl) ev_int (d := rowD r) (show atI ((r :: M').map rowD) ((0 : Nat) : Int) = _ from atI_n rfl)) fun z hz => by rw [hz]; show some (r.map Dat.int).length = _; rw [List.length_map, (hq r (.head _)).1]
  · have he : M = [] := by
      cases M with
      | nil => rfl
      | cons r M => cases hk
    rw [m2 he]
    exact ev_int
  · rintro p d _ hd ⟨L, c, x, y, z, rfl, h1, h2, h3, h4⟩
    obtain ⟨hp, rfl⟩ := rng_item hd
    have hpn : p < n := by
      rcases hm with e | ⟨e, _⟩ <;> omega
    have hb : 2 * bits 12 p + 1 ≤ 8000 := by
      have := bits_le (k := p) (by omega)
      omega
    have hcnt : c + cnt (Ker n L) p ((n - (p + 1)) + 1) = rk n (Ker n M) := by
      have := h4 (by omega)
      have e : n - (p + 1) + 1 = n - p := by omega
      rw [e]; exact this
    refine ⟨_, _, tg_name 3, ?_⟩
    refine sb_set 4 (P := fun z => (∃ (i : Nat) (r : List Int), z = .int i ∧ L[i]? = some r ∧ rowf r p ≠ 0) ∨ (z = .int (-1) ∧ ∀ r ∈ L, rowf r p = 0)) (ev_c2 (c_first_at T) hr (d1 := matD L) (d2 := .int ((p : Nat) : Int)) (ev_v 1) (ev_v 3) ⟨L, p, rfl, rfl, fun r hr' => by rw [(h1 r hr').1]; exact hpn⟩ fun z hz => hz L p rfl rfl) (fun d hd => ?_)
    rcases hd with ⟨i, r, rfl, hi, h0⟩ | ⟨rfl, h0⟩
    · have hlt := (List.getElem?_eq_some_iff.mp hi).1
      refine sb_if (k := true) ((et_ge (i := ((i : Nat) : Int)) (j := 0) (ev_v 4) ev_int).imp fun z hz => by rw [hz]; exact decide_eq_true (by omega)) (fun _ => ?_) (fun h => nomatch h)
      refine sb_set 5 (P := fun z => z = rowD r) (ev_atL (ds := L.map rowD) (i := ((i : Nat) : Int)) (ev_v 1) (ev_v 4) (atI_n (by rw [List.getElem?_map, hi]; rfl))) (fun d hd => ?_)
      subst hd
      refine sb_setL 1 (el_rel [("row", 6)] (fun a b => ∃ q, a = rowD q ∧ q.length = n ∧ ∃ q', b = rowD q' ∧ q'.length = q.length ∧ RBd (bits 12 (p + 1)) q' ∧ Clr p r q q') (wk_list (ds := (L.eraseIdx i).map rowD) (EvN.ev (en_cat (ds := cutD (L.map rowD) none (some ((i : Nat) : Int))) (es' := cutD (L.map rowD) (some (((i : Nat) : Int) + 1)) none)
          (EvN.ev (en_slice (ds := L.map rowD) (ev_v 1) eo_none (eo_some (i := ((i : Nat) : Int)) (ev_v 4))) fun ds hds => by rw [hds]) (EvN.ev (en_slice (ds := L.map rowD) (ev_v 1) (eo_some (ev_add (i := ((i : Nat) : Int)) (ev_v 4) ev_int)) eo_none) fun ds hds => by rw [hds]) ?_) fun ds hds => by rw [hds, cut2 hlt])) (fun d hd => ?_) ?_ (own1 rfl)) (fun zs hz => ?_)
      · have a1 := cut_lens (ds := L.map rowD) none (some ((i : Nat) : Int))
        have a2 := cut_lens (ds := L.map rowD) (some (((i : Nat) : Int) + 1)) none
        rw [List.length_map] at a1 a2
        exact Nat.le_trans (show _ ≤ 2000 by omega) (by decide)
      · obtain ⟨q, hq', rfl⟩ := List.mem_map.mp hd
        obtain ⟨q1, q2⟩ := h1 q (List.mem_of_mem_eraseIdx hq')
        have hrr := h1 r (List.mem_of_getElem? hi)
        refine ⟨_, [6], by decide, fun s H C cl fp => tg_name 6, fun s H C cl fp => ?_⟩
        exact ev_c3 (c_cleared T (bits 12 p) hb) hr (d1 := rowD q) (d2 := rowD r) (d3 := .int ((p : Nat) : Int)) (ev_v 6) (ev_v 5) (ev_v 3) ⟨q, r, p, rfl, rfl, rfl, by rw [q1, hrr.1], by rw [q1]; exact hpn, by rw [q1]; omega, q2, hrr.2, h0⟩ fun z hz => ⟨q, rfl, q1, hz q r p rfl rfl rfl⟩
      · rw [List.length_map]
        exact Nat.le_trans (List.length_eraseIdx_le L i) (by omega)
      · obtain ⟨L', e1, hf⟩ := Fa2.form (f := rowD) (g := rowD) (Q := fun a b => Clr p r a b ∧ b.length = n ∧ RBd (bits 12 (p + 1)) b) hz fun a b _ ⟨q, q1, q2, q', q3, q4, q5, q6⟩ => by
          have := rowD_inj q1
          subst this
          exact ⟨q', q3, q6, by rw [q4, q2], q5⟩
        subst e1
        refine sb_freeze 1 (ds := L'.map rowD) (k := ?_)
        refine sb_set 2 (ev_add (i := ((c : Nat) : Int)) (ev_v 2) ev_int) (fun d hd => ?_)
        subst hd
        obtain ⟨s1, s2⟩ := elim_step (k := n - (p + 1)) hpn h3 hi h0 (hf.imp fun a b _ h => h.1)
        refine sb_nil (sb_nil ⟨L', c + 1, _, _, _, rfl, fun q hq' => ?_, ?_, s2, fun _ => ?_⟩)
        · obtain ⟨_, _, g⟩ := hf.right hq'
          exact g.2
        · rw [hf.len]
          exact Nat.le_trans (List.length_eraseIdx_le L i) h2
        · rw [s1] at hcnt
          omega
    · refine sb_if (k := false) ((et_ge (i := -1) (j := 0) (ev_v 4) ev_int).imp fun z hz => by rw [hz]; rfl) (fun h => nomatch h) (fun _ => ?_)
      refine sb_nil (sb_nil ⟨L, c, _, _, _, rfl, fun q hq' => ⟨(h1 q hq').1, fun x hx => ((h1 q hq').2 x hx).mono ?_⟩, h2, h3.next h0, fun _ => ?_⟩)
      · show bits 12 p ≤ 2 * bits 12 p + 1
        omega
      · rw [cnt_skip hpn h0] at hcnt
        exact hcnt
  · rintro _ ⟨L, c, x, y, z, rfl, h1, h2, h3, h4⟩
    rw [rng_len, Int.toNat_natCast] at h4
    refine sb_ret (ev_v 2) fun z hz => fin z ?_
    rw [hz]
    rcases hm with e | ⟨e1, e2⟩
    · have := h4 (by omega)
      rw [e, Nat.sub_self] at this
      have e0 : cnt (Ker n L) n 0 = 0 := rfl
      rw [e0, Nat.add_zero] at this
      rw [this]
    · have := h4 (by omega)
      subst e2
      rw [rk_nil] at this
      have : c = 0 := by omega
      rw [this, rk_nil]
end
end K64
/-! Pairs made. -/
namespace K64
open PySem L2
/-! ### rules -/
section
variable {A : Ad} {X : Cx} {Γ : Sls} {pos p : Pos} {x : Str} {a b c e : Expr} {k j : Nat}
theorem isf_at {B : Hp} {f : Str} {d : Dat} : ∀ {fs : List (Str × Dat)} {gs : List (Str × V)}, Isf A B fs gs → fs.lookup f = some d → ∃ v, gs.lookup f = some v ∧ Is A B d v
  | [], _, _, h => by cases h
  | (g, x) :: r, _, ⟨u, s, h1, h2, h3⟩, h => by
    subst h1
    by_cases c : f == g
    · rw [List.lookup_cons, c] at h
      cases h
      exact ⟨u, by rw [List.lookup_cons, c], h2⟩
    · have c' : (f == g) = false := Bool.eq_false_iff.mpr c
      rw [List.lookup_cons, c'] at h
      obtain ⟨v, q1, q2⟩ := isf_at h3 h
      exact ⟨v, by rw [List.lookup_cons, c']; exact q1, q2⟩
/-- self.f, self under way in slot 0 -/
theorem ev_self {C : Addr} {f : Str} {pn : Pos} {fs : List (Str × Dat)} {d : Dat} (hc : Cls X.K C) (n : NoAttr X.K C f) (hΓ : Γ[0]? = some (some (.self C fs)) := by rfl) (hl : fs.lookup f = some d) (pe : PE X (.Name x pn) (tVar 0) := by exact pv 0)
    (hb : attributeBase (.Name x pn) f X.env (eval (.Name x pn) X.env) = eval (.Name x pn) X.env := by rfl) : Ev A X (.Attribute (.Name x pn) f pos) Γ (fun z => z = d) :=
  ev_k (pe_fld pe hb) fun F σ B H R Q q => by
    obtain ⟨u, e1, p, dx, gs, rfl, hm, hp, hg⟩ := R.sl 0 _ hΓ
    obtain ⟨v, h1, h2⟩ := isf_at hg hl
    exact ⟨_, e1, p, C, dx, gs, v, rfl, hp, hc, n, h1, q v B H d rfl (Stp.refl R.sub R.mB) R h2⟩
theorem ev_atS {ds : List Dat} {d0 : Dat} {i : Int} {d : Dat} (ha : Ev A X a Γ (fun z => z = d0)) (hd : itemsD d0 = some ds) (hb : Ev A X b Γ (fun z => z = .int i)) (h : atI ds i = some d) (hs : PlainIx b := by exact fun _ _ => rfl) : Ev A X (.Subscript a b pos) Γ (fun z => z = d) := by
  cases d0 with
  | lst es => cases hd; exact ev_atL ha hb h hs
  | tup es => cases hd; exact ev_atT ha hb h hs
  | _ => cases hd
theorem ev_c1P {P0 P : Dat → Prop} {Pr : Dat → Prop} {R : Dat → Dat → Prop} (C : Cal X.prog X.w X.K X.mg X.base x k (Pu A (Q1 Pr) (O1 R))) (hr : Room j X.A) (ha : Ev A X a Γ P0) (h : ∀ d, P0 d → Pr d ∧ ∀ z, R d z → P z) (hk : k ≤ j := by decide) (hg : Gl X x := by rfl)
    (hdb : (x == ("__debug__" : Str)) = false := by decide) (h1 : starEach [a] X.env = (false, eval a X.env) :: starEach [] X.env := by rfl) (hpl : (backTo pos (starEach [] X.env)).any (·.1) = false := by rfl) : Ev A X (.Call (.Name x p) [a] [] pos) Γ P :=
  ev_call C hr (ea1 ha h1) (fun ds ⟨d, h1, h2⟩ => by subst h1; exact ⟨⟨d, rfl, (h d h2).1⟩, fun z ⟨d', g1, g2⟩ => by cases g1; exact (h d h2).2 z g2⟩) hk hg hdb h1 hpl
theorem ev_tupleP {P0 P : Dat → Prop} {pn : Pos} (hm : X.mg "tuple" = none) (ha : Ev A X a Γ P0) (h : ∀ d, P0 d → ∃ ds, d = .lst ds ∧ P (.tup ds)) (hg : Gl X "tuple" := by rfl) (h1 : starEach [a] X.env = (false, eval a X.env) :: starEach [] X.env := by rfl) (hpl : (backTo pos (starEach [] X.env)).any (·.1) = false := by rfl) :
    Ev A X (.Call (.Name "tuple" pn) [a] [] pos) Γ P := ev_bt call_tuple_of hm (ea1 ha h1) (fun xs es B H hp hi ex Q q => by
  obtain ⟨d', rfl, pd⟩ := hp
  obtain ⟨ds, rfl, hP⟩ := h d' pd
  obtain ⟨v, rfl, iv⟩ := hi.one
  obtain ⟨l, xs, rfl, h2, j2⟩ := iv
  exact ⟨l, xs, rfl, .inl ⟨SqL.of (ex _ _ h2), fun p hp => q _ _ _ _ hP (Stp.new ex hp) ⟨p, xs, rfl, upd_same, j2.mono (Ex.new (ex.back hp))⟩⟩⟩) (by decide +kernel) hg (by decide) (by decide) h1 hpl
theorem et_vA {k : Bool} (h : Ev A X a Γ (fun z => z = .bl k)) (he : ∀ whole, isTrue a X.env whole = (do let v ← whole; standAt a.pos; holding [v] (truthy v)) := by intro _; rfl) : EvT A X a Γ (fun z => z = k) := et_v h he
end
theorem atI0 {ds : List Dat} {d : Dat} (h : ds[0]? = some d) : atI ds 0 = some d := show atI ds ((0 : Nat) : Int) = _ from atI_n h
theorem atI1 {ds : List Dat} {d : Dat} (h : ds[1]? = some d) : atI ds 1 = some d := show atI ds ((1 : Nat) : Int) = _ from atI_n h
/-! ### given pairs -/
def Prs1 := List Int × List Int
def RowOf (r : List Int) (a : Dat) : Prop := ∃ es, itemsD a = some es ∧ Fa2 (fun i e => e = .int i ∨ e = .rat i 1) r es
def PairOf (r : List Int × List Int) (p : Dat) : Prop := ∃ a b, itemsD p = some [a, b] ∧ RowOf r.1 a ∧ RowOf r.2 b
def ratRow (r : List Int) : Dat := .lst (r.map fun i => .rat i 1)
def pairQ (r : List Int × List Int) : Dat := .tup [ratRow r.1, ratRow r.2]
theorem rowOf_num {r : List Int} {es : List Dat} (h : Fa2 (fun i e => e = .int i ∨ e = .rat i 1) r es) : ∀ e ∈ es, IsNum e ∧ Kd e ∧ isNumB e = true := fun e he => by
  obtain ⟨i, _, h | h⟩ := h.right he <;> subst h <;> exact ⟨trivial, trivial, rfl⟩
theorem rowOf_rat {r : List Int} {es : List Dat} (h : Fa2 (fun i e => e = .int i ∨ e = .rat i 1) r es) : es.map ratD = r.map fun i => .rat i 1 := by
  induction r generalizing es with
  | nil => cases h; rfl
  | cons i r ih =>
    obtain ⟨e, es', rfl, h1, h2⟩ := h
    rw [List.map_cons, List.map_cons, ih h2]
    rcases h1 with h1 | h1 <;> subst h1 <;> rfl
theorem rowOf_kl {r : List Int} {a : Dat} (h : RowOf r a) : Kl a := by
  obtain ⟨es, h1, _⟩ := h
  cases a <;> first | trivial | cases h1
theorem items_kl {a : Dat} {es : List Dat} (h : itemsD a = some es) : Kl a := by
  cases a <;> first | trivial | cases h
theorem rowOf_are {r : List Int} {a : Dat} {n : Nat} (h : RowOf r a) (hn : r.length = n) : areB a n = true := by
  obtain ⟨es, h1, h2⟩ := h
  unfold areB
  rw [h1]
  show (decide (es.length = n) && es.all isNumB) = true
  rw [decide_eq_true (by rw [h2.len, hn]), Bool.true_and]
  exact List.all_eq_true.mpr fun e he => (rowOf_num h2 e he).2.2
theorem rowOf_ks {r : List Int} {a : Dat} {Q : Dat → Prop} (h : RowOf r a) (hl : r.length ≤ 100000) (hq : ∀ e, (∃ i, i ∈ r ∧ (e = .int i ∨ e = .rat i 1)) → Q e) : KS Q a := fun es he => by
  obtain ⟨es', h1, h2⟩ := h
  rw [he] at h1
  cases h1
  exact ⟨by rw [h2.len]; exact hl, fun x hx => by
    obtain ⟨i, hi, q⟩ := h2.right hx
    exact hq x ⟨i, hi, q⟩⟩
theorem rowOf_self (r : List Int) : RowOf r (ratRow r) := ⟨_, rfl, Fa2.mapR fun a _ => .inr rfl⟩
/-- a row times a number above 0 -/
def Sc (r r' : List Int) : Prop := r'.length = r.length ∧ ∃ c : Int, 0 < c ∧ c ≤ 4 ∧ ∀ j, rowf r' j = c * rowf r j
def IntsOf (r : List Int × List Int) (z : Dat) : Prop := ∃ a b, z = .tup [rowD a, rowD b] ∧ Sc r.1 a ∧ Sc r.2 b
structure OwnOk (n : Nat) (own : Own) : Prop where
  n8 : n ≤ 6
  l8 : own.length ≤ 5
  ok : ∀ r ∈ own, (r.1.length = n ∧ RBd 3 r.1) ∧ r.2.length = n ∧ RBd 3 r.2
def PrsOf (n : Nat) (own : Own) (d : Dat) : Prop := ∃ zs, d = .prs (.lst (own.map pairQ)) (.int (n : Nat)) (.lst zs) ∧ Fa2 IntsOf own zs
theorem whR_sc {r : List Int} {a z : Dat} (h : RowOf r a) (w : WhR a z) : ∃ r', z = rowD r' ∧ Sc r r' := by
  obtain ⟨es, h1, h2⟩ := h
  obtain ⟨es', g1, L, g2, g3, g4, g5⟩ := w
  rw [h1] at g1
  cases g1
  have hL : L ≤ 4 := Nat.le_of_dvd (by decide) g3
  have e : es.map (fun e => wholeD L (ratD e)) = r.map fun i => i * (L : Int) := by
    have e1 : es.map (fun e => wholeD L (ratD e)) = (es.map ratD).map (wholeD L) := by rw [List.map_map]; rfl
    rw [e1, rowOf_rat h2, List.map_map]
    refine List.map_congr_left fun i _ => ?_
    show i * ((L : Int) / 1) = _
    rw [Int.ediv_one]
  rw [e] at g5
  refine ⟨_, g5, List.length_map _, (L : Int), by omega, by omega, fun j => ?_⟩
  by_cases hj : j < r.length
  · have e1 := rowf_at hj
    rw [rowf_of (r := r.map fun i => i * (L : Int)) (x := rowf r j * (L : Int)) (by rw [List.getElem?_map, e1]; rfl), Int.mul_comm]
  · rw [rowf_off (r := r.map fun i => i * (L : Int)) (by rw [List.length_map]; omega), rowf_off (r := r) (by omega), Int.mul_zero]
theorem Sc.bd {r r' : List Int} {n : Nat} (h : Sc r r') (hB : RBd n r) : RBd (n + 3) r' := fun x hx => by
  obtain ⟨hl, c, c0, c4, hc⟩ := h
  obtain ⟨j, hj⟩ := List.mem_iff_getElem?.mp hx
  have e := rowf_of hj
  rw [hc] at e
  rw [← e]
  have q : Bd 3 c := bd_small 3 (by omega) c4 (Nat.le_refl _)
  have := q.mul (hB.at j)
  rwa [Nat.add_comm] at this
section
variable {P : Program} {w : World} {K : PySem.W.Frag} {mg : Str → Option Value} {base : Heap} {A : Ad} {N : Addr} (T : Txt K mg A N)
include T
theorem c_is_pair : Cal P w K mg base "is_pair" 4 (Pu A (Q2 fun d e => ∃ r, ∃ n : Nat, PairOf r d ∧ e = .int n ∧ n ≤ 1000 ∧ r.1.length = n ∧ r.2.length = n) (O2 fun d e z => z = .bl true)) := by
  refine T.d_is_pair.pu sc_is_pair (by decide) (by rintro _ ⟨_, _, rfl, _⟩; rfl) ?_
  rintro f cdv A' outer s H _ hr ⟨d, _, rfl, r, n, ⟨a, b, hd, ha, hb⟩, rfl, hn, l1, l2⟩
  have nd := sc_is_pair.nd
  refine (show Sb A _ _ [some (.im d), some (.im (.int (n : Nat))), none] _ from ?_)
  refine sb_ret (P := fun z => z = .bl true) ?_ (fun z h => ⟨_, _, rfl, h⟩)
  refine (ev_and3 (k := true) (l := true) (m := true) (ev_c1 (c_is_list T) hr (ev_v 0 rfl) (items_kl hd) fun z h => by rw [h, items_list hd]) (fun _ => (ev_eq (i := ((2 : Nat) : Int)) (j := 2) (ev_len (n := 2) T.b_len (ev_v 0 rfl) fun z h => by rw [h]; exact items_len hd) ev_int).imp fun z h => by rw [h]; rfl) fun _ _ => ?_).imp fun z h => by rw [h]; rfl
  refine (ev_all (bs := [true, true]) T.b_all (EvN.ev (en_map [("row", 2)] (fun _ => .bl true) (wk_seq (ev_v 0 rfl) hd) (fun x hx => ?_) (show 2 ≤ 100000 by decide) (own1 rfl)) fun ds h => by rw [h]; rfl)).imp fun z h => by rw [h]; rfl
  refine ⟨_, [2], by decide, fun s H C cl fp => tg_name 2, fun s H C cl fp => ?_⟩
  have key : ∀ {r' : List Int}, RowOf r' x → r'.length = n → Kl x ∧ KS Kd x ∧ areB x n = true := fun {r'} h hl => ⟨rowOf_kl h, rowOf_ks h (Nat.le_trans (by omega) (show 1000 ≤ 100000 by decide)) fun e ⟨i, _, q⟩ => by rcases q with q | q <;> subst q <;> trivial, rowOf_are h hl⟩
  have hx' : Kl x ∧ KS Kd x ∧ areB x n = true := by
    rcases List.mem_cons.mp hx with e | hx
    · subst e; exact key ha l1
    · have e : x = b := by simpa using hx
      subst e; exact key hb l2
  exact ev_c2 (c_are_numbers T) hr (d1 := x) (d2 := .int (n : Nat)) (ev_v 2) (ev_v 1) ⟨hx'.1, hx'.2.1, n, rfl⟩ fun z ⟨m, h1, h2⟩ => by
    have : n = m := by injection h1 with h1; exact Int.ofNat_inj.mp h1
    subst this
    rw [h2, hx'.2.2]
abbrev preP : List Dat → Prop := Q2 fun d e => ∃ (n : Nat) (own : Own) (ps : List Dat), d = .int n ∧ e = .lst ps ∧ OwnOk n own ∧ Fa2 PairOf own ps
theorem c_right_pairs : Cal P w K mg base "right_pairs" 6 (Pu A preP (O2 fun d e z => ∀ (n : Nat) (own : Own) (ps : List Dat), d = .int n → e = .lst ps → Fa2 PairOf own ps → z = .lst (own.map pairQ))) := by
  refine T.d_right_pairs.pu sc_right_pairs (by decide) (by rintro _ ⟨_, _, rfl, _⟩; rfl) ?_
  rintro f cdv A' outer s H _ hr ⟨_, _, rfl, n, own, ps, rfl, rfl, ok, hps⟩
  have nd := sc_right_pairs.nd
  obtain ⟨t1, gMs⟩ := T.gMs
  obtain ⟨t2, gMp⟩ := T.gMp
  have n8 := ok.n8
  have l8 := ok.l8
  have lps : ps.length ≤ 100000 := by rw [hps.len]; exact Nat.le_trans l8 (by decide)
  refine (show Sb A _ _ [some (.im (.int (n : Nat))), some (.im (.lst ps)), none] _ from ?_)
  refine sb_skip (EvW.t (ew_or (k := false) (l := false) (et_not (k := true) (et_v (ev_call (P := fun z => z = .bl true) (c_is_count T) hr (ea1 (ev_v (d := .int (n : Nat)) 0)) fun ds ⟨d, h1, h2⟩ => ?_))) (fun _ => ew_or1 ((et_gt (i := (n : Nat)) (j := 8) (ev_v 0) (ev_gi gMs)).imp fun z h => by rw [h]; exact decide_eq_false (by omega))))) ?_
  · subst h1; subst h2
    exact ⟨⟨_, rfl⟩, fun z ⟨i, g1, g2⟩ => by cases g1; rw [g2, decide_eq_true (by omega)]⟩
  refine sb_skip (EvW.t (ew_or (k := false) (l := false) (et_not (k := true) (et_v (ev_c1 (P := fun z => z = .bl true) (c_is_list T) hr (ev_v 1 rfl) trivial fun z h => h))) (fun _ => ew_or (k := false) (l := false) ((et_gt (i := (ps.length : Nat)) (j := 8) (ev_len (n := ps.length) T.b_len (ev_v 1 rfl) fun z h => by rw [h]; rfl) (ev_gi gMp)).imp fun z h => by
      rw [h]
      have := hps.len
      exact decide_eq_false (by omega)) fun _ => ew_or1 (et_not (k := true) (et_v (ev_all (bs := ps.map fun _ => true) T.b_all (EvN.ev (en_map [("pair", 2)] (fun _ => .bl true) (wk_list (ev_v 1 rfl)) (fun x hx => ?_) lps (own1 rfl)) fun ds h => by rw [h, List.map_map]; rfl)|>.imp fun z h => by rw [h]; simp)))))) ?_
  · obtain ⟨r, hr1, hr2⟩ := hps.right hx
    have q := ok.ok r hr1
    exact ⟨_, [2], by decide, fun s H C cl fp => tg_name 2, fun s H C cl fp => ev_c2 (c_is_pair T) hr (d1 := x) (d2 := .int (n : Nat)) (ev_v 2) (ev_v 0) ⟨r, n, hr2, rfl, by omega, q.1.1, q.2.1⟩ fun z h => h⟩
  refine sb_ret (P := fun z => z = .lst (own.map pairQ)) (EvN.ev (en_rel [("pair", 2)] (fun x z => ∀ r, PairOf r x → r ∈ own → z = pairQ r) (wk_list (ev_v 1 rfl)) (fun x hx => ?_) lps (own1 rfl)) fun ds h => ?_) fun z h => ⟨_, _, rfl, fun n2 own2 ps2 e1 e2 h2 => ?_⟩
  · obtain ⟨r, hr1, a, b, hd, ha, hb⟩ := hps.right hx
    have q := ok.ok r hr1
    refine ⟨_, [2], by decide, fun s H C cl fp => tg_name 2, fun s H C cl fp => ?_⟩
    have one : ∀ {r' : List Int} {u : Dat}, RowOf r' u → r'.length = n → (KS IsNum u ∧ ∃ es, itemsD u = some es) ∧ ∀ z, (∃ es, itemsD u = some es ∧ z = .lst (es.map ratD)) → z = ratRow r' := fun {r' u} h hl => ⟨⟨rowOf_ks h (by omega) fun e ⟨i, _, q⟩ => by rcases q with q | q <;> subst q <;> trivial, h.elim fun es q => ⟨es, q.1⟩⟩, fun z ⟨es, q1, q2⟩ => by
      obtain ⟨es', g1, g2⟩ := h
      rw [q1] at g1
      cases g1
      rw [q2, rowOf_rat g2]
      rfl⟩
    have oa := one ha q.1.1
    have ob := one hb q.2.1
    refine (ev_tup (ea2 (P1 := fun z => z = ratRow r.1) (P2 := fun z => z = ratRow r.2) (ev_c1 (c_ratios_of T) hr (d1 := a) (ev_atS (d0 := x) (ev_v 2) hd ev_int (atI0 rfl)) oa.1 oa.2) (ev_c1 (c_ratios_of T) hr (d1 := b) (ev_atS (d0 := x) (ev_v 2) hd ev_int (atI1 rfl)) ob.1 ob.2)) (fun ds h => by obtain ⟨d, d', rfl, _⟩ := h; show 2 ≤ sizeLine; decide)).imp fun z h r' hp' _ => ?_
    obtain ⟨ds, ⟨d, d', rfl, rfl, rfl⟩, rfl⟩ := h
    obtain ⟨a', b', hd', ha', hb'⟩ := hp'
    rw [hd] at hd'
    cases hd'
    have same : ∀ {r1 r2 : List Int} {u : Dat}, RowOf r1 u → RowOf r2 u → ratRow r1 = ratRow r2 := fun {r1 r2 u} ⟨e1, g1, g2⟩ ⟨e2, g3, g4⟩ => by
      rw [g1] at g3
      cases g3
      unfold ratRow
      rw [← rowOf_rat g2, ← rowOf_rat g4]
    show Dat.tup _ = Dat.tup _
    rw [same ha ha', same hb hb']
  · have : ∀ {o : Own} {qs zs : List Dat}, Fa2 PairOf o qs → (∀ r ∈ o, r ∈ own) → Fa2 (fun x z => ∀ r, PairOf r x → r ∈ own → z = pairQ r) qs zs → zs = o.map pairQ := fun {o} => by
      induction o with
      | nil => intro qs zs h1 _ h2; cases h1; cases h2; rfl
      | cons r o ih =>
        intro qs zs h1 hm h2
        obtain ⟨q, qs', rfl, h3, h4⟩ := h1
        obtain ⟨z, zs', rfl, h5, h6⟩ := h2
        rw [h5 r h3 (hm r (.head _)), ih h4 (fun r' hr' => hm r' (.tail _ hr')) h6]
        rfl
    rw [this hps (fun r hr => hr) h]
  · injection e2 with e2
    subst e2
    have : ∀ {o o' : Own} {qs : List Dat}, Fa2 PairOf o qs → Fa2 PairOf o' qs → o.map pairQ = o'.map pairQ := fun {o} => by
      induction o with
      | nil =>
        intro o' qs h1 h2
        cases h1
        cases o' with
        | nil => rfl
        | cons r o' => obtain ⟨_, _, e, _⟩ := h2; cases e
      | cons r o ih =>
        intro o' qs h1 h2
        obtain ⟨q, qs', rfl, h3, h4⟩ := h1
        cases o' with
        | nil => cases h2
        | cons r' o' =>
          obtain ⟨_, _, e, h5, h6⟩ := h2
          cases e
          rw [List.map_cons, List.map_cons, ih h4 h6]
          obtain ⟨a, b, g1, g2, g3⟩ := h3
          obtain ⟨a', b', k1, k2, k3⟩ := h5
          rw [g1] at k1
          cases k1
          have same : ∀ {r1 r2 : List Int} {u : Dat}, RowOf r1 u → RowOf r2 u → ratRow r1 = ratRow r2 := fun {r1 r2 u} ⟨e1, g1, g2⟩ ⟨e2, g3, g4⟩ => by
            rw [g1] at g3
            cases g3
            unfold ratRow
            rw [← rowOf_rat g2, ← rowOf_rat g4]
          unfold pairQ
          rw [same g2 k2, same g3 k3]
    rw [h, this hps h2]
end
end K64
/-! Pairs made: the instance. -/
namespace K64
open PySem L2
def fsP2 (own : Own) (n : Nat) : List (Str × Dat) := [("own_rows", .lst (own.map pairQ)), ("own_size", .int (n : Nat))]
def fsP3 (own : Own) (n : Nat) (zs : List Dat) : List (Str × Dat) := [("own_rows", .lst (own.map pairQ)), ("own_size", .int (n : Nat)), ("own_ints", .lst zs)]
abbrev postP : List Dat → List (Str × Dat) → Prop := O2 fun d e fs => ∀ (n : Nat) (own : Own) (ps : List Dat), d = .int n → e = .lst ps → Fa2 PairOf own ps → OwnOk n own → ∃ zs, fs = fsP3 own n zs ∧ Fa2 IntsOf own zs
theorem one4 : (1 : Int) ∣ 4 := ⟨4, rfl⟩
theorem pairQ_wh {n : Nat} {own : Own} {r : List Int × List Int} (ok : OwnOk n own) (hr : r ∈ own) {u : Dat} (hu : u ∈ [ratRow r.1, ratRow r.2]) : KS (NumQ 4000) u ∧ ∃ es, itemsD u = some es := by
  have q := ok.ok r hr
  have n6 := ok.n8
  have key : ∀ {r' : List Int}, r'.length = n → RBd 3 r' → KS (NumQ 4000) (ratRow r') ∧ ∃ es, itemsD (ratRow r') = some es := fun {r'} hl hB => ⟨fun es he => by
    cases he
    refine ⟨by rw [List.length_map]; omega, fun x hx => ?_⟩
    obtain ⟨i, hi, rfl⟩ := List.mem_map.mp hx
    exact ⟨trivial, i, 1, rfl, by decide, one4, (hB i hi).mono (by decide)⟩, _, rfl⟩
  rcases List.mem_cons.mp hu with e | hu
  · subst e; exact key q.1.1 q.1.2
  · have e : u = ratRow r.2 := by simpa using hu
    subst e; exact key q.2.1 q.2.2
section
variable {P : Program} {w : World} {K : PySem.W.Frag} {mg : Str → Option Value} {base : Heap} {A : Ad} {N : Addr} (T : Txt K mg A N)
include T
theorem c_Pairs_fok {v : V} (f : Addr) (fd : FuncData) (F : FunD K "__init__" "Pairs.__init__" (defArgs s_Pairs_init) (defBody s_Pairs_init) (defScope s_Pairs_init) [v] [] f fd) :
    FnOk P w K mg base CX0 7 f fd ["self", "size", "rows"] (PuI A A.P preP postP) := by
  refine fok_puD F sc_Pairs_init (by decide) (by rintro _ ⟨_, _, rfl, _⟩; rfl) ?_
  rintro cdv A' outer s H _ hr ⟨_, _, rfl, n, own, ps, rfl, rfl, ok, hps⟩
  have nd := sc_Pairs_init.nd
  refine (show Sb A _ _ [some (.self A.P []), some (.im (.int (n : Nat))), some (.im (.lst ps)), none] _ from ?_)
  refine sb_if (k := false) (et_v (ev_isC (d := .int (n : Nat)) T.tR T.tP T.b_isinstance (ev_v 1) T.gN T.kit.IN)) (fun h => nomatch h) fun _ => ?_
  refine sb_fld (fs := []) (P := fun z => z = .lst (own.map pairQ)) T.fP.cl T.fP.r (ev_c2 (c_right_pairs T) hr (d1 := .int (n : Nat)) (d2 := .lst ps) (ev_v 1) (ev_v 2) ⟨n, own, ps, rfl, rfl, ok, hps⟩ fun z h => h n own ps rfl rfl hps) (fun d h => ?_) (hsl := hsl_of rfl)
  subst h
  refine sb_fld (fs := [("own_rows", .lst (own.map pairQ))]) T.fP.cl T.fP.s (ev_v (d := .int (n : Nat)) 1) (fun d h => ?_) (hsl := hsl_of rfl)
  subst h
  refine sb_nil ?_
  have e1 : putD "own_size" (.int (n : Nat)) [("own_rows", .lst (own.map pairQ))] = fsP2 own n := by
    show (if ("own_rows" : Str) = "own_size" then _ else _) = _
    rw [if_neg (by decide +kernel)]
    rfl
  rw [e1]
  refine (show Sb A _ _ [some (.self A.P (fsP2 own n)), some (.im (.int (n : Nat))), some (.im (.lst ps)), none] _ from ?_)
  refine sb_fld (fs := fsP2 own n) (P := fun z => ∃ zs, z = .lst zs ∧ Fa2 IntsOf own zs) T.fP.cl T.fP.i (EvN.ev (en_rel [("pair", 3)] (fun x z => ∃ r, x = pairQ r ∧ ∃ a b, z = .tup [rowD a, rowD b] ∧ Sc r.1 a ∧ Sc r.2 b)
      (wk_list (ds := own.map pairQ) (ev_self (fs := fsP2 own n) T.fP.cl T.fP.r (hl := by simp [fsP2, List.lookup]))) (fun x hx => ?_) ?_ (own1 rfl)) fun ds h => ?_) (fun d h => ?_) (hsl := hsl_of rfl)
  · obtain ⟨r, hr', rfl⟩ := List.mem_map.mp hx
    refine ⟨_, [3], by decide, fun s H C cl fp => tg_name 3, fun s H C cl fp => ?_⟩
    refine ev_tupleP T.b_tuple (ev_c1 (c_ints_of T) hr (d1 := .lst [ratRow r.1, ratRow r.2]) (EvN.ev (en_list (d := pairQ r) T.b_list (ev_v 3) rfl) fun ds h => by rw [h]) ⟨_, rfl, show 2 ≤ 100000 by decide, fun u hu => pairQ_wh ok hr' hu⟩ fun z h => h) fun d h => ?_
    obtain ⟨rs, zs, h1, rfl, h3⟩ := h
    cases h1
    obtain ⟨z1, t1, rfl, w1, z2, t2, rfl, w2, w3⟩ := h3
    cases w3
    obtain ⟨a, ha, sa⟩ := whR_sc (rowOf_self r.1) w1
    obtain ⟨b, hb, sb⟩ := whR_sc (rowOf_self r.2) w2
    exact ⟨_, rfl, r, rfl, a, b, by rw [ha, hb], sa, sb⟩
  · rw [List.length_map]
    exact Nat.le_trans ok.l8 (by decide)
  · obtain ⟨zs, e2, h2⟩ := Fa2.form (f := pairQ) (g := id) (Q := IntsOf) h fun r z _ ⟨r', q1, a, b, q2, q3, q4⟩ => ⟨z, rfl, by
      have inj : ∀ {x y : List Int}, ratRow x = ratRow y → x = y := fun {x y} e => by
        unfold ratRow at e
        injection e with e
        exact (List.map_inj_right (fun a b e => by injection e)).mp e
      unfold pairQ at q1
      injection q1 with q1
      injection q1 with q5 q6
      injection q6 with q6 _
      have s1 := inj q5
      have s2 := inj q6
      exact ⟨a, b, q2, by rw [s1]; exact q3, by rw [s2]; exact q4⟩⟩
    rw [List.map_id] at e2
    exact ⟨ds, rfl, by rw [e2]; exact h2⟩
  · obtain ⟨zs, rfl, h2⟩ := h
    refine sb_nil ⟨_, rfl, _, _, rfl, fun n2 own2 ps2 g1 g2 g3 g4 => ?_⟩
    have e3 : putD "own_ints" (.lst zs) (fsP2 own n) = fsP3 own n zs := by
      show (if ("own_rows" : Str) = "own_ints" then _ else _ :: (if ("own_size" : Str) = "own_ints" then _ else _)) = _
      rw [if_neg (by decide +kernel), if_neg (by decide +kernel)]
      rfl
    rw [e3]
    injection g2 with g2
    subst g2
    have g1' : n = n2 := by injection g1 with g1; exact Int.ofNat_inj.mp g1
    subst g1'
    -- the pairs are told by the data
    have uniq : ∀ {o o' : Own} {qs : List Dat}, Fa2 PairOf o qs → Fa2 PairOf o' qs → o = o' := fun {o} => by
      induction o with
      | nil =>
        intro o' qs h1 h2
        cases h1
        cases o' with
        | nil => rfl
        | cons r o' => obtain ⟨_, _, e, _⟩ := h2; cases e
      | cons r o ih =>
        intro o' qs h1 h2
        obtain ⟨q, qs', rfl, h3, h4⟩ := h1
        cases o' with
        | nil => cases h2
        | cons r' o' =>
          obtain ⟨_, _, e, h5, h6⟩ := h2
          cases e
          rw [ih h4 h6]
          obtain ⟨a, b, g1, g2, g3⟩ := h3
          obtain ⟨a', b', k1, k2, k3⟩ := h5
          rw [g1] at k1
          cases k1
          have same : ∀ {r1 r2 : List Int} {u : Dat}, RowOf r1 u → RowOf r2 u → r1 = r2 := fun {r1 r2 u} ⟨e1, g1, g2⟩ ⟨e2, g3, g4⟩ => by
            rw [g1] at g3
            cases g3
            have := (rowOf_rat g2).symm.trans (rowOf_rat g4)
            exact (List.map_inj_right (fun a b e => by injection e)).mp this
          obtain ⟨r1, r2⟩ := r
          obtain ⟨s1, s2⟩ := r'
          have q1 : r1 = s1 := same g2 k2
          have q2 : r2 = s2 := same g3 k3
          rw [q1, q2]
    have := uniq hps g3
    subst this
    exact ⟨zs, rfl, h2⟩
theorem c_P : CalC P w K mg base "Pairs" A.P 7 [] (PuI A A.P preP postP) := by
  obtain ⟨v, i⟩ := T.iP
  exact i.calc3 T.gP (ps := ["self", "size", "rows"]) rfl (fun T' kV doc pm an cdv ct a b c d => ⟨_, rfl, rfl⟩) (c_Pairs_fok T)
theorem kitPP : PySem.W.kitOne K (.ref A.P) (.ref A.P) = some true := by
  unfold PySem.W.kitOne
  rw [if_pos (by simp)]
theorem c_want_pairs : Cal P w K mg base "want_pairs" 1 (Pu A (Q1 fun d => ∃ r n i, d = .prs r n i) (O1 fun d z => z = d)) := by
  refine T.d_want_pairs.pu sc_want_pairs (by decide) (by rintro _ ⟨_, rfl, _⟩; rfl) ?_
  rintro f cdv A' outer s H _ hr ⟨_, rfl, r, n, i, rfl⟩
  refine (show Sb A _ _ [some (.im (.prs r n i))] _ from ?_)
  refine sb_skip (et_not (k := true) (et_v (ev_isC (d := .prs r n i) T.tR T.tP T.b_isinstance (ev_v 0) T.gP (kitPP T)))) ?_
  exact sb_ret (ev_v 0) fun z h => ⟨_, rfl, h⟩
end
section
variable {A : Ad} {X : Cx} {Γ : Sls} {pos p : Pos} {a b : Expr} {j : Nat} {N : Addr} (T : Txt X.K X.mg A N)
include T
theorem ev_P {n : Nat} {own : Own} {ps : List Dat} (hr : Room j X.A) (ha : Ev A X a Γ (fun z => z = .int (n : Nat))) (hb : Ev A X b Γ (fun z => z = .lst ps)) (ok : OwnOk n own) (hps : Fa2 PairOf own ps) (hk : 8 ≤ j := by decide) (hg : Gl X "Pairs" := by rfl)
    (h1 : starEach [a, b] X.env = (false, eval a X.env) :: starEach [b] X.env := by rfl) (h2 : starEach [b] X.env = (false, eval b X.env) :: starEach [] X.env := by rfl) (hpl : (backTo pos (starEach [b] X.env)).any (·.1) = false := by rfl) : Ev A X (.Call (.Name "Pairs" p) [a, b] [] pos) Γ (fun z => PrsOf n own z) :=
  ev_make (c_P T) hr (ea2 ha hb h1 h2) (fun ds ⟨d, e, h1, h2, h3⟩ => by
    subst h1; subst h2; subst h3
    refine ⟨⟨_, _, rfl, n, own, ps, rfl, rfl, ok, hps⟩, fun fs ⟨_, _, g1, g2⟩ => ?_⟩
    cases g1
    obtain ⟨zs, rfl, hz⟩ := g2 n own ps rfl rfl hps ok
    refine ⟨.prs (.lst (own.map pairQ)) (.int (n : Nat)) (.lst zs), ⟨zs, rfl, hz⟩, fun B p dx gs q1 q2 => ?_⟩
    obtain ⟨v1, r1, rfl, i1, v2, r2, rfl, i2, v3, r3, rfl, i3, q3⟩ := q2
    cases q3
    exact ⟨p, dx, v1, v2, v3, rfl, q1, i1, i2, i3⟩) hk hg (by decide) h1 hpl
end
end K64
/-! Lots. -/
namespace K64
open PySem L2
def lotD (l : List Nat) : Dat := .lst (l.map fun i : Nat => .int (i : Nat))
def lotsD (L : List (List Nat)) : Dat := .lst (L.map lotD)
theorem lotD_inj {l m : List Nat} (h : lotD l = lotD m) : l = m := by
  unfold lotD at h
  injection h with h
  exact (List.map_inj_right (fun x y e => by injection e with e; exact Int.ofNat_inj.mp e)).mp h
theorem lotsD_inj {l m : List (List Nat)} (h : lotsD l = lotsD m) : l = m := by
  unfold lotsD at h
  injection h with h
  exact (List.map_inj_right (fun x y e => lotD_inj e)).mp h
theorem own_at {own : Own} {i : Nat} (h : i < own.length) : own[i]? = some (fstR own i, sndR own i) := by
  unfold fstR sndR
  rw [List.getD_eq_getElem?_getD, List.getElem?_eq_getElem h]
  rfl
theorem sc_rk {n : Nat} {Rs M : List (List Int)} (h : Fa2 Sc Rs M) : rk n (Ker n M) = rk n (Ker n Rs) :=
  rk_scale (fun r hr => by
    obtain ⟨q, hq, _, c, c0, _, hc⟩ := h.right hr
    exact ⟨q, hq, 1, c, by decide, by omega, fun j _ => by rw [Int.one_mul]; exact hc j⟩) (fun q hq => by
    obtain ⟨r, hr, _, c, c0, _, hc⟩ := h.left hq
    exact ⟨r, hr, 1, c, by decide, by omega, fun j _ => by rw [Int.one_mul]; exact hc j⟩)
theorem rowsOf_ok {n : Nat} {own : Own} {l : List Nat} (ok : OwnOk n own) (hl : ∀ i ∈ l, i < own.length) : ∀ r ∈ rowsOf own l, r.length = n ∧ RBd 3 r := fun r hr => by
  obtain ⟨i, hi, e⟩ := mem_rowsOf.mp hr
  have q := ok.ok _ (List.mem_of_getElem? (own_at (hl i hi)))
  rcases e with e | e <;> subst e
  · exact q.1
  · exact q.2
theorem sc_mat {n : Nat} {own : Own} {l : List Nat} {M : List (List Int)} (ok : OwnOk n own) (hl : ∀ i ∈ l, i < own.length) (h : Fa2 Sc (rowsOf own l) M) : ∀ r ∈ M, r.length = n ∧ RBd 12 r := fun r hr => by
  obtain ⟨q, hq, sc⟩ := h.right hr
  have := rowsOf_ok ok hl q hq
  exact ⟨by rw [sc.1, this.1], fun x hx => (sc.bd this.2 x hx).mono (by decide)⟩
theorem nxt_nil : nxt [] = 0 := rfl
section
variable {P : Program} {w : World} {K : PySem.W.Frag} {mg : Str → Option Value} {base : Heap} {A : Ad} {N : Addr} (T : Txt K mg A N) {n : Nat} {own : Own} (ok : OwnOk n own)
include T ok
abbrev preL (n : Nat) (own : Own) : List Dat → Prop := Q2 fun d e => PrsOf n own d ∧ ∃ l, e = lotD l ∧ l.length ≤ 100 ∧ ∀ i ∈ l, i < own.length
theorem c_ints_at : Cal P w K mg base "ints_at" 1 (Pu A (preL n own) (O2 fun d e z => ∀ l, e = lotD l → ∃ M, z = matD M ∧ Fa2 Sc (rowsOf own l) M)) := by
  refine T.d_ints_at.pu sc_ints_at (by decide) (by rintro _ ⟨_, _, rfl, _⟩; rfl) ?_
  rintro f cdv A' outer s H _ hr ⟨_, _, rfl, ⟨zs, rfl, hz⟩, l, rfl, hl, hlt⟩
  have nd := sc_ints_at.nd
  refine (show Sb A _ _ [some (.im (.prs (.lst (own.map pairQ)) (.int (n : Nat)) (.lst zs))), some (.im (lotD l)), none, none] _ from ?_)
  refine sb_setN 2 (en_lst ea_nil fun ds h => by rw [h]; exact Nat.zero_le _) (fun ds h => ?_)
  subst h
  refine sb_for (ds := l.map fun i : Nat => .int (i : Nat)) (wk_list (ev_v 1)) (fun k Γ' => ∃ (M : List (List Int)) (x : Option Sl), Γ' = [some (.im (.prs (.lst (own.map pairQ)) (.int (n : Nat)) (.lst zs))), some (.im (lotD l)), some (.mu (M.map rowD)), x] ∧ Fa2 Sc (rowsOf own (l.take k)) M) ⟨[], none, rfl, rfl⟩ ?_ ?_
  · rintro k d _ hd ⟨M, x, rfl, h1⟩
    rw [List.getElem?_map] at hd
    obtain ⟨i, hi, rfl⟩ := Option.map_eq_some_iff.mp hd
    have hil := hlt i (List.mem_of_getElem? hi)
    obtain ⟨z, hzi, a, b, rfl, sa, sb⟩ := hz.at (own_at hil)
    refine ⟨_, _, tg_name 3, ?_⟩
    refine sb_extT 2 (ds := M.map rowD) (es := [rowD a, rowD b]) (ev_atL (ds := zs) (i := ((i : Nat) : Int)) (ev_oi (r := .lst (own.map pairQ)) (n := .int (n : Nat)) (i := .lst zs) (ev_v 0) T.fP) (ev_v 3) (atI_n hzi)) ?_ ?_
    · have lk : (l.take (k + 1)) = l.take k ++ [i] := by rw [List.take_add_one, hi]; rfl
      refine sb_nil ⟨M ++ [a] ++ [b], some (.im (.int (i : Nat))), ?_, ?_⟩
      · rw [List.map_append, List.map_append, List.append_assoc]
        rfl
      · rw [lk, rowsOf_app]
        have e : rowsOf own [i] = [fstR own i] ++ [sndR own i] := rfl
        rw [e, ← List.append_assoc]
        exact Fa2.snoc sb (Fa2.snoc sa h1)
    · rw [List.length_map, h1.len, rowsOf_len, List.length_take]
      show 2 * min k l.length + 2 ≤ 100000
      omega
  · rintro _ ⟨M, x, rfl, h1⟩
    rw [List.length_map, List.take_length] at h1
    refine sb_freeze 2 (ds := M.map rowD) (k := ?_)
    exact sb_ret (ev_v 2) fun z h => ⟨_, _, rfl, fun l2 e => by
      have := lotD_inj e
      subst this
      exact ⟨M, h, h1⟩⟩
theorem c_rank_of : Cal P w K mg base "rank_of" 5 (Pu A (preL n own) (O2 fun d e z => ∀ l, e = lotD l → z = .int (rk n (Ker n (rowsOf own l)) : Nat))) := by
  refine T.d_rank_of.pu sc_rank_of (by decide) (by rintro _ ⟨_, _, rfl, _⟩; rfl) ?_
  rintro f cdv A' outer s H _ hr ⟨d, _, rfl, hd, l, rfl, hl, hlt⟩
  have nd := sc_rank_of.nd
  refine (show Sb A _ _ [some (.im d), some (.im (lotD l))] _ from ?_)
  refine sb_ret (P := fun z => z = .int (rk n (Ker n (rowsOf own l)) : Nat)) (ev_c1P (c_int_rank T) hr (ev_c2 (c_ints_at T ok) hr (ev_v 0 rfl) (ev_v 1 rfl) ⟨hd, l, rfl, hl, hlt⟩ fun z h => h l rfl) fun M' hM => ?_) fun z h => ⟨_, _, rfl, fun l2 e => by
    have := lotD_inj e
    subst this
    exact h⟩
  obtain ⟨M, rfl, hM⟩ := hM
  have hq := sc_mat ok hlt hM
  refine ⟨⟨M, n, rfl, ?_, by have := ok.n8; omega, hq⟩, fun z h => ?_⟩
  · rw [hM.len, rowsOf_len]
    omega
  · rw [h M n rfl fun r hr => (hq r hr).1, sc_rk hM]
theorem c_free_of : Cal P w K mg base "free_of" 6 (Pu A (preL n own) (O2 fun d e z => ∀ l, e = lotD l → z = .bl (freeB n own l))) := by
  refine T.d_free_of.pu sc_free_of (by decide) (by rintro _ ⟨_, _, rfl, _⟩; rfl) ?_
  rintro f cdv A' outer s H _ hr ⟨_, _, rfl, ⟨zs, rfl, hz⟩, l, rfl, hl, hlt⟩
  have nd := sc_free_of.nd
  refine (show Sb A _ _ [some (.im (.prs (.lst (own.map pairQ)) (.int (n : Nat)) (.lst zs))), some (.im (lotD l))] _ from ?_)
  have hlen : ∀ z, z = lotD l → lenD z = some l.length := fun z h => by rw [h]; show some (l.map _).length = _; rw [List.length_map]
  have small : (((l.length : Nat) : Int)).natAbs < 2 ^ 60 := by rw [Int.natAbs_natCast]; exact Nat.lt_of_le_of_lt hl (by decide)
  refine sb_ret (P := fun z => z = .bl (freeB n own l)) ((ev_and2 (k := decide (2 * l.length ≤ n)) (l := decide (rk n (Ker n (rowsOf own l)) = 2 * l.length)) ((ev_le (i := 2 * ((l.length : Nat) : Int)) (j := (n : Nat)) (ev_mul 60 60 ev_int (ev_len (n := l.length) T.b_len (ev_v 1 rfl) hlen) (by decide) small) (ev_os (r := .lst (own.map pairQ)) (n := .int (n : Nat)) (i := .lst zs) (ev_v 0) T.fP)).imp fun z h => ?_)
    (fun _ => (ev_eq (i := (rk n (Ker n (rowsOf own l)) : Nat)) (j := 2 * ((l.length : Nat) : Int)) (ev_c2 (c_rank_of T ok) hr (ev_v 0 rfl) (ev_v 1 rfl) ⟨⟨zs, rfl, hz⟩, l, rfl, hl, hlt⟩ fun z h => h l rfl) (ev_mul 60 60 ev_int (ev_len (n := l.length) T.b_len (ev_v 1 rfl) hlen) (by decide) small)).imp fun z h => ?_)).imp fun z h => ?_) fun z h => ⟨_, _, rfl, fun l2 e => by
    have := lotD_inj e
    subst this
    exact h⟩
  · rw [h]
    congr 1
    exact decide_eq_decide.mpr (by omega)
  · rw [h]
    congr 1
    exact decide_eq_decide.mpr (by omega)
  · rw [h]
    congr 1
    unfold freeB Free
    rw [← Bool.decide_and]
    refine decide_eq_decide.mpr ⟨fun q => q.2, fun q => ⟨Free.size q, q⟩⟩
end
end K64
/-! The greatest lots. -/
namespace K64
open PySem L2
noncomputable def lp (n : Nat) (own : Own) (lot : List Nat) (j : Nat) : List (List Nat) := ((List.range' (nxt lot) j).filter fun p => freeB n own (lot ++ [p])).map fun p => lot ++ [p]
theorem lp_succ (n : Nat) (own : Own) (lot : List Nat) (j : Nat) : lp n own lot (j + 1) = lp n own lot j ++ (if freeB n own (lot ++ [nxt lot + j]) then [lot ++ [nxt lot + j]] else []) := by
  unfold lp
  rw [List.range'_1_concat, List.filter_append, List.map_append]
  congr 1
  by_cases h : freeB n own (lot ++ [nxt lot + j]) = true
  · rw [if_pos h]; simp [List.filter, h]
  · rw [if_neg h]; simp [List.filter, h]
theorem longer_take {n : Nat} {own : Own} {L : List (List Nat)} {k : Nat} {lot : List Nat} (h : L[k]? = some lot) : longer n own (L.take (k + 1)) = longer n own (L.take k) ++ lp n own lot (own.length - nxt lot) := by
  rw [List.take_add_one, h]
  unfold longer
  rw [List.flatMap_append]
  congr 1
  show (_ ++ []) = _
  rw [List.append_nil]
  rfl
theorem lp_len (n : Nat) (own : Own) (lot : List Nat) (j : Nat) : (lp n own lot j).length ≤ j := by
  unfold lp
  rw [List.length_map]
  exact Nat.le_trans (List.length_filter_le _ _) (by rw [List.length_range']; exact Nat.le_refl _)
theorem longer_len {n : Nat} {own : Own} (h5 : own.length ≤ 5) : ∀ L : List (List Nat), (longer n own L).length ≤ 5 * L.length
  | [] => Nat.zero_le _
  | lot :: L => by
    have ih := longer_len (n := n) h5 L
    have e : longer n own (lot :: L) = lp n own lot (own.length - nxt lot) ++ longer n own L := rfl
    have := lp_len n own lot (own.length - nxt lot)
    rw [e, List.length_append, List.length_cons]
    omega
theorem lev_len {n : Nat} {own : Own} (h5 : own.length ≤ 5) : ∀ k, (lev n own k).length ≤ 5 ^ k
  | 0 => Nat.le_refl _
  | k + 1 => by
    have := longer_len (n := n) h5 (lev n own k)
    have ih := lev_len (n := n) h5 k
    show (longer n own (lev n own k)).length ≤ _
    rw [Nat.pow_succ]
    omega
theorem lev_ok {n : Nat} {own : Own} {k : Nat} : ∀ l ∈ lev n own k, l.length = k ∧ ∀ i ∈ l, i < own.length := fun l hl => by
  have := lots_ok (mem_lev.mp hl).1
  exact ⟨this.1, this.2.1⟩
theorem lot_last {lot : List Nat} (h : lot ≠ []) : ∃ l p, lot = l ++ [p] ∧ nxt lot = p + 1 := by
  refine ⟨lot.dropLast, lot.getLast h, (List.dropLast_concat_getLast h).symm, ?_⟩
  have := nxt_app lot.dropLast (lot.getLast h)
  rw [List.dropLast_concat_getLast h] at this
  exact this
section
variable {P : Program} {w : World} {K : PySem.W.Frag} {mg : Str → Option Value} {base : Heap} {A : Ad} {N : Addr} (T : Txt K mg A N) {n : Nat} {own : Own} (ok : OwnOk n own)
include T ok
theorem c_longer_lots : Cal P w K mg base "longer_lots" 7 (Pu A (Q2 fun d e => PrsOf n own d ∧ ∃ L, e = lotsD L ∧ L.length ≤ 16000 ∧ ∀ l ∈ L, l.length ≤ 99 ∧ ∀ i ∈ l, i < own.length) (O2 fun d e z => ∀ L, e = lotsD L → z = lotsD (longer n own L))) := by
  refine T.d_longer_lots.pu sc_longer_lots (by decide) (by rintro _ ⟨_, _, rfl, _⟩; rfl) ?_
  rintro f cdv A' outer s H _ hr ⟨d, _, rfl, hd, L, rfl, hL, hok⟩
  have nd := sc_longer_lots.nd
  have l5 := ok.l8
  have hm : ∀ k, (longer n own (L.take k)).length ≤ 80000 := fun k => by
    have := longer_len (n := n) l5 (L.take k)
    rw [List.length_take] at this
    omega
  refine (show Sb A _ _ [some (.im d), some (.im (lotsD L)), none, none, none] _ from ?_)
  refine sb_setN 2 (en_lst ea_nil fun ds h => by rw [h]; exact Nat.zero_le _) (fun ds h => ?_)
  subst h
  refine sb_for (ds := L.map lotD) (wk_list (ev_v 1)) (fun k Γ' => ∃ x y : Option Sl, Γ' = [some (.im d), some (.im (lotsD L)), some (.mu ((longer n own (L.take k)).map lotD)), x, y]) ⟨none, none, rfl⟩ ?_ ?_
  · rintro k u _ hu ⟨x, y, rfl⟩
    rw [List.getElem?_map] at hu
    obtain ⟨lot, hi, rfl⟩ := Option.map_eq_some_iff.mp hu
    obtain ⟨q1, q2⟩ := hok lot (List.mem_of_getElem? hi)
    have hnx : nxt lot ≤ 1000 := by
      by_cases e : lot = []
      · rw [e]; exact Nat.zero_le _
      · obtain ⟨l, p, e1, e2⟩ := lot_last e
        have := q2 p (by rw [e1]; simp)
        omega
    refine ⟨_, _, tg_name 3, ?_⟩
    refine (show Sb A _ _ [some (.im d), some (.im (lotsD L)), some (.mu ((longer n own (L.take k)).map lotD)), some (.im (lotD lot)), y] _ from ?_)
    refine sb_for (ds := rng ((nxt lot : Nat) : Int) (((own.length : Nat) : Int) - ((nxt lot : Nat) : Int)).toNat) (wk_range2 (ev_if (k := !(lot.map fun i : Nat => Dat.int (i : Nat)).isEmpty) (et_neNil hr (ev_v 3)) (fun hk => ?_) (fun hk => ?_)) ?_ (by omega) T.b_range)
      (fun j Γ' => ∃ y : Option Sl, Γ' = [some (.im d), some (.im (lotsD L)), some (.mu ((longer n own (L.take k) ++ lp n own lot j).map lotD)), some (.im (lotD lot)), y]) ⟨y, by rw [show lp n own lot 0 = [] from rfl, List.append_nil]⟩ ?_ ?_
    · have hne : lot ≠ [] := fun e => by rw [e] at hk; cases hk
      obtain ⟨l, p, e1, e2⟩ := lot_last hne
      refine (ev_add (i := ((p : Nat) : Int)) (ev_atL (ds := lot.map fun i : Nat => Dat.int (i : Nat)) (i := -1) (ev_v 3) (ev_neg ev_int) ?_) ev_int).imp fun z h => by rw [h, e2]; rfl
      rw [e1, List.map_append]
      exact atI_last _ _
    · have he : lot = [] := by
        cases lot with
        | nil => rfl
        | cons r M => cases hk
      rw [he]
      exact ev_int
    · obtain ⟨zs, rfl, hz⟩ := hd
      exact ev_len (n := own.length) T.b_len (ev_or_ (r := .lst (own.map pairQ)) (n := .int (n : Nat)) (i := .lst zs) (ev_v 0) T.fP) fun z h => by rw [h]; show some (own.map pairQ).length = _; rw [List.length_map]
    · rintro j u _ hu ⟨y, rfl⟩
      obtain ⟨hj, rfl⟩ := rng_at hu
      have hj' : nxt lot + j < own.length := by omega
      have ec : ((nxt lot : Nat) : Int) + ((j : Nat) : Int) = ((nxt lot + j : Nat) : Int) := by omega
      rw [ec]
      refine ⟨_, _, tg_name 4, ?_⟩
      refine (show Sb A _ _ [some (.im d), some (.im (lotsD L)), some (.mu ((longer n own (L.take k) ++ lp n own lot j).map lotD)), some (.im (lotD lot)), some (.im (.int ((nxt lot + j : Nat) : Int)))] _ from ?_)
      have cat : ∀ ds : List Dat, ds = (lot.map fun i : Nat => Dat.int (i : Nat)) ++ [Dat.int ((nxt lot + j : Nat) : Int)] → Dat.lst ds = lotD (lot ++ [nxt lot + j]) := fun ds h => by
        rw [h]; unfold lotD; rw [List.map_append]; rfl
      have big : (lot.map fun i : Nat => Dat.int (i : Nat)).length + [Dat.int ((nxt lot + j : Nat) : Int)].length ≤ sizeLine := by
        rw [List.length_map]
        exact Nat.le_trans (show _ ≤ 100 by show lot.length + 1 ≤ 100; omega) (by decide)
      refine sb_if (k := freeB n own (lot ++ [nxt lot + j])) (et_v (ev_c2 (c_free_of T ok) hr (d1 := d) (d2 := lotD (lot ++ [nxt lot + j])) (ev_v 0 rfl) (EvN.ev (en_cat (ev_v 3 rfl) (EvN.ev (en_lst (ea1 (ev_v 4 rfl)) fun ds h => by obtain ⟨d, rfl, _⟩ := h; show 1 ≤ sizeLine; decide) fun ds h => ?_) big) cat) ⟨hd, _, rfl, ?_, ?_⟩ fun z h => h _ rfl)) (fun hf => ?_) (fun hf => ?_)
      · obtain ⟨u, rfl, rfl⟩ := h
        rfl
      · rw [List.length_append]; show lot.length + 1 ≤ 100; omega
      · intro i hi'
        rcases List.mem_append.mp hi' with h | h
        · exact q2 i h
        · have : i = nxt lot + j := by simpa using h
          omega
      · refine sb_append 2 (ds := (longer n own (L.take k) ++ lp n own lot j).map lotD) (P := fun z => z = lotD (lot ++ [nxt lot + j])) (EvN.ev (en_cat (ev_v 3 rfl) (EvN.ev (en_lst (ea1 (ev_v 4 rfl)) fun ds h => by obtain ⟨d, rfl, _⟩ := h; show 1 ≤ sizeLine; decide) fun ds h => ?_) big) cat) (fun z h => ?_) ?_
        · obtain ⟨u, rfl, rfl⟩ := h
          rfl
        · subst h
          refine sb_nil (sb_nil ⟨some (.im (.int ((nxt lot + j : Nat) : Int))), ?_⟩)
          rw [lp_succ, if_pos hf, ← List.append_assoc, List.map_append (l₁ := longer n own (L.take k) ++ lp n own lot j)]
          rfl
        · rw [List.length_map, List.length_append]
          have := hm k
          have := lp_len n own lot j
          omega
      · refine sb_nil (sb_nil ⟨some (.im (.int ((nxt lot + j : Nat) : Int))), ?_⟩)
        rw [lp_succ, if_neg (by rw [hf]; exact Bool.false_ne_true), List.append_nil]
    · rintro _ ⟨y, rfl⟩
      refine sb_nil ⟨some (.im (lotD lot)), y, ?_⟩
      rw [rng_len, longer_take hi]
      have : (((own.length : Nat) : Int) - ((nxt lot : Nat) : Int)).toNat = own.length - nxt lot := by omega
      rw [this]
  · rintro _ ⟨x, y, rfl⟩
    refine sb_freeze 2 (ds := (longer n own (L.take (L.map lotD).length)).map lotD) (k := ?_)
    exact sb_ret (ev_v 2) fun z h => ⟨_, _, rfl, fun L2 e => by
      have := lotsD_inj e
      subst this
      rw [h, List.length_map, List.take_length]
      rfl⟩
theorem c_greatest_of : Cal P w K mg base "greatest_of" 8 (Pu A (Q1 (PrsOf n own)) (O1 fun d z => z = lotsD (lev n own (gnum n own)))) := by
  refine T.d_greatest_of.pu sc_greatest_of (by decide) (by rintro _ ⟨_, rfl, _⟩; rfl) ?_
  rintro f cdv A' outer s H _ hr ⟨d, rfl, hd⟩
  have nd := sc_greatest_of.nd
  have l5 := ok.l8
  have bound : ∀ k, k ≤ 6 → (lev n own k).length ≤ 16000 ∧ ∀ l ∈ lev n own k, l.length ≤ 99 ∧ ∀ i ∈ l, i < own.length := fun k hk => ⟨Nat.le_trans (lev_len (n := n) l5 k) (Nat.le_trans (Nat.pow_le_pow_right (by decide) hk) (by decide)), fun l hl => ⟨by rw [(lev_ok l hl).1]; omega, (lev_ok l hl).2⟩⟩
  refine (show Sb A _ _ [some (.im d), none, none] _ from ?_)
  have one : ∀ {X : Cx} {Γ : Sls} {p1 p2 : Pos}, starEach [.List [] p1] X.env = (false, eval (.List [] p1) X.env) :: starEach [] X.env → Ev A X (.List [.List [] p1] p2) Γ (fun z => z = lotsD (lev n own 0)) := fun {X Γ p1 p2} hs => EvN.ev (en_lst (ea1 (P1 := fun z => z = lotD []) (EvN.ev (en_lst ea_nil fun ds h => by rw [h]; exact Nat.zero_le _) fun ds h => by rw [h]; rfl) hs) fun ds h => by obtain ⟨d, rfl, _⟩ := h; show 1 ≤ sizeLine; decide) fun ds h => by
    obtain ⟨u, rfl, rfl⟩ := h
    rfl
  refine sb_par 1 2 (P2 := fun z => z = lotsD (lev n own 1)) (one rfl) (ev_c2 (c_longer_lots T ok) hr (ev_v 0 rfl) (one rfl) ⟨hd, _, rfl, bound 0 (by decide)⟩ fun z h => h _ rfl) (fun d1 d2 h1 h2 => ?_)
  subst h1 h2
  refine sb_while (fun m Γ' => ∃ k, Γ' = [some (.im d), some (.im (lotsD (lev n own k))), some (.im (lotsD (lev n own (k + 1))))] ∧ lev n own k ≠ [] ∧ m + k = 6) 6 ⟨0, rfl, List.cons_ne_nil _ _, rfl⟩ ?_
  rintro m _ ⟨k, rfl, h1, h2⟩
  have hk := lev_le h1
  refine ⟨!((lev n own (k + 1)).map lotD).isEmpty, et_neNil hr (ev_v 2), fun hc => ?_, fun hc => ?_⟩
  · have hne : lev n own (k + 1) ≠ [] := fun e => by rw [e] at hc; cases hc
    have hk1 := lev_le hne
    refine sb_par 1 2 (P1 := fun z => z = lotsD (lev n own (k + 1))) (P2 := fun z => z = lotsD (lev n own (k + 1 + 1))) (ev_v 2) (ev_c2 (c_longer_lots T ok) hr (d1 := d) (d2 := lotsD (lev n own (k + 1))) (ev_v 0) (ev_v 2) ⟨hd, _, rfl, bound (k + 1) (by omega)⟩ fun z h => h _ rfl) (fun d1 d2 h1 h2 => ?_)
    subst h1 h2
    exact sb_nil ⟨m - 1, by omega, k + 1, rfl, hne, by omega⟩
  · have he : lev n own (k + 1) = [] := by
      cases e : lev n own (k + 1) with
      | nil => rfl
      | cons a l => rw [e] at hc; cases hc
    have := gnum_eq (n := n) (own := own) ⟨h1, he⟩
    exact sb_ret (ev_v 1) fun z h => ⟨_, rfl, by rw [h, this]⟩
end
end K64
/-! Numbers in fourths; the turned sum's places. -/
namespace K64
open PySem L2
/-! ### numbers in fourths -/
/-- four times the number -/
def wD (d : Dat) : Int := (4 / (tbD d).2) * (tbD d).1
def NQ (d : Dat) : Prop := IsNum d ∧ 0 < (tbD d).2 ∧ (tbD d).2 ∣ 4 ∧ (wD d).natAbs ≤ 8
/-- the ratio d is S fourths -/
def RW (S : Int) (d : Dat) : Prop := ∃ t b, d = .rat t b ∧ 0 < b ∧ b ∣ 4 ∧ 4 * t = S * b
theorem wD_eq {d : Dat} (h : (tbD d).2 ∣ 4) : 4 * (tbD d).1 = wD d * (tbD d).2 := by
  have : (4 : Int) / (tbD d).2 * (tbD d).2 = 4 := Int.ediv_mul_cancel h
  unfold wD
  calc 4 * (tbD d).1 = (4 / (tbD d).2 * (tbD d).2) * (tbD d).1 := by rw [this]
    _ = _ := by rw [Int.mul_assoc, Int.mul_comm (tbD d).2, ← Int.mul_assoc]
theorem wD_ratD {d : Dat} (h : IsNum d) : wD (ratD d) = wD d ∧ (tbD (ratD d)) = tbD d := by
  cases d <;> first | exact ⟨rfl, rfl⟩ | exact h.elim
theorem RW.of {d : Dat} (h : NQ d) : RW (wD d) (ratD d) := by
  obtain ⟨h1, h2, h3, _⟩ := h
  have e := wD_eq h3
  cases d with
  | int i => exact ⟨i, 1, rfl, by decide, one4, e⟩
  | rat t b => exact ⟨t, b, rfl, h2, h3, e⟩
  | _ => exact h1.elim
theorem RW.le {S t b : Int} (h0 : 0 < b) (h1 : b ∣ 4) (h : 4 * t = S * b) : t.natAbs ≤ S.natAbs := by
  have hb := dvd4 h0 h1
  have e : 4 * t.natAbs = S.natAbs * b.natAbs := by
    have := congrArg Int.natAbs h
    rw [Int.natAbs_mul, Int.natAbs_mul] at this
    exact this
  have : S.natAbs * b.natAbs ≤ S.natAbs * 4 := Nat.mul_le_mul_left _ (by omega)
  omega
theorem RW.num {S : Int} {d : Dat} (h : RW S d) (hS : Bd 4000 S) : NumB 4000 d := by
  obtain ⟨t, b, rfl, h0, h1, h2⟩ := h
  exact ⟨trivial, h0, Nat.lt_of_le_of_lt (RW.le h0 h1 h2) hS, bd_small 4000 (Int.le_of_lt h0) (dvd4 h0 h1) (by decide)⟩
theorem gcdI_dvd (t b : Int) : gcdI t b ∣ t ∧ gcdI t b ∣ b := by
  unfold gcdI
  constructor
  · rw [← Int.natAbs_dvd_natAbs, Int.natAbs_natCast]; exact Nat.gcd_dvd_left _ _
  · rw [← Int.natAbs_dvd_natAbs, Int.natAbs_natCast]; exact Nat.gcd_dvd_right _ _
theorem mkRat_rw {S T B : Int} (h0 : 0 < B) (h : 4 * T = S * B) : RW S (mkRat T B) := by
  have g0 := gcdI_pos (t := T) h0
  obtain ⟨d1, d2⟩ := gcdI_dvd T B
  have e1 : T / gcdI T B * gcdI T B = T := Int.ediv_mul_cancel d1
  have e2 : B / gcdI T B * gcdI T B = B := Int.ediv_mul_cancel d2
  have hb : 0 < B / gcdI T B := by
    refine Int.lt_of_not_ge fun z => ?_
    have : B / gcdI T B * gcdI T B ≤ 0 := Int.mul_nonpos_of_nonpos_of_nonneg z (Int.le_of_lt g0)
    omega
  have e : 4 * (T / gcdI T B) = S * (B / gcdI T B) := by
    have q : (4 * (T / gcdI T B)) * gcdI T B = (S * (B / gcdI T B)) * gcdI T B := by
      rw [Int.mul_assoc, e1, Int.mul_assoc, e2, h]
    exact Int.eq_of_mul_eq_mul_right (Int.ne_of_gt g0) q
  refine ⟨_, _, rfl, hb, ?_, e⟩
  have cop : Nat.Coprime (B / gcdI T B).natAbs (T / gcdI T B).natAbs := by
    have n0 : 0 < Nat.gcd T.natAbs B.natAbs := by
      have : gcdI T B = ((Nat.gcd T.natAbs B.natAbs : Nat) : Int) := rfl
      omega
    have q := Nat.coprime_div_gcd_div_gcd n0
    have a1 : (T / gcdI T B).natAbs = T.natAbs / Nat.gcd T.natAbs B.natAbs := by
      rw [Int.natAbs_ediv_of_dvd d1]; rfl
    have a2 : (B / gcdI T B).natAbs = B.natAbs / Nat.gcd T.natAbs B.natAbs := by
      rw [Int.natAbs_ediv_of_dvd d2]; rfl
    rw [a1, a2]
    exact q.symm
  have dv : (B / gcdI T B).natAbs ∣ 4 * (T / gcdI T B).natAbs := by
    have := congrArg Int.natAbs e
    rw [Int.natAbs_mul, Int.natAbs_mul] at this
    exact ⟨S.natAbs, by rw [Nat.mul_comm (B / gcdI T B).natAbs]; exact this⟩
  have := cop.dvd_of_dvd_mul_right dv
  rw [← Int.natAbs_dvd_natAbs]
  exact this
theorem RW.zero {d : Dat} {S : Int} (h : RW S d) : (tbD d).1 = 0 ↔ S = 0 := by
  obtain ⟨t, b, rfl, h0, h1, h2⟩ := h
  show t = 0 ↔ _
  constructor
  · intro e
    rw [e, Int.mul_zero] at h2
    exact (Int.mul_eq_zero.mp h2.symm).resolve_right (by omega)
  · intro e
    rw [e, Int.zero_mul] at h2
    omega
theorem one4000 : Bd 4000 1 := bd_small 4000 (by decide) (by decide) (by decide)
theorem rw_mul {S t b u : Int} {d : Dat} (h : RW S d) (hd : d = .rat t b) : RW (S * u) (mkRat (t * u) (b * 1)) := by
  obtain ⟨t', b', e, h0, h1, h2⟩ := h
  rw [hd] at e
  injection e with e1 e2
  subst e1 e2
  refine mkRat_rw (by omega) ?_
  rw [Int.mul_one, ← Int.mul_assoc, h2, Int.mul_assoc, Int.mul_comm b, ← Int.mul_assoc]
theorem rw_add {S s : Int} {d e : Dat} (h : RW S d) (k : RW s e) : RW (S + s) (mkRat ((tbD d).1 * (tbD e).2 + (tbD e).1 * (tbD d).2) ((tbD d).2 * (tbD e).2)) := by
  obtain ⟨t, b, rfl, h0, h1, h2⟩ := h
  obtain ⟨u, c, rfl, k0, k1, k2⟩ := k
  refine mkRat_rw (Int.mul_pos h0 k0) ?_
  show 4 * (t * c + u * b) = (S + s) * (b * c)
  have e1 : 4 * (t * c) = S * (b * c) := by rw [← Int.mul_assoc, h2, Int.mul_assoc]
  have e2 : 4 * (u * b) = s * (b * c) := by rw [← Int.mul_assoc, k2, Int.mul_assoc, Int.mul_comm c b]
  rw [Int.mul_add, e1, e2, Int.add_mul]
/-- x op y, so to the operands -/
theorem ev_ownR {A : Ad} {X : Cx} {Γ : Sls} {a b : Expr} {pos : Pos} {P1 P2 P : Dat → Prop} {op : Operator} {k j : Nat} {Pre : List Dat → Prop} {Post : List Dat → Dat → Prop} (M : CalM X.prog X.w X.K X.mg X.base A.R (PySem.dunder op.info.2) k (Pu A Pre Post)) (hr : Room j X.A) (O : OpC X.K A.R op.info.2)
    (ha : Ev A X a Γ P1) (hb : Ev A X b Γ P2) (h : ∀ d1 d2, P1 d1 → P2 d2 → (∃ t b, d1 = .rat t b) ∧ IsNum d2 ∧ Pre [d1, d2] ∧ ∀ d, Post [d1, d2] d → P d) (hk : k ≤ j := by decide) : Ev A X (.BinOp a op b pos) Γ P :=
  ev_two (pe_op (op_own M (hr.mono hk) O) pe_w pe_w) ha hb fun x y da db B H e1 e2 i1 i2 ex Q q => by
    obtain ⟨h1, h2, h3, h4⟩ := h da db e1 e2
    exact rk_own (A := A) (P := P) h1 h2 h3 h4 x y da db B H rfl rfl i1 i2 ex Q q
/-! ### what is_trial is asked -/
/-- the items of a value -/
def KV (d : Dat) : Prop := Kd d ∧ (IsNum d → NQ d)
def ValOk (v : Dat) : Prop := Kl v ∧ KS KV v
/-- the worths -/
def wL (es : List Dat) (i : Nat) : Int := wD (es.getD i .non)
theorem numB_num {d : Dat} (h : isNumB d = true) : IsNum d := by cases d <;> first | trivial | cases h
theorem areB_iff {d : Dat} {n : Nat} (h : areB d n = true) : ∃ es, itemsD d = some es ∧ es.length = n ∧ ∀ e ∈ es, IsNum e := by
  unfold areB at h
  split at h
  · rename_i es he
    rw [Bool.and_eq_true] at h
    exact ⟨es, he, of_decide_eq_true h.1, fun e h' => numB_num (List.all_eq_true.mp h.2 e h')⟩
  · cases h
section
variable {P : Program} {w : World} {K : PySem.W.Frag} {mg : Str → Option Value} {base : Heap} {A : Ad} {N : Addr} (T : Txt K mg A N) {n : Nat} {own : Own} (ok : OwnOk n own)
include T ok
theorem c_numbers_in : Cal P w K mg base "numbers_in" 5 (Pu A (Q2 fun d e => PrsOf n own d ∧ ValOk e) (O2 fun d e z => (areB e own.length = false ∧ z = .non) ∨ (areB e own.length = true ∧ ∃ es, itemsD e = some es ∧ z = .lst (es.map ratD)))) := by
  refine T.d_numbers_in.pu sc_numbers_in (by decide) (by rintro _ ⟨_, _, rfl, _⟩; rfl) ?_
  rintro f cdv A' outer s H _ hr ⟨_, v, rfl, ⟨zs, rfl, hz⟩, hk, hks⟩
  have nd := sc_numbers_in.nd
  refine (show Sb A _ _ [some (.im (.prs (.lst (own.map pairQ)) (.int (n : Nat)) (.lst zs))), some (.im v), none] _ from ?_)
  refine sb_if (k := !areB v own.length) (et_not (et_v (ev_c2 (c_are_numbers T) hr (ev_v 1 rfl) (ev_len (n := own.length) T.b_len (ev_or_ (r := .lst (own.map pairQ)) (n := .int (n : Nat)) (i := .lst zs) (ev_v 0) T.fP) fun z h => by rw [h]; show some (own.map pairQ).length = _; rw [List.length_map]) ⟨hk, fun es he => ⟨(hks es he).1, fun x hx => ((hks es he).2 x hx).1⟩, _, rfl⟩ fun z ⟨m, h1, h2⟩ => ?_))) (fun hc => ?_) (fun hc => sb_nil ?_)
  · have : own.length = m := by injection h1 with h1; exact Int.ofNat_inj.mp h1
    subst this
    exact h2
  · exact sb_ret ev_non fun z h => ⟨_, _, rfl, .inl ⟨by simpa using hc, h⟩⟩
  · have hc' : areB v own.length = true := by simpa using hc
    obtain ⟨es, he, hl, hn⟩ := areB_iff hc'
    refine sb_ret (P := fun z => z = .lst (es.map ratD)) (EvN.ev (en_map [("number", 2)] ratD (wk_seq (ev_v 1 rfl) he) (fun x hx => ?_) (hks es he).1 (own1 rfl)) fun ds h => by rw [h]) fun z h => ⟨_, _, rfl, .inr ⟨hc', es, he, h⟩⟩
    exact ⟨_, [2], by decide, fun s H C cl fp => tg_name 2, fun s H C cl fp => ev_c1 (c_ratio_of T) hr (ev_v 2 rfl) (hn x hx) fun z h => h⟩
/-- the numbers of a sum -/
def NumsOf (c : Nat → Int) (rs : List Dat) : Prop := ∀ i d, rs[i]? = some d → RW (c i) d ∧ (c i).natAbs ≤ 8
omit T ok in
theorem term_bd {n : Nat} {own : Own} (ok : OwnOk n own) {c : Nat → Int} {i p q : Nat} (hi : i < own.length) (hc : (c i).natAbs ≤ 8) :
    (rowf (fstR own i) p * rowf (sndR own i) q - rowf (sndR own i) p * rowf (fstR own i) q).natAbs ≤ 98 ∧ (c i * (rowf (fstR own i) p * rowf (sndR own i) q - rowf (sndR own i) p * rowf (fstR own i) q)).natAbs ≤ 784 := by
  have o := ok.ok _ (List.mem_of_getElem? (own_at hi))
  have b : ∀ j, (rowf (fstR own i) j).natAbs ≤ 7 ∧ (rowf (sndR own i) j).natAbs ≤ 7 := fun j => ⟨Nat.le_of_lt_succ (o.1.2.at j), Nat.le_of_lt_succ (o.2.2.at j)⟩
  have m : ∀ {x y : Int}, x.natAbs ≤ 7 → y.natAbs ≤ 7 → (x * y).natAbs ≤ 49 := fun {x y} hx hy => by
    rw [Int.natAbs_mul]
    exact Nat.mul_le_mul hx hy
  have m1 := m (b p).1 (b q).2
  have m2 := m (b p).2 (b q).1
  have h98 : (rowf (fstR own i) p * rowf (sndR own i) q - rowf (sndR own i) p * rowf (fstR own i) q).natAbs ≤ 98 := by omega
  refine ⟨h98, ?_⟩
  rw [Int.natAbs_mul]
  exact Nat.mul_le_mul hc h98
theorem c_sum_at : Cal P w K mg base "sum_at" 5 (Pu A (Q4 fun d e g h => PrsOf n own d ∧ ∃ (rs : List Dat) (c : Nat → Int) (p q : Nat), e = .lst rs ∧ rs.length = own.length ∧ NumsOf c rs ∧ g = .int p ∧ h = .int q ∧ p < n ∧ q < n)
    (O4 fun d e g h z => ∀ (rs : List Dat) (c : Nat → Int) (p q : Nat), e = .lst rs → NumsOf c rs → rs.length = own.length → g = .int p → h = .int q → p < n → q < n → RW (trn own c p q) z ∧ (trn own c p q).natAbs ≤ 3920)) := by
  refine T.d_sum_at.pu sc_sum_at (by decide) (by rintro _ ⟨_, _, _, _, rfl, _⟩; rfl) ?_
  rintro f cdv A' outer s H _ hr ⟨_, _, _, _, rfl, ⟨zs, rfl, hz⟩, rs, c, p, q, rfl, hl, hn, rfl, rfl, hp, hq⟩
  have nd := sc_sum_at.nd
  have l5 := ok.l8
  refine (show Sb A _ _ [some (.im (.prs (.lst (own.map pairQ)) (.int (n : Nat)) (.lst zs))), some (.im (.lst rs)), some (.im (.int (p : Nat))), some (.im (.int (q : Nat))), none, none, none, none, none] _ from ?_)
  have fin : ∀ z : Dat, (RW (trn own c p q) z ∧ (trn own c p q).natAbs ≤ 3920) → (O4 fun d e g h z => ∀ (rs : List Dat) (c : Nat → Int) (p q : Nat), e = .lst rs → NumsOf c rs → rs.length = own.length → g = .int p → h = .int q → p < n → q < n → RW (trn own c p q) z ∧ (trn own c p q).natAbs ≤ 3920) [.prs (.lst (own.map pairQ)) (.int (n : Nat)) (.lst zs), .lst rs, .int (p : Nat), .int (q : Nat)] z := fun z hz => ⟨_, _, _, _, rfl, fun rs2 c2 p2 q2 e1 e2 e3 e4 e5 _ _ => by
    have e1 : rs = rs2 := by injection e1
    have e4 : p = p2 := by injection e4 with e; exact Int.ofNat_inj.mp e
    have e5 : q = q2 := by injection e5 with e; exact Int.ofNat_inj.mp e
    subst e1 e4 e5
    have same : trn own c2 p q = trn own c p q := sm_congr fun i hi => by
      have hi' : i < rs.length := by rw [hl]; exact hi
      obtain ⟨⟨t, b, g1, g2, g3, g4⟩, _⟩ := hn i _ (List.getElem?_eq_getElem hi')
      obtain ⟨⟨t', b', k1, k2, k3, k4⟩, _⟩ := e2 i _ (List.getElem?_eq_getElem hi')
      rw [g1] at k1
      injection k1 with k5 k6
      subst k5 k6
      have : c2 i = c i := Int.eq_of_mul_eq_mul_right (Int.ne_of_gt g2) (k4.symm.trans g4)
      rw [this]
    rw [same]
    exact hz⟩
  refine sb_set 4 (P := fun z => z = .rat 0 1) (ev_R1 T hr ev_int) (fun d h => ?_)
  subst h
  refine sb_for (ds := zipD rs (own.map pairQ)) (wk_zip (ev_v 1 rfl) (ev_or_ (r := .lst (own.map pairQ)) (n := .int (n : Nat)) (i := .lst zs) (ev_v 0) T.fP) T.b_zip)
    (fun k Γ' => ∃ (fd : Dat) (x5 x6 x7 x8 : Option Sl), Γ' = [some (.im (.prs (.lst (own.map pairQ)) (.int (n : Nat)) (.lst zs))), some (.im (.lst rs)), some (.im (.int (p : Nat))), some (.im (.int (q : Nat))), some (.im fd), x5, x6, x7, x8] ∧
      RW (sm k fun i => c i * (rowf (fstR own i) p * rowf (sndR own i) q - rowf (sndR own i) p * rowf (fstR own i) q)) fd ∧ (sm k fun i => c i * (rowf (fstR own i) p * rowf (sndR own i) q - rowf (sndR own i) p * rowf (fstR own i) q)).natAbs ≤ 784 * k ∧ k ≤ own.length)
    ⟨.rat 0 1, none, none, none, none, rfl, ⟨0, 1, rfl, by decide, one4, rfl⟩, Nat.le_refl _, Nat.zero_le _⟩ ?_ ?_
  · rintro k d _ hd ⟨fd, x5, x6, x7, x8, rfl, h1, h2, h3⟩
    obtain ⟨x, y, hx, hy, rfl⟩ := zipD_at hd
    rw [List.getElem?_map] at hy
    obtain ⟨r, hr', rfl⟩ := Option.map_eq_some_iff.mp hy
    have hk : k < own.length := (List.getElem?_eq_some_iff.mp hr').1
    have er : r = (fstR own k, sndR own k) := by
      have := own_at hk
      rw [hr'] at this
      exact Option.some.inj this
    subst er
    obtain ⟨hw, hw8⟩ := hn k x hx
    obtain ⟨t98, t784⟩ := term_bd ok (p := p) (q := q) hk hw8
    obtain ⟨t, b, rfl, b0, b4, ht⟩ := hw
    have o := ok.ok _ (List.mem_of_getElem? hr')
    refine ⟨_, _, tg_two (tg_name 5) (tg_name 6), ?_⟩
    refine (show Sb A _ _ [some (.im (.prs (.lst (own.map pairQ)) (.int (n : Nat)) (.lst zs))), some (.im (.lst rs)), some (.im (.int (p : Nat))), some (.im (.int (q : Nat))), some (.im fd), some (.im (.rat t b)), some (.im (pairQ (fstR own k, sndR own k))), x7, x8] _ from ?_)
    have step : (sm (k + 1) fun i => c i * (rowf (fstR own i) p * rowf (sndR own i) q - rowf (sndR own i) p * rowf (fstR own i) q)) = (sm k fun i => c i * (rowf (fstR own i) p * rowf (sndR own i) q - rowf (sndR own i) p * rowf (fstR own i) q)) + c k * (rowf (fstR own k) p * rowf (sndR own k) q - rowf (sndR own k) p * rowf (fstR own k) q) := rfl
    refine sb_if (k := !decide (t = 0)) (et_cmp (k := !decide (t = 0)) op_ne (P1 := fun z => ∃ i, z = .int i ∧ (i = 0 ↔ t = 0)) (P2 := fun z => z = .int 0) (ev_prop (t := t) (bt := b) (g_sign T) hr T.fR.cl (ev_v 5) ⟨⟨_, rfl, t, b, rfl⟩, fun z ⟨d, q1, q2⟩ => by cases q1; exact q2⟩) ev_int (fun u v da db B H e1 e2 i1 i2 ex Q qq => ?_) (nomark _)) (fun hc => ?_) (fun hc => ?_)
    · obtain ⟨i, rfl, hi⟩ := e1
      subst e2
      have := rk_ne (A := A) (i := i) (j := 0) u v _ _ B H rfl rfl i1 i2 ex Q fun v' B' H' d' p' s' i' => qq v' B' H' d' (by rw [p']; congr 1; congr 1; exact decide_eq_decide.mpr hi) s' i'
      exact this
    · refine sb_asg (P := fun z => z = pairQ (fstR own k, sndR own k)) (ev_v 6 rfl) (fun d h => ?_)
      subst h
      refine ⟨_, _, tg_two (tg_name 7) (tg_name 8), ?_⟩
      refine (show Sb A _ _ [some (.im (.prs (.lst (own.map pairQ)) (.int (n : Nat)) (.lst zs))), some (.im (.lst rs)), some (.im (.int (p : Nat))), some (.im (.int (q : Nat))), some (.im fd), some (.im (.rat t b)), some (.im (pairQ (fstR own k, sndR own k))), some (.im (ratRow (fstR own k))), some (.im (ratRow (sndR own k)))] _ from ?_)
      have at' : ∀ {r : List Int} {j : Nat}, r.length = n → j < n → atI (r.map fun i => Dat.rat i 1) ((j : Nat) : Int) = some (.rat (rowf r j) 1) := fun {r j} hl hj => atI_n (by rw [List.getElem?_map, rowf_at (by rw [hl]; exact hj)]; rfl)
      have nb : ∀ {r : List Int} {j : Nat}, RBd 3 r → NumB 4000 (.rat (rowf r j) 1) := fun {r j} hB => ⟨trivial, Int.one_pos, (hB.at j).mono (by decide), one4000⟩
      have prod : ∀ {d1 d2 : Dat} {x y : Int}, d1 = .rat x 1 → d2 = .rat y 1 → mkRat ((tbD d1).1 * (tbD d2).1) ((tbD d1).2 * (tbD d2).2) = .rat (x * y) 1 := fun {d1 d2 x y} h1 h2 => by
        subst h1 h2
        exact mkRat_one (x * y)
      have b49 : ∀ {x y : Int}, Bd 3 x → Bd 3 y → NumB 4000 (.rat (x * y) 1) := fun {x y} hx hy => ⟨trivial, Int.one_pos, (hx.mul hy).mono (by decide), one4000⟩
      have tri : ∀ {x y : Dat}, (∃ t b, x = .rat t b) → NumB 4000 x → NumB 4000 y → ((∃ t b, x = .rat t b) ∧ NumB 4000 x ∧ NumB 4000 y) := fun a b c => ⟨a, b, c⟩
      refine sb_set 4 (P := RW (sm (k + 1) fun i => c i * (rowf (fstR own i) p * rowf (sndR own i) q - rowf (sndR own i) p * rowf (fstR own i) q))) (ev_ownR (op := .Add) (P1 := fun z => z = fd) (P2 := RW (c k * (rowf (fstR own k) p * rowf (sndR own k) q - rowf (sndR own k) p * rowf (fstR own k) q))) (m_add T) hr T.oAdd (ev_v 4)
        (ev_ownR (op := .Mult) (P1 := fun z => z = .rat t b) (P2 := fun z => z = .rat (rowf (fstR own k) p * rowf (sndR own k) q - rowf (sndR own k) p * rowf (fstR own k) q) 1) (m_mul T) hr T.oMul (ev_v 5)
          (ev_ownR (op := .Sub) (P1 := fun z => z = .rat (rowf (fstR own k) p * rowf (sndR own k) q) 1) (P2 := fun z => z = .rat (rowf (sndR own k) p * rowf (fstR own k) q) 1) (m_sub T) hr T.oSub
            (ev_ownR (op := .Mult) (P1 := fun z => z = .rat (rowf (fstR own k) p) 1) (P2 := fun z => z = .rat (rowf (sndR own k) q) 1) (m_mul T) hr T.oMul (ev_atL (ev_v 7) (ev_v 2) (at' o.1.1 hp)) (ev_atL (ev_v 8) (ev_v 3) (at' o.2.1 hq)) ?_)
            (ev_ownR (op := .Mult) (P1 := fun z => z = .rat (rowf (sndR own k) p) 1) (P2 := fun z => z = .rat (rowf (fstR own k) q) 1) (m_mul T) hr T.oMul (ev_atL (ev_v 8) (ev_v 2) (at' o.2.1 hp)) (ev_atL (ev_v 7) (ev_v 3) (at' o.1.1 hq)) ?_) ?_) ?_) ?_) (fun d h => ?_)
      · intro d1 d2 e1 e2
        subst e1 e2
        exact ⟨⟨_, _, rfl⟩, trivial, ⟨_, _, rfl, ⟨_, _, rfl⟩, nb o.1.2, nb o.2.2⟩, fun d ⟨_, _, q1, q2⟩ => by cases q1; rw [q2]; exact mkRat_one _⟩
      · intro d1 d2 e1 e2
        subst e1 e2
        exact ⟨⟨_, _, rfl⟩, trivial, ⟨_, _, rfl, ⟨_, _, rfl⟩, nb o.2.2, nb o.1.2⟩, fun d ⟨_, _, q1, q2⟩ => by cases q1; rw [q2]; exact mkRat_one _⟩
      · intro d1 d2 e1 e2
        subst e1 e2
        exact ⟨⟨_, _, rfl⟩, trivial, ⟨_, _, rfl, ⟨_, _, rfl⟩, b49 (o.1.2.at p) (o.2.2.at q), b49 (o.2.2.at p) (o.1.2.at q)⟩, fun d ⟨_, _, q1, q2⟩ => by
          cases q1
          rw [q2]
          show mkRat (_ * 1 - _ * 1) (1 * 1) = _
          rw [Int.mul_one, Int.mul_one]
          exact mkRat_one _⟩
      · intro d1 d2 e1 e2
        subst e1 e2
        refine ⟨⟨_, _, rfl⟩, trivial, ⟨_, _, rfl, ⟨_, _, rfl⟩, RW.num ⟨t, b, rfl, b0, b4, ht⟩ (Nat.lt_of_le_of_lt hw8 (Nat.lt_of_lt_of_le (show 8 < 2 ^ 4 by decide) (Nat.pow_le_pow_right (by decide) (by decide)))), ⟨trivial, Int.one_pos, Nat.lt_of_le_of_lt t98 (Nat.lt_of_lt_of_le (show 98 < 2 ^ 7 by decide) (Nat.pow_le_pow_right (by decide) (by decide))), one4000⟩⟩, fun d ⟨_, _, q1, q2⟩ => ?_⟩
        cases q1
        rw [q2]
        exact rw_mul ⟨t, b, rfl, b0, b4, ht⟩ rfl
      · intro d1 d2 e1 e2
        subst e1
        have big : ∀ {x : Int}, x.natAbs ≤ 4000 → Bd 4000 x := fun {x} h => Nat.lt_of_le_of_lt h (Nat.lt_of_lt_of_le (show 4000 < 2 ^ 12 by decide) (Nat.pow_le_pow_right (by decide) (by decide)))
        have n1 := RW.num h1 (big (by omega))
        have n2 := RW.num e2 (big (by omega))
        obtain ⟨t1, b1, f1, f2⟩ := h1
        subst f1
        refine ⟨⟨_, _, rfl⟩, n2.1, ⟨_, _, rfl, ⟨_, _, rfl⟩, n1, n2⟩, fun d ⟨_, _, q1, q2⟩ => ?_⟩
        cases q1
        rw [q2, step]
        exact rw_add ⟨t1, b1, rfl, f2⟩ e2
      · refine sb_nil (sb_nil ⟨d, _, _, _, _, rfl, h, ?_, hk⟩)
        rw [step]
        omega
    · have t0 : t = 0 := by
        by_cases e : t = 0
        · exact e
        · simp [e] at hc
      have c0 : c k = 0 := (RW.zero (d := .rat t b) ⟨t, b, rfl, b0, b4, ht⟩).mp t0
      refine sb_nil (sb_nil ⟨fd, _, _, _, _, rfl, ?_, ?_, hk⟩)
      · rw [step, c0, Int.zero_mul, Int.add_zero]
        exact h1
      · rw [step, c0, Int.zero_mul, Int.add_zero]
        omega
  · rintro _ ⟨fd, x5, x6, x7, x8, rfl, h1, h2, h3⟩
    have e : (zipD rs (own.map pairQ)).length = own.length := by
      rw [zipD_len, List.length_map, hl]
      omega
    rw [e] at h1 h2
    exact sb_ret (ev_v 4) fun z h => fin z (by rw [h]; exact ⟨h1, by show (sm own.length _).natAbs ≤ _; omega⟩)
end
end K64
/-! A matrix of one's own, written place by place. -/
namespace K64
open PySem L2
def RowAt (A : Ad) (F : Fx) (B H : Hp) (q : Addr) (ds : List Dat) : Prop := F.H0 q = none ∧ F.mp ≠ some q ∧ B q = none ∧ ∃ xs, H q = some (.lst xs) ∧ Iss A B ds xs
structure MatOk (A : Ad) (F : Fx) (B H : Hp) (p : Addr) (qs : List Addr) (M : List (List Dat)) : Prop where
  p0 : F.H0 p = none
  pm : F.mp ≠ some p
  pB : B p = none
  pH : H p = some (.lst (qs.map V.ref))
  pq : p ∉ qs
  nd : qs.Nodup
  rows : Fa2 (RowAt A F B H) qs M
section
variable {A : Ad} {F : Fx} {Γ : Sls} {σ : L2.St} {B H B' H' : Hp} {p : Addr} {qs : List Addr} {M : List (List Dat)}
theorem RowAt.step {q : Addr} {ds : List Dat} (s : Stp F.mp B H B' H') (h : RowAt A F B H q ds) : RowAt A F B' H' q ds := by
  obtain ⟨h1, h2, h3, xs, h4, h5⟩ := h
  exact ⟨h1, h2, s.av q h3 (by rw [h4]; exact fun z => nomatch z), xs, s.ex q _ (fun z => h2 z.symm) h4, h5.mono s.exB⟩
theorem MatOk.step (s : Stp F.mp B H B' H') (h : MatOk A F B H p qs M) : MatOk A F B' H' p qs M where
  p0 := h.p0
  pm := h.pm
  pB := s.av p h.pB (by rw [h.pH]; exact fun z => nomatch z)
  pH := s.ex p _ (fun z => h.pm z.symm) h.pH
  pq := h.pq
  nd := h.nd
  rows := h.rows.imp fun q ds _ r => r.step s
theorem MatOk.base {B1 : Hp} (h : MatOk A F B H p qs M) : MatOk A ⟨F.mp, B1, F.H0⟩ B H p qs M := ⟨h.p0, h.pm, h.pB, h.pH, h.pq, h.nd, h.rows.imp fun q ds _ r => r⟩
theorem MatOk.unbase {B1 : Hp} (h : MatOk A ⟨F.mp, B1, F.H0⟩ B H p qs M) : MatOk A F B H p qs M := ⟨h.p0, h.pm, h.pB, h.pH, h.pq, h.nd, h.rows.imp fun q ds _ r => r⟩
/-- a row is written -/
theorem rows_put {q : Addr} {ds' : List Dat} {ys : List V} (hy : Iss A B ds' ys) : ∀ {qs : List Addr} {M : List (List Dat)} {i : Nat}, qs.Nodup → Fa2 (RowAt A F B H) qs M → qs[i]? = some q → Fa2 (RowAt A F B (upd H q (.lst ys))) qs (M.set i ds')
  | [], _, _, _, _, h => by simp at h
  | q' :: qs, M, 0, nd, ⟨ds, r, h1, h2, h3⟩, h => by
    subst h1
    cases h
    obtain ⟨n1, n2⟩ := List.nodup_cons.mp nd
    refine ⟨ds', r, rfl, ⟨h2.1, h2.2.1, h2.2.2.1, ys, upd_same, hy⟩, h3.imp fun q2 d2 hm r2 => ?_⟩
    have c : q2 ≠ q := fun z => n1 (z ▸ hm)
    obtain ⟨a1, a2, a3, xs, a4, a5⟩ := r2
    exact ⟨a1, a2, a3, xs, by rw [upd_ne c]; exact a4, a5⟩
  | q' :: qs, M, i + 1, nd, ⟨ds, r, h1, h2, h3⟩, h => by
    subst h1
    obtain ⟨n1, n2⟩ := List.nodup_cons.mp nd
    have hm : q ∈ qs := List.mem_of_getElem? (show qs[i]? = some q from h)
    have c : q' ≠ q := fun z => n1 (z ▸ hm)
    obtain ⟨a1, a2, a3, xs, a4, a5⟩ := h2
    exact ⟨ds, _, rfl, ⟨a1, a2, a3, xs, by rw [upd_ne c]; exact a4, a5⟩, rows_put hy (i := i) n2 h3 h⟩
theorem MatOk.put {i : Nat} {q : Addr} {ds' : List Dat} {ys : List V} (h : MatOk A F B H p qs M) (hq : qs[i]? = some q) (hy : Iss A B ds' ys) : MatOk A F B (upd H q (.lst ys)) p qs (M.set i ds') where
  p0 := h.p0
  pm := h.pm
  pB := h.pB
  pH := by
    have c : p ≠ q := fun z => h.pq (z ▸ List.mem_of_getElem? hq)
    rw [upd_ne c]; exact h.pH
  pq := h.pq
  nd := h.nd
  rows := rows_put hy h.nd h.rows hq
/-- the rows become known -/
theorem know_rows {mp : Option Addr} {B0 H0 : Hp} : ∀ {qs : List Addr} {M : List (List Dat)} {B : Hp}, qs.Nodup → Fa2 (RowAt A ⟨mp, B0, H0⟩ B H) qs M → Stp mp B0 H0 B H → ∃ B', Ex B B' ∧ Stp mp B0 H0 B' H ∧ Iss A B' (M.map Dat.lst) (qs.map V.ref) ∧ ∀ a, a ∉ qs → B' a = B a
  | [], _, B, _, h, s => by cases h; exact ⟨B, Ex.refl B, s, rfl, fun _ _ => rfl⟩
  | q :: qs, M, B, nd, ⟨ds, r, h1, h2, h3⟩, s => by
    subst h1
    obtain ⟨n1, n2⟩ := List.nodup_cons.mp nd
    obtain ⟨a1, a2, a3, xs, a4, a5⟩ := h2
    have s1 := s.know (s.exB.back a3) a1 a2 a4
    have e1 : Ex B (upd B q (.lst xs)) := Ex.new a3
    obtain ⟨B', e, s', i', k⟩ := know_rows (B := upd B q (.lst xs)) n2 (h3.imp fun q2 d2 hm ⟨b1, b2, b3, ys, b4, b5⟩ => ⟨b1, b2, by
      have c : q2 ≠ q := fun z => n1 (by rw [← z]; exact hm)
      rw [upd_ne c]; exact b3, ys, b4, b5.mono e1⟩) s1
    have hq : B' q = some (.lst xs) := by rw [k q n1, upd_same]
    exact ⟨B', e1.trans e, s', ⟨.ref q, _, rfl, ⟨q, xs, rfl, hq, a5.mono (e1.trans e)⟩, i'⟩, fun a ha => by
      have c : a ≠ q := fun z => ha (by rw [z]; exact .head _)
      rw [k a fun z => ha (.tail _ z), upd_ne c]⟩
theorem MatOk.know (s : Stp F.mp F.B0 F.H0 B H) (h : MatOk A F B H p qs M) : ∃ B', Stp F.mp F.B0 F.H0 B' H ∧ Is A B' (.lst (M.map Dat.lst)) (.ref p) := by
  obtain ⟨B1, e1, s1, i1, k1⟩ := know_rows (mp := F.mp) (B0 := F.B0) (H0 := F.H0) h.nd h.rows s
  have hp : B1 p = none := by rw [k1 p h.pq]; exact h.pB
  exact ⟨_, s1.know (s1.exB.back hp) h.p0 h.pm h.pH, p, _, rfl, upd_same, i1.mono (Ex.new hp)⟩
end
theorem ixN_at {n j : Nat} (h : j < n) : ixN n ((j : Nat) : Int) = some j := by
  unfold ixN
  rw [if_pos (by omega), if_pos (by omega), Int.toNat_natCast]
/-! ### blocks beside a matrix -/
def RelM (A : Ad) (F : Fx) (Γ : Sls) (σ : L2.St) (B H : Hp) (m : Nat) (M : List (List Dat)) : Prop := Rel A F Γ σ B H ∧ ∃ p qs, σ[m]? = some (some (.ref p)) ∧ MatOk A F B H p qs M
structure EndsM (A : Ad) (F : Fx) (m : Nat) (nx : Sls → List (List Dat) → Prop) (rt : Dat → Prop) (D : Ends) : Prop where
  nx : ∀ (Γ : Sls) (M : List (List Dat)) (σ : L2.St) (B H : Hp), nx Γ M → RelM A F Γ σ B H m M → D.nx σ H
  rt : ∀ (d : Dat) (v : V) (B H : Hp), rt d → Stp F.mp F.B0 F.H0 B H → Is A B d v → D.rt v H
def SbM (A : Ad) (X : Cx) (m : Nat) (sts : List Stmt) (Γ : Sls) (M : List (List Dat)) (nx : Sls → List (List Dat) → Prop) (rt : Dat → Prop) : Prop :=
  ∀ (F : Fx) (D : Ends) (σ : L2.St) (B H : Hp), EndsM A F m nx rt D → RelM A F Γ σ B H m M → wB X sts D σ H
def noMu : Sls → Bool
  | [] => true
  | some (.mu _) :: _ => false
  | _ :: r => noMu r
theorem noMu_at : ∀ {Γ : Sls} {j : Nat} {es : List Dat}, noMu Γ = true → Γ[j]? ≠ some (some (.mu es))
  | [], _, _, _, e => by simp at e
  | some (.mu _) :: _, _, _, h, _ => by cases h
  | none :: _, 0, _, _, e => by cases e
  | some (.im d) :: _, 0, _, _, e => by cases e
  | some .pot :: _, 0, _, _, e => by cases e
  | some (.self _ _) :: _, 0, _, _, e => by cases e
  | some (.pin _ _ _) :: _, 0, _, _, e => by cases e
  | none :: r, j + 1, _, h, e => noMu_at (Γ := r) (j := j) h e
  | some (.im d) :: r, j + 1, _, h, e => noMu_at (Γ := r) (j := j) h e
  | some .pot :: r, j + 1, _, h, e => noMu_at (Γ := r) (j := j) h e
  | some (.self _ _) :: r, j + 1, _, h, e => noMu_at (Γ := r) (j := j) h e
  | some (.pin _ _ _) :: r, j + 1, _, h, e => noMu_at (Γ := r) (j := j) h e
section
variable {A : Ad} {X : Cx} {Γ : Sls} {M : List (List Dat)} {m : Nat} {st : Stmt} {rest : List Stmt} {nx : Sls → List (List Dat) → Prop} {rt : Dat → Prop} {e : Expr} {P : Dat → Prop} {pos : Pos}
theorem RelM.step {F : Fx} {σ : L2.St} {B H B' H' : Hp} (R : RelM A F Γ σ B H m M) (s : Stp F.mp B H B' H') (R' : Rel A F Γ σ B' H') : RelM A F Γ σ B' H' m M :=
  let ⟨p, qs, h1, h2⟩ := R.2
  ⟨R', p, qs, h1, h2.step s⟩
theorem sbm_nil (h : nx Γ M) : SbM A X m [] Γ M nx rt := fun F D σ B H E R => ⟨_, pss_nil, E.nx Γ M σ B H h R⟩
theorem sbm_st {t : TS} (ps : PS X st t) (h : ∀ (F : Fx) (D : Ends) (σ : L2.St) (B H : Hp), EndsM A F m (fun Γ' M' => SbM A X m rest Γ' M' nx rt) rt D → RelM A F Γ σ B H m M → t D σ H) : SbM A X m (st :: rest) Γ M nx rt := fun F D σ B H E R =>
  wB.cons ps (h F _ σ B H ⟨fun Γ' M' σ' B' H' s R' => s F D σ' B' H' E R', E.rt⟩ R)
theorem sbm_ret {x : Str} {pn : Pos} (k : rt (.lst (M.map Dat.lst))) (pe : PE X (.Name x pn) (tVar m) := by exact pv _) : SbM A X m (.Return (some (.Name x pn)) pos :: rest) Γ M nx rt :=
  sbm_st (ps_ret pe) fun F D σ B H E ⟨R, p, qs, h1, h2⟩ => by
    obtain ⟨B', s, iv⟩ := h2.know R.st
    exact ⟨_, h1, E.rt _ _ B' H k s iv⟩
/-- rows[i][j] = e -/
theorem sbm_put {x : Str} {pn p1 p2 : Pos} {e1 e2 : Expr} {i j : Nat} {row : List Dat} (he : ∀ (F : Fx) (σ : L2.St) (B H : Hp), RelM A F Γ σ B H m M → ∀ Q : VK, (∀ v B' H' d, P d → Stp F.mp B H B' H' → Rel A F Γ σ B' H' → Is A B' d v → Q v H') → wE X e σ H Q) (h1 : Ev A X e1 Γ (fun z => z = .int (i : Nat))) (h2 : Ev A X e2 Γ (fun z => z = .int (j : Nat))) (hi : M[i]? = some row) (hj : j < row.length) (hmu : noMu Γ = true)
    (k : ∀ d, P d → SbM A X m rest Γ (M.set i (row.set j d)) nx rt) (pe : PE X (.Name x pn) (tVar m) := by exact pv _) (hs1 : PlainIx e1 := by exact fun _ _ => rfl) 
    (hs : swapsWithSole [.Subscript (.Subscript (.Name x pn) e1 p1) e2 p2] e pos.line X.env = pure false := by rfl) (hw : swappedStores [.Subscript (.Subscript (.Name x pn) e1 p1) e2 p2] e X.env = pure none := by rfl)
    (ha : (assignEach [.Subscript (.Subscript (.Name x pn) e1 p1) e2 p2] X.env).map (·.2) = [assign (.Subscript (.Subscript (.Name x pn) e1 p1) e2 p2) X.env] := by rfl)
    (hb : ∀ v, assign (.Subscript (.Subscript (.Name x pn) e1 p1) e2 p2) X.env v = (do
      let ov ← holding [v] (eval (.Subscript (.Name x pn) e1 p1) X.env)
      let iv ← holding [v, ov] (eval e2 X.env)
      standAt p2
      holding [v, ov, iv] (setItem ov iv v)
      release [v, ov, iv] []) := by intro _; rfl) : SbM A X m (.Assign [.Subscript (.Subscript (.Name x pn) e1 p1) e2 p2] e pos :: rest) Γ M nx rt :=
  sbm_st (ps_asg pe_w (pg_sub (pe_ix ix_list pe pe_w hs1) pe_w set_list hb) hs hw ha) fun F D σ B H E R => he F σ B H R _ fun v B1 H1 d pd s1 R1 iv => by
    have M1 := R.step s1 R1
    obtain ⟨p, qs, hσ, mo⟩ := M1.2
    refine ⟨_, hσ, h1 F σ B1 H1 R1 _ fun y B2 H2 db p2 s2 R2 i2 => ?_⟩
    subst p2
    cases i2
    have mo2 := mo.step s2
    have hq : ∃ q, qs[i]? = some q := by
      have hlt : i < qs.length := by rw [← mo2.rows.len]; exact (List.getElem?_eq_some_iff.mp hi).1
      exact ⟨_, List.getElem?_eq_getElem hlt⟩
    obtain ⟨q, hq⟩ := hq
    refine ⟨p, _, (i : Nat), .ref q, rfl, rfl, SqL.of mo2.pH, atI_n (by rw [List.getElem?_map, hq]; rfl), ?_⟩
    refine h2 F σ B2 H2 R2 _ fun y B3 H3 db p3 s3 R3 i3 => ?_
    subst p3
    cases i3
    have mo3 := mo2.step s3
    obtain ⟨row', hr', c1, c2, c3, xs, c4, c5⟩ := mo3.rows.at hq
    rw [hi] at hr'
    cases hr'
    refine ⟨q, xs, (j : Nat), j, rfl, rfl, c4, ixN_at (by rw [← c5.len]; exact hj), ?_⟩
    have iv3 : Is A B3 d v := (iv.mono s2.exB).mono s3.exB
    refine E.nx _ _ σ B3 _ (k d pd) ⟨R3.putOff c1 c2 c3 (fun jj es hh => absurd hh (noMu_at hmu)), p, qs, hσ, mo3.put hq ?_⟩
    have set_iss : ∀ {ds : List Dat} {vs : List V} {n : Nat}, Iss A B3 ds vs → Iss A B3 (ds.set n d) (vs.set n v) := fun {ds} => by
      induction ds with
      | nil => intro vs n h; cases h; rfl
      | cons d' ds ih =>
        intro vs n h
        obtain ⟨v', r, e, g1, g2⟩ := h
        subst e
        cases n with
        | zero => exact ⟨v, r, rfl, iv3, g2⟩
        | succ n => exact ⟨v', _, rfl, g1, ih g2⟩
    exact set_iss c5
/-- - rows[i][j] -/
theorem evm_negAt {a1 a2 : Expr} {x : Str} {pn p1 p2 : Pos} {i j : Nat} {row : List Dat} {t bt : Int} {k kk : Nat} {Pre : List Dat → Prop} {Post : List Dat → Dat → Prop} (Mt : CalM X.prog X.w X.K X.mg X.base A.R "__neg__" k (Pu A Pre Post)) (hr : Room kk X.A) (h1 : Ev A X a1 Γ (fun z => z = .int (i : Nat))) (h2 : Ev A X a2 Γ (fun z => z = .int (j : Nat)))
    (hi : M[i]? = some row) (hj : row[j]? = some (.rat t bt)) (hp : Pre [.rat t bt]) (hP : ∀ d, Post [.rat t bt] d → P d) (hk : k ≤ kk := by decide) (pe : PE X (.Name x pn) (tVar m) := by exact pv _) (hs1 : PlainIx a1 := by exact fun _ _ => rfl) (hs2 : PlainIx a2 := by exact fun _ _ => rfl) :
    ∀ (F : Fx) (σ : L2.St) (B H : Hp), RelM A F Γ σ B H m M → ∀ Q : VK, (∀ v B' H' d, P d → Stp F.mp B H B' H' → Rel A F Γ σ B' H' → Is A B' d v → Q v H') → wE X (.UnaryOp .USub (.Subscript (.Subscript (.Name x pn) a1 p1) a2 p2) pos) σ H Q := fun F σ B H R Q q => by
  obtain ⟨p, qs, hσ, mo⟩ := R.2
  refine ⟨_, pe_un (un_own Mt (hr.mono hk)) (pe_ix ix_list (pe_ix ix_list pe pe_w hs1) pe_w hs2), ?_⟩
  refine ⟨_, hσ, h1 F σ B H R.1 _ fun y B2 H2 db p2 s2 R2 i2 => ?_⟩
  subst p2
  cases i2
  have mo2 := mo.step s2
  have hq : ∃ q, qs[i]? = some q := by
    have hlt : i < qs.length := by rw [← mo2.rows.len]; exact (List.getElem?_eq_some_iff.mp hi).1
    exact ⟨_, List.getElem?_eq_getElem hlt⟩
  obtain ⟨r, hq⟩ := hq
  refine ⟨p, _, (i : Nat), .ref r, rfl, rfl, SqL.of mo2.pH, atI_n (by rw [List.getElem?_map, hq]; rfl), ?_⟩
  refine h2 F σ B2 H2 R2 _ fun y B3 H3 db p3 s3 R3 i3 => ?_
  subst p3
  cases i3
  have mo3 := mo2.step s3
  obtain ⟨row', hr', c1, c2, c3, xs, c4, c5⟩ := mo3.rows.at hq
  rw [hi] at hr'
  cases hr'
  obtain ⟨v, hv, iv⟩ := c5.at hj
  refine ⟨r, xs, (j : Nat), v, rfl, rfl, SqL.of c4, atI_n hv, ?_⟩
  obtain ⟨a, dx, rfl, hB⟩ := id iv
  exact ⟨a, dx, _, rfl, R3.sub _ _ hB, B3, [.rat t bt], R3.sub, ⟨_, _, rfl, iv, rfl⟩, hp, fun d v B' H' pd s iv => q v B' H' d (hP d pd) ((s2.trans s3).trans (s.weak R3.mB)) (R3.step s) iv⟩
theorem evm {F : Fx} (h : Ev A X e Γ P) : ∀ (F : Fx) (σ : L2.St) (B H : Hp), RelM A F Γ σ B H m M → ∀ Q : VK, (∀ v B' H' d, P d → Stp F.mp B H B' H' → Rel A F Γ σ B' H' → Is A B' d v → Q v H') → wE X e σ H Q := fun F σ B H R Q q => h F σ B H R.1 Q q
theorem sbm_for {tg iter : Expr} {body : List Stmt} {ds : List Dat} (hw : Wk A X tg iter Γ ds) (Pv : Nat → Sls → List (List Dat) → Prop) (h0 : Pv 0 Γ M)
    (hs : ∀ k d Γ' M', ds[k]? = some d → Pv k Γ' M' → ∃ Γ'' js, m ∉ js ∧ Tg A X tg d Γ' Γ'' js ∧ SbM A X m body Γ'' M' (Pv (k + 1)) rt)
    (hd : ∀ Γ' M', Pv ds.length Γ' M' → SbM A X m rest Γ' M' nx rt) (hc : X.calm = true := by rfl) (hp : PassesOwn (model X.prog X.w) X.A X.env X.xe := by exact PassesOwn.never)
    (hf : ∀ x, foldedSetIterable iter X.env x = pure x := by intro _; rfl) : SbM A X m (.For tg iter body [] pos :: rest) Γ M nx rt :=
  sbm_st (ps_for hp hc pi_w pg_w pss_w hf) fun F D σ B H E R => hw F σ B H R.1 _ fun J B1 H1 s1 R1 y => by
    refine ⟨fun k n σ' H' => n = ds.length - k ∧ k ≤ ds.length ∧ ∃ Γ' M' B', Pv k Γ' M' ∧ Ex B1 B' ∧ RelM A F Γ' σ' B' H' m M', ⟨_, rfl, Nat.zero_le _, Γ, M, B1, h0, Ex.refl _, R.step s1 R1⟩, ?_⟩
    rintro k n σ' H' ⟨rfl, hk, Γ', M', B', pv, ex, R'⟩
    obtain ⟨y1, y2⟩ := y k B' H' ex R'.1.sub
    by_cases hlt : k < ds.length
    · have hd' : ds[k]? = some (ds[k]'hlt) := List.getElem?_eq_getElem hlt
      obtain ⟨go, yl⟩ := y1 _ hd'
      refine .inr ⟨go, fun σ2 H2 => ∃ Γ2 M2 B2, Pv (k + 1) Γ2 M2 ∧ Ex B1 B2 ∧ RelM A F Γ2 σ2 B2 H2 m M2, fun σ2 H2 ⟨Γ2, M2, B2, p2, e2, R2⟩ => ⟨_, by omega, rfl, hlt, Γ2, M2, B2, p2, e2, R2⟩, fun x H2 hy => ?_⟩
      obtain ⟨B2, s2, ix⟩ := yl x H2 hy
      have R2 := R'.1.step s2
      have R2m := R'.step (s2.weak R'.1.mB) R2
      obtain ⟨Γ3, js, hjs, t3, sb⟩ := hs k _ Γ' M' hd' pv
      refine t3.run F σ' B2 H2 x R2 ix _ fun σ3 R3 o3 => ?_
      have e3 : Ex B1 B2 := ex.trans s2.exB
      have R3m : RelM A F Γ3 σ3 B2 H2 m M' := by
        obtain ⟨p, qs, g1, g2⟩ := R2m.2
        exact ⟨R3, p, qs, (o3.2 m hjs).trans g1, g2⟩
      refine sb ⟨F.mp, B2, F.H0⟩ _ σ3 B2 H2 ⟨fun Γ4 M4 σ4 B4 H4 p4 R4 => ?_, fun d v B4 H4 p4 s4 iv => ?_⟩ ?_
      · obtain ⟨p, qs, g1, g2⟩ := R4.2
        exact ⟨Γ4, M4, B4, p4, e3.trans R4.1.st.exB, R4.1.unbase R3.st, p, qs, g1, g2.unbase⟩
      · exact E.rt d v B4 H4 p4 ⟨s4.ex, R3.st.exB.trans s4.exB, s4.sub, fun z h1 h2 => s4.av z (R3.st.av z h1 h2) h2, s4.mB⟩ iv
      · obtain ⟨p, qs, g1, g2⟩ := R3m.2
        exact ⟨R3.rebase, p, qs, g1, g2.base⟩
    · have e : k = ds.length := by omega
      subst e
      exact .inl ⟨y2 (Nat.le_refl _), E.nx _ _ σ' B' H' (hd Γ' M' pv) R'⟩
end
end K64
/-! The turned sum. -/
namespace K64
open PySem L2
section
variable {A : Ad} {X : Cx} {Γ : Sls}
/-- y = [a new row for x in ds], the rows one's own -/
theorem sb_mat (m : Nat) {y : Str} {py pos spos : Pos} {elt tg iter : Expr} {scope : Scope} (own : List (Str × Nat)) {ds : List Dat} (row : List Dat) {rest : List Stmt} {a : AE} (hw : Wk A X tg iter Γ ds)
    (hs : ∀ d, d ∈ ds → ∃ Γ'' js, (∀ j ∈ js, j ∈ own.map (·.2)) ∧ (Blk X scope fun Y => Tg A Y tg d Γ Γ'' js) ∧ (Blk X scope fun Y => EvN A Y elt Γ'' (fun z => z = row)))
    (hl : ds.length ≤ 100000) (hv : ∀ j ∈ own.map (·.2), Γ[j]? = some none) (hm0 : Γ[m]? = some none)
    (k : SbM A X m rest Γ (List.replicate ds.length row) (fun _ _ => False) a.rt) (hpt : a.pt → False)
    (hN : X.N.Nodup := by assumption) (ok : BlkOk X.N X.env.scope scope own := by exact blkOk_by rfl) (hi : X.N[m]? = some y := by rfl) (hyl : X.env.scope.names.lookup y = some .local := by rfl)
    (hk : X.env.scope.kind = .function := by rfl) (hln : (py.line == pos.line) = true := by rfl) (ha : (scope.names.any fun (n, k) => n == y && (k == .local || k == .cell)) = false := by rfl) (hc : X.calm = true := by rfl) (hf : ∀ x, foldedSetIterable iter X.env x = pure x := by intro _; rfl) :
    Sb A X (.Assign [.Name y py] (.ListComp elt [⟨tg, iter, [], 0⟩] scope pos) spos :: rest) Γ a := fun F D0 σ B H E R =>
  wB.cons (ps_setLc hc hN hi hyl (sw_true hk hyl hln ha) pi_w ok gC_ok tC_ok eC_ok hf) <| by
  refine hw F σ B H R _ fun J B1 H1 s1 R1 y D hD => ?_
  have hHD : H D = none := fresh_of s1 R1 hD
  have hnD : ∀ (j : Nat) (es : List Dat), Γ[j]? = some (some (.mu es)) → σ[j]? ≠ some (some (.ref D)) := slot_ne (B' := B) (H' := H) R1 hD
  have hD0 := R1.fresh0 hD
  have hDm := R1.nmp hD
  refine ⟨fun k m H' => m = ds.length - k ∧ k ≤ ds.length ∧ ∃ qs B', Stp F.mp B H B' H' ∧ Ex B1 B' ∧ Rel A F Γ σ B' H' ∧ B' D = none ∧ H' D = some (.lst (qs.map V.ref)) ∧ D ∉ qs ∧ qs.Nodup ∧ qs.length = k ∧ (∀ q ∈ qs, H q = none) ∧ Fa2 (RowAt A F B' H') qs (List.replicate k row),
    ⟨_, rfl, Nat.zero_le _, [], B1, s1.put (.inl hHD) (R1.sub.back hD), Ex.refl _, R1.putOff hD0 hDm (R1.sub.back hD) hnD, R1.sub.back hD, upd_same, List.not_mem_nil, List.nodup_nil, rfl, fun _ h => (nomatch h), rfl⟩, ?_⟩
  rintro k0 m0 H' ⟨rfl, hk0, qs, B', sB, ex, R', hBD, hHD', hDq, nd, hlen, hfr, hI⟩
  obtain ⟨y1, y2⟩ := y k0 B' H' ex R'.sub
  by_cases hlt : k0 < ds.length
  · have hd' : ds[k0]? = some (ds[k0]'hlt) := List.getElem?_eq_getElem hlt
    obtain ⟨go, yl⟩ := y1 _ hd'
    obtain ⟨Γ3, js, hjs, tg3, hE⟩ := hs _ (List.mem_of_getElem? hd')
    refine .inr ⟨go, fun H2 => ∃ qs B2, Stp F.mp B H B2 H2 ∧ Ex B1 B2 ∧ Rel A F Γ σ B2 H2 ∧ B2 D = none ∧ H2 D = some (.lst (qs.map V.ref)) ∧ D ∉ qs ∧ qs.Nodup ∧ qs.length = k0 + 1 ∧ (∀ q ∈ qs, H q = none) ∧ Fa2 (RowAt A F B2 H2) qs (List.replicate (k0 + 1) row),
      fun H2 ⟨qs, B2, r⟩ => ⟨_, by omega, rfl, hlt, qs, B2, r⟩, fun x H2 hy => ?_⟩
    obtain ⟨B2, s2, ix⟩ := yl x H2 hy
    have R2 := R'.step s2
    have R2w : Rel A F Γ (wipe σ (own.map (·.2))) B2 H2 := R2.via (fun i s e => ⟨e, wipe_out fun z => by have := hv i z; rw [e] at this; cases this⟩) (by rw [wipe_length]; exact R2.len)
    intro s H0 C cl fp
    refine (tg3 s H0 C cl fp).run F _ B2 H2 x R2w ix _ fun σ3 R3 o3 => ⟨wipe_off o3 hjs, fun s H0 C cl fp => ?_⟩
    refine ef_nil F σ3 B2 H2 R3 _ fun bb B4 H4 pb s4 R4 => ?_
    subst pb
    have back : ∀ {B5 H5 : Hp}, Rel A F Γ3 σ3 B5 H5 → Rel A F Γ σ B5 H5 := fun R5 => R5.via (fun i sl e => by
      have hi : i ∉ own.map (·.2) := fun z => by have := hv i z; rw [e] at this; cases this
      have hi' : i ∉ js := fun z => hi (hjs i z)
      exact ⟨((tg3 s H0 C cl fp).off.2 i hi').trans e, ((o3.2 i hi').trans (wipe_out hi)).symm⟩) R'.len
    have m2 := R'.mB
    have sB2 : Stp F.mp B H B2 H2 := sB.trans (s2.weak m2)
    have sB4 := sB2.trans s4
    have s24 : Stp F.mp B' H' B4 H4 := (s2.weak m2).trans s4
    have hD2 : H2 D = some (.lst (qs.map V.ref)) := s2.ex D _ (fun z => nomatch z) hHD'
    have hBD2 : B2 D = none := s2.av D hBD (by rw [hHD']; exact fun z => nomatch z)
    have hD4 : H4 D = some (.lst (qs.map V.ref)) := s4.ex D _ (fun z => hDm z.symm) hD2
    have hBD4 : B4 D = none := s4.av D hBD2 (by rw [hD2]; exact fun z => nomatch z)
    show (if true = true then _ else _)
    rw [if_pos rfl]
    intro s H0 C cl fp
    refine hE s H0 C cl fp F σ3 B4 H4 R4 _ fun q xs B5 H5 d pd s5 R5 g1 g2 g3 g4 => ?_
    rw [pd] at g4
    have hD5 : H5 D = some (.lst (qs.map V.ref)) := s5.ex D _ (fun z => hDm z.symm) hD4
    have hBD5 : B5 D = none := s5.av D hBD4 (by rw [hD4]; exact fun z => nomatch z)
    have hqD : q ≠ D := fun z => by rw [z, hD4] at g1; cases g1
    have hq0 : H q = none := fresh_of sB4 (back R4) g1
    have hqq : q ∉ qs := fun z => by
      obtain ⟨_, _, hr⟩ := hI.left z
      obtain ⟨_, c2, _, ys, c4, _⟩ := hr
      have := s24.ex q _ (fun z => c2 z.symm) c4
      rw [g1] at this
      cases this
    have hI5 : Fa2 (RowAt A F B5 H5) qs (List.replicate k0 row) := hI.imp fun q' ds' _ r => (r.step s24).step s5
    refine ⟨qs.map V.ref, hD5, ?_, qs ++ [q], B5, (sB4.trans s5).put (.inl hHD) hBD5, ((ex.trans s2.exB).trans s4.exB).trans s5.exB, (back R5).putOff hD0 hDm hBD5 hnD, hBD5, ?_, ?_, ?_, ?_, ?_, ?_⟩
    · rw [List.length_map, hlen]
      exact Nat.lt_of_lt_of_le (Nat.lt_of_lt_of_le hlt hl) (by decide)
    · rw [upd_same, List.map_append]
      rfl
    · intro z
      rcases List.mem_append.mp z with z | z
      · exact hDq z
      · exact hqD (by simpa using z : D = q).symm
    · rw [List.nodup_append]
      refine ⟨nd, List.nodup_cons.mpr ⟨List.not_mem_nil, List.nodup_nil⟩, fun a ha b hb e => ?_⟩
      have : b = q := by simpa using hb
      exact hqq (by rw [← this, ← e]; exact ha)
    · rw [List.length_append, hlen]
      rfl
    · intro a ha'
      rcases List.mem_append.mp ha' with z | z
      · exact hfr a z
      · rw [(by simpa using z : a = q)]; exact hq0
    · rw [List.replicate_succ']
      have up : ∀ {q' : Addr} {ds' : List Dat}, q' ≠ D → RowAt A F B5 H5 q' ds' → RowAt A F B5 (upd H5 D (.lst (qs.map V.ref ++ [V.ref q]))) q' ds' := fun {q' ds'} c ⟨c1, c2, c3, ys, c4, c5⟩ => ⟨c1, c2, c3, ys, by rw [upd_ne c]; exact c4, c5⟩
      refine Fa2.snoc (up hqD ⟨(back R4).fresh0 g1, (back R4).nmp g1, g2, xs, g3, g4⟩) (hI5.imp fun q' ds' hm r => up (fun z => hDq (by rw [← z]; exact hm)) r)
  · have e : k0 = ds.length := by omega
    subst e
    refine .inl ⟨y2 (Nat.le_refl _), ?_⟩
    have hlt : m < σ.length := by rw [← R.len]; exact (List.getElem?_eq_some_iff.mp hm0).1
    have Rm : Rel A F Γ (σ.set m (some (.ref D))) B' H' := R'.via (fun i s e => ⟨e, List.getElem?_set_ne fun z => by rw [← z, hm0] at e; cases e⟩) (by rw [List.length_set]; exact R'.len)
    exact k F D0 _ B' H' ⟨fun _ _ _ _ _ h _ => h.elim, fun d v B2 H2 hrt s2 iv => E.rt d v B2 H2 hrt s2 (fun h => (hpt h).elim) iv⟩ ⟨Rm, D, qs, List.getElem?_set_self hlt, ⟨hD0, hDm, hBD, hHD', hDq, nd, hI⟩⟩
end
theorem trn_anti (own : Own) (c : Nat → Int) (p q : Nat) : trn own c q p = 0 - trn own c p q := by
  have h : trn own c q p + trn own c p q = 0 := by
    unfold trn
    rw [← sm_add]
    exact sm_zero fun j _ => by grind
  omega
theorem trn_same (own : Own) (c : Nat → Int) (p : Nat) : trn own c p p = 0 := by
  have := trn_anti own c p p
  omega
/-- what is set of a matrix of n rows -/
def MI (n : Nat) (own : Own) (c : Nat → Int) (S : Nat → Nat → Prop) (M : List (List Dat)) : Prop :=
  M.length = n ∧ (∀ (a : Nat) (row : List Dat), M[a]? = some row → row.length = n) ∧ ∀ (a b : Nat) (row : List Dat) (d : Dat), M[a]? = some row → row[b]? = some d → S a b → RW (trn own c a b) d
theorem MI.put {n : Nat} {own : Own} {c : Nat → Int} {S : Nat → Nat → Prop} {M : List (List Dat)} (h : MI n own c S M) {i j : Nat} {row : List Dat} {d : Dat} (hi : M[i]? = some row) (hd : RW (trn own c i j) d) : MI n own c (fun a b => S a b ∨ (a = i ∧ b = j)) (M.set i (row.set j d)) := by
  obtain ⟨h1, h2, h3⟩ := h
  have hil := (List.getElem?_eq_some_iff.mp hi).1
  refine ⟨by rw [List.length_set]; exact h1, fun a r hr => ?_, fun a b r e hr he hS => ?_⟩
  · by_cases c1 : i = a
    · subst c1
      rw [List.getElem?_set_self hil] at hr
      cases hr
      rw [List.length_set]
      exact h2 i row hi
    · rw [List.getElem?_set_ne c1] at hr
      exact h2 a r hr
  · by_cases c1 : i = a
    · subst c1
      rw [List.getElem?_set_self hil] at hr
      cases hr
      by_cases c2 : j = b
      · subst c2
        rw [List.getElem?_set_self (by have := (List.getElem?_eq_some_iff.mp he).1; rw [List.length_set] at this; exact this)] at he
        cases he
        exact hd
      · rw [List.getElem?_set_ne c2] at he
        rcases hS with hS | ⟨_, hS⟩
        · exact h3 i b row e hi he hS
        · exact absurd hS.symm c2
    · rw [List.getElem?_set_ne c1] at hr
      rcases hS with hS | ⟨hS, _⟩
      · exact h3 a b r e hr he hS
      · exact absurd hS.symm c1
theorem MI.imp {n : Nat} {own : Own} {c : Nat → Int} {S S' : Nat → Nat → Prop} {M : List (List Dat)} (h : MI n own c S M) (k : ∀ a b, a < n → b < n → S' a b → S a b) : MI n own c S' M :=
  ⟨h.1, h.2.1, fun a b row d hr hd hS => h.2.2 a b row d hr hd (k a b (by rw [← h.1]; exact (List.getElem?_eq_some_iff.mp hr).1) (by rw [← h.2.1 a row hr]; exact (List.getElem?_eq_some_iff.mp hd).1) hS)⟩
/-- the turned sum -/
def SumOf (n : Nat) (own : Own) (c : Nat → Int) (z : Dat) : Prop := ∃ M, z = .lst (M.map Dat.lst) ∧ MI n own c (fun _ _ => True) M
section
variable {P : Program} {w : World} {K : PySem.W.Frag} {mg : Str → Option Value} {base : Heap} {A : Ad} {N : Addr} (T : Txt K mg A N) {n : Nat} {own : Own} (ok : OwnOk n own)
include T ok
theorem c_sum_of (c : Nat → Int) : Cal P w K mg base "sum_of" 6 (Pu A (Q2 fun d e => PrsOf n own d ∧ ∃ rs, e = .lst rs ∧ rs.length = own.length ∧ NumsOf c rs) (O2 fun d e z => SumOf n own c z)) := by
  refine T.d_sum_of.pu sc_sum_of (by decide) (by rintro _ ⟨_, _, rfl, _⟩; rfl) ?_
  rintro f cdv A' outer s H _ hr ⟨_, _, rfl, ⟨zs, rfl, hz⟩, rs, rfl, hl, hn⟩
  have nd := sc_sum_of.nd
  have n6 := ok.n8
  refine (show Sb A _ _ [some (.im (.prs (.lst (own.map pairQ)) (.int (n : Nat)) (.lst zs))), some (.im (.lst rs)), none, none, none, none, none] _ from ?_)
  refine sb_set 2 (ev_os (r := .lst (own.map pairQ)) (n := .int (n : Nat)) (i := .lst zs) (ev_v 0) T.fP) (fun d h => ?_)
  subst h
  refine (show Sb A _ _ [some (.im (.prs (.lst (own.map pairQ)) (.int (n : Nat)) (.lst zs))), some (.im (.lst rs)), some (.im (.int (n : Nat))), none, none, none, none] _ from ?_)
  refine sb_mat 3 [("place", 6)] (ds := rng 0 ((n : Nat) : Int).toNat) (List.replicate n (.rat 0 1)) (wk_range1 (ev_v 2 rfl) (by omega) (by omega) T.b_range) (fun d hd => ⟨_, [6], by decide, fun s H C cl fp => tg_name 6, fun s H C cl fp => en_rep (d := .rat 0 1) (n := n) (EvN.ev (en_lst (ea1 (P1 := fun z => z = .rat 0 1) (ev_R1 T hr ev_int)) fun ds h => by obtain ⟨d, rfl, _⟩ := h; show 1 ≤ sizeLine; decide) fun ds h => by obtain ⟨d, rfl, rfl⟩ := h; rfl) (ev_v 2) (by omega)⟩) (by rw [rng_len, Int.toNat_natCast]; omega) (own1 rfl) rfl ?_ (fun h => h.elim)
  rw [rng_len, Int.toNat_natCast]
  have m0 : MI n own c (fun a b => a = b) (List.replicate n (List.replicate n (.rat 0 1))) := by
    refine ⟨List.length_replicate, fun a row hr => ?_, fun a b row d hr hd e => ?_⟩
    · rw [List.mem_replicate.mp (List.mem_of_getElem? hr) |>.2, List.length_replicate]
    · subst e
      rw [List.mem_replicate.mp (List.mem_of_getElem? hr) |>.2] at hd
      rw [List.mem_replicate.mp (List.mem_of_getElem? hd) |>.2, trn_same]
      exact ⟨0, 1, rfl, by decide, one4, rfl⟩
  refine sbm_for (ds := rng 0 ((n : Nat) : Int).toNat) (wk_range1 (ev_v 2 rfl) (by omega) (by omega) T.b_range) (fun p Γ' M => ∃ x y, Γ' = [some (.im (.prs (.lst (own.map pairQ)) (.int (n : Nat)) (.lst zs))), some (.im (.lst rs)), some (.im (.int (n : Nat))), none, x, y, none] ∧ noMu [x, y] = true ∧ MI n own c (fun a b => a = b ∨ a < p ∨ b < p) M) ⟨none, none, rfl, rfl, m0.imp fun a b _ _ h => by omega⟩ ?_ ?_
  · rintro p d _ M hd ⟨x, y, rfl, hxy, hM⟩
    obtain ⟨hp, rfl⟩ := rng_item hd
    refine ⟨_, _, by decide, tg_name 4, ?_⟩
    have hy : ∀ y : Option Sl, noMu [x, y] = true → noMu [y] = true := fun y h => by
      cases x with
      | none => exact h
      | some s => cases s <;> first | exact h | cases h
    refine (show SbM A _ 3 _ [some (.im (.prs (.lst (own.map pairQ)) (.int (n : Nat)) (.lst zs))), some (.im (.lst rs)), some (.im (.int (n : Nat))), none, some (.im (.int (p : Nat))), y, none] _ _ _ from ?_)
    refine sbm_for (ds := rng (((p : Nat) : Int) + 1) (((n : Nat) : Int) - (((p : Nat) : Int) + 1)).toNat) (wk_range2 (ev_add (i := ((p : Nat) : Int)) (ev_v 4 rfl) ev_int) (ev_v 2 rfl) (by omega) T.b_range) (fun h Γ' M => ∃ y, Γ' = [some (.im (.prs (.lst (own.map pairQ)) (.int (n : Nat)) (.lst zs))), some (.im (.lst rs)), some (.im (.int (n : Nat))), none, some (.im (.int (p : Nat))), y, none] ∧ noMu [y] = true ∧ MI n own c (fun a b => (a = b ∨ a < p ∨ b < p) ∨ (a = p ∧ b < p + 1 + h) ∨ (b = p ∧ a < p + 1 + h)) M) ⟨y, rfl, hy y hxy, hM.imp fun a b _ _ h => by omega⟩ ?_ ?_
    · rintro h d _ M' hd ⟨y', rfl, _, hM'⟩
      obtain ⟨hh, rfl⟩ := rng_at hd
      have hq : p + 1 + h < n := by omega
      have eq : ((p : Nat) : Int) + 1 + ((h : Nat) : Int) = ((p + 1 + h : Nat) : Int) := by omega
      rw [eq]
      obtain ⟨l1, l2, l3⟩ := id hM'
      have hrow : ∃ row, M'[p]? = some row := ⟨_, List.getElem?_eq_getElem (by omega)⟩
      obtain ⟨row, hrow⟩ := hrow
      have hrl := l2 p row hrow
      have hrow2 : ∃ row2, M'[p + 1 + h]? = some row2 := ⟨_, List.getElem?_eq_getElem (by omega)⟩
      obtain ⟨row2, hrow2⟩ := hrow2
      have hrl2 := l2 _ row2 hrow2
      refine ⟨_, _, by decide, tg_name 5, ?_⟩
      refine (show SbM A _ 3 _ [some (.im (.prs (.lst (own.map pairQ)) (.int (n : Nat)) (.lst zs))), some (.im (.lst rs)), some (.im (.int (n : Nat))), none, some (.im (.int (p : Nat))), some (.im (.int ((p + 1 + h : Nat) : Int))), none] _ _ _ from ?_)
      refine sbm_put (P := fun z => RW (trn own c p (p + 1 + h)) z ∧ (trn own c p (p + 1 + h)).natAbs ≤ 3920) (i := p) (j := p + 1 + h) (row := row) (evm (F := ⟨none, H, H⟩) (ev_c4 (c_sum_at T ok) hr (d1 := .prs (.lst (own.map pairQ)) (.int (n : Nat)) (.lst zs)) (d2 := .lst rs) (d3 := .int (p : Nat)) (d4 := .int ((p + 1 + h : Nat) : Int)) (ev_v 0) (ev_v 1) (ev_v 4) (ev_v 5) ⟨⟨zs, rfl, hz⟩, rs, c, p, p + 1 + h, rfl, hl, hn, rfl, rfl, hp, hq⟩ fun z hz' => hz' rs c p (p + 1 + h) rfl hn hl rfl rfl hp hq)) (ev_v 4) (ev_v 5) hrow (by rw [hrl]; exact hq) rfl (fun d hd' => ?_)
      obtain ⟨hd1, hd2⟩ := hd'
      have put1 := hM'.put (j := p + 1 + h) hrow hd1
      obtain ⟨t, bt, rfl, b0, b4, ht⟩ := id hd1
      have hne : p ≠ p + 1 + h := by omega
      refine sbm_put (P := fun z => RW (trn own c (p + 1 + h) p) z) (i := p + 1 + h) (j := p) (row := row2) (evm_negAt (i := p) (j := p + 1 + h) (row := row.set (p + 1 + h) (.rat t bt)) (t := t) (bt := bt) (m_neg T) hr (ev_v 4) (ev_v 5) (List.getElem?_set_self (by omega)) (List.getElem?_set_self (by omega)) ⟨_, rfl, ⟨t, bt, rfl⟩, RW.num hd1 (Nat.lt_of_le_of_lt hd2 (Nat.lt_of_lt_of_le (show 3920 < 2 ^ 12 by decide) (Nat.pow_le_pow_right (by decide) (by decide))))⟩ fun d ⟨_, q1, q2⟩ => ?_) (ev_v 5) (ev_v 4) (by rw [List.getElem?_set_ne hne]; exact hrow2) (by rw [hrl2]; exact hp) rfl (fun d hd' => ?_)
      · cases q1
        rw [q2, trn_anti]
        exact mkRat_rw b0 (by
          show 4 * (0 - t) = (0 - trn own c p (p + 1 + h)) * bt
          rw [Int.sub_mul, ← ht]
          omega)
      · have put2 := put1.put (j := p) (i := p + 1 + h) (row := row2) (by rw [List.getElem?_set_ne hne]; exact hrow2) hd'
        exact sbm_nil ⟨_, rfl, rfl, put2.imp fun a b ha hb q => by omega⟩
    · rintro _ M' ⟨y', rfl, hy', hM'⟩
      rw [rng_len] at hM'
      refine sbm_nil ⟨_, y', rfl, hy', hM'.imp fun a b ha hb q => by omega⟩
  · rintro _ M ⟨x, y, rfl, hxy, hM⟩
    rw [rng_len, Int.toNat_natCast] at hM
    exact sbm_ret ⟨_, _, rfl, M, rfl, hM.imp fun a b ha hb _ => by omega⟩
end
end K64
/-! Trials. -/
namespace K64
open PySem L2
theorem sm_bd {B : Nat} {f : Nat → Int} : ∀ {n : Nat}, (∀ j, j < n → (f j).natAbs ≤ B) → (sm n f).natAbs ≤ B * n
  | 0, _ => Nat.zero_le _
  | n + 1, h => by
    have ih := sm_bd (f := f) (n := n) fun j hj => h j (by omega)
    have h1 := h n (by omega)
    show (sm n f + f n).natAbs ≤ _
    rw [Nat.mul_succ]
    omega
theorem trn_bd {n : Nat} {own : Own} (ok : OwnOk n own) {c : Nat → Int} (hc : ∀ i, i < own.length → (c i).natAbs ≤ 8) (p q : Nat) : (trn own c p q).natAbs ≤ 3920 := by
  have := sm_bd (B := 784) (f := fun i => c i * (rowf (fstR own i) p * rowf (sndR own i) q - rowf (sndR own i) p * rowf (fstR own i) q)) (n := own.length) fun j hj => (term_bd ok hj (hc j hj)).2
  have l5 := ok.l8
  unfold trn
  omega
theorem whole_eq {S : Int} {d : Dat} {L : Nat} (h : RW S d) (hL : (tbD (ratD d)).2 ∣ (L : Int)) : 4 * wholeD L (ratD d) = (L : Int) * S := by
  obtain ⟨t, b, rfl, h0, h1, h2⟩ := h
  have e : (L : Int) / b * b = L := Int.ediv_mul_cancel hL
  show 4 * (t * ((L : Int) / b)) = _
  rw [← Int.mul_assoc, h2, Int.mul_assoc, Int.mul_comm b, e, Int.mul_comm]
noncomputable def dueB (n : Nat) (own : Own) (v : Dat) : Bool := match itemsD v with
  | some es => areB v own.length && decide (rkT n own (wL es) = 2 * gnum n own)
  | none => false
theorem dueB_not {n : Nat} {own : Own} {v : Dat} (h : areB v own.length = false) : dueB n own v = false := by
  unfold dueB
  split
  · rw [h]; rfl
  · rfl
theorem dueB_is {n : Nat} {own : Own} {v : Dat} {es : List Dat} (h : areB v own.length = true) (he : itemsD v = some es) : dueB n own v = decide (rkT n own (wL es) = 2 * gnum n own) := by
  unfold dueB
  rw [he]
  show (areB v own.length && _) = _
  rw [h, Bool.true_and]
theorem wL_at {es : List Dat} {i : Nat} {d : Dat} (h : es[i]? = some d) : wL es i = wD d := by
  unfold wL
  rw [List.getD_eq_getElem?_getD, h]
  rfl
theorem nums_of {es : List Dat} (h : ∀ e ∈ es, NQ e) : NumsOf (wL es) (es.map ratD) := fun i d hd => by
  rw [List.getElem?_map] at hd
  obtain ⟨e, he, rfl⟩ := Option.map_eq_some_iff.mp hd
  have q := h e (List.mem_of_getElem? he)
  rw [wL_at he]
  exact ⟨RW.of q, q.2.2.2⟩
/-- the told numbers -/
noncomputable def toldL (n : Nat) (own : Own) : List Dat := (List.range own.length).map fun i => .rat (if i ∈ lot0 n own then 1 else 0) 1
section
variable {P : Program} {w : World} {K : PySem.W.Frag} {mg : Str → Option Value} {base : Heap} {A : Ad} {N : Addr} (T : Txt K mg A N) {n : Nat} {own : Own} (ok : OwnOk n own)
include T ok
theorem c_rank_by (c : Nat → Int) (hc : ∀ i, i < own.length → (c i).natAbs ≤ 8) : Cal P w K mg base "rank_by" 7 (Pu A (Q2 fun d e => PrsOf n own d ∧ ∃ rs, e = .lst rs ∧ rs.length = own.length ∧ NumsOf c rs) (O2 fun d e z => z = .int (rkT n own c : Nat))) := by
  refine T.d_rank_by.pu sc_rank_by (by decide) (by rintro _ ⟨_, _, rfl, _⟩; rfl) ?_
  rintro f cdv A' outer s H _ hr ⟨d, _, rfl, hd, rs, rfl, hl, hn⟩
  have nd := sc_rank_by.nd
  have n6 := ok.n8
  have bd := trn_bd ok hc
  refine (show Sb A _ _ [some (.im d), some (.im (.lst rs))] _ from ?_)
  refine sb_ret (P := fun z => z = .int (rkT n own c : Nat)) (ev_c1P (c_int_rank T) hr (P0 := fun z => ∃ M' : List (List Int), z = matD M' ∧ M'.length = n ∧ (∀ r ∈ M', r.length = n ∧ RBd 12 r) ∧ rk n (Ker n M') = rkT n own c) (ev_c1P (c_ints_of T) hr (ev_c2 (c_sum_of T ok c) hr (ev_v 0 rfl) (ev_v 1 rfl) ⟨hd, rs, rfl, hl, hn⟩ fun z h => h) fun z hz => ?_) fun z hz => ?_) fun z h => ⟨_, _, rfl, h⟩
  · obtain ⟨M, rfl, m1, m2, m3⟩ := hz
    have ent : ∀ a row, M[a]? = some row → ∀ j x, row[j]? = some x → RW (trn own c a j) x := fun a row hr j x hx => m3 a j row x hr hx trivial
    refine ⟨⟨_, rfl, by rw [List.length_map, m1]; omega, fun r hr' => ?_⟩, fun z ⟨rs', zs, e1, e2, hf⟩ => ?_⟩
    · obtain ⟨row, hrow, rfl⟩ := List.mem_map.mp hr'
      obtain ⟨a, ha⟩ := List.mem_iff_getElem?.mp hrow
      refine ⟨fun es he => ?_, row, rfl⟩
      cases he
      refine ⟨by rw [m2 a row ha]; omega, fun x hx => ?_⟩
      obtain ⟨j, hj⟩ := List.mem_iff_getElem?.mp hx
      have rw' := ent a row ha j x hj
      have nb := RW.num rw' (Nat.lt_of_le_of_lt (bd a j) (Nat.lt_of_lt_of_le (show 3920 < 2 ^ 12 by decide) (Nat.pow_le_pow_right (by decide) (by decide))))
      obtain ⟨t, b, rfl, h0, h1, h2⟩ := rw'
      exact ⟨trivial, t, b, rfl, h0, h1, nb.2.2.1⟩
    · cases e1
      obtain ⟨M', e3, hf2⟩ := Fa2.form (f := Dat.lst) (g := rowD) (Q := fun row r => ∃ L : Nat, 0 < L ∧ L ∣ 4 ∧ (∀ e ∈ row, (tbD (ratD e)).2 ∣ (L : Int)) ∧ r = row.map fun e => wholeD L (ratD e)) hf fun row z _ ⟨es, q1, L, q2, q3, q4, q5⟩ => by
        cases q1
        exact ⟨_, q5, L, q2, q3, q4, rfl⟩
      have hM' : M'.length = n := by rw [hf2.len, m1]
      have at' : ∀ a r, M'[a]? = some r → ∃ L : Nat, 0 < L ∧ L ≤ 4 ∧ r.length = n ∧ ∀ j, j < n → 4 * rowf r j = (L : Int) * trn own c a j := fun a r hr => by
        have hlt : a < M.length := by rw [m1, ← hM']; exact (List.getElem?_eq_some_iff.mp hr).1
        have ha : M[a]? = some (M[a]'hlt) := List.getElem?_eq_getElem hlt
        obtain ⟨r', hr', L, q2, q3, q4, q5⟩ := hf2.at ha
        rw [hr] at hr'
        cases hr'
        refine ⟨L, q2, Nat.le_of_dvd (by decide) q3, by rw [q5, List.length_map]; exact m2 a _ ha, fun j hj => ?_⟩
        have hjl : j < (M[a]'hlt).length := by rw [m2 a _ ha]; exact hj
        have hj' : (M[a]'hlt)[j]? = some ((M[a]'hlt)[j]'hjl) := List.getElem?_eq_getElem hjl
        rw [rowf_of (r := r) (j := j) (x := wholeD L (ratD ((M[a]'hlt)[j]'hjl))) (by rw [q5, List.getElem?_map, hj']; rfl)]
        exact whole_eq (ent a _ ha j _ hj') (q4 _ (List.mem_of_getElem? hj'))
      refine ⟨M', by rw [e2, e3]; rfl, hM', fun r hr' => ?_, rkT_of hM' fun p r hr' => ?_⟩
      · obtain ⟨a, ha⟩ := List.mem_iff_getElem?.mp hr'
        obtain ⟨L, q1, q2, q3, q4⟩ := at' a r ha
        refine ⟨q3, fun x hx => ?_⟩
        obtain ⟨j, hj⟩ := List.mem_iff_getElem?.mp hx
        have hjn : j < n := by rw [← q3]; exact (List.getElem?_eq_some_iff.mp hj).1
        have := q4 j hjn
        rw [rowf_of hj] at this
        have e := congrArg Int.natAbs this
        rw [Int.natAbs_mul, Int.natAbs_mul, Int.natAbs_natCast] at e
        have h4 : L * (trn own c a j).natAbs ≤ 4 * 3920 := Nat.mul_le_mul q2 (bd a j)
        have e4 : Int.natAbs 4 = 4 := rfl
        rw [e4] at e
        exact Nat.lt_of_le_of_lt (show x.natAbs ≤ 3920 by omega) (by decide)
      · obtain ⟨L, q1, q2, q3, q4⟩ := at' p r hr'
        exact ⟨4, L, by decide, by omega, q4⟩
  · obtain ⟨M', rfl, h1, h2, h3⟩ := hz
    exact ⟨⟨M', n, rfl, by omega, by omega, h2⟩, fun z hz => by rw [hz M' n rfl fun r hr => (h2 r hr).1, h3]⟩
theorem ev_g0 {A : Ad} {X : Cx} {Γ : Sls} {a : Expr} {n : Nat} {own : Own} {pos p0 : Pos} {j} (ha : Ev A X a Γ (fun z => z = lotsD (lev n own (gnum n own)))) : Ev A X (.Subscript a (.Constant (.int 0) j p0) pos) Γ (fun z => z = lotD (lot0 n own)) :=
  ev_atL ha ev_int (atI0 (by
    have h := (gnum_is n own).1
    unfold lot0
    cases e : lev n own (gnum n own) with
    | nil => exact absurd e h
    | cons a l => rfl))
theorem f_is_trial : CalF P w K mg base "is_trial" s_is_trial ["pairs", "value"] 9 (Pu A (Q2 fun d e => PrsOf n own d ∧ ValOk e) (O2 fun d e z => z = .bl (dueB n own e))) := by
  refine T.d_is_trial.puF sc_is_trial (by decide) (by rintro _ ⟨_, _, rfl, _⟩; rfl) ?_
  rintro f cdv A' outer s H _ hr ⟨d, v, rfl, hd, hv⟩
  have nd := sc_is_trial.nd
  refine (show Sb A _ _ [some (.im d), some (.im v), none, none] _ from ?_)
  refine sb_set 2 (P := fun z => z = d) (ev_c1 (c_want_pairs T) hr (ev_v 0 rfl) (by obtain ⟨zs, rfl, _⟩ := hd; exact ⟨_, _, _, rfl⟩) fun z h => h) (fun z h => ?_)
  subst h
  refine sb_set 3 (ev_c2 (c_numbers_in T ok) hr (d1 := z) (ev_v 2) (ev_v 1 rfl) ⟨hd, hv⟩ fun u h => h) (fun u h => ?_)
  rcases h with ⟨h1, rfl⟩ | ⟨h1, es, he, rfl⟩
  · refine sb_ret (P := fun u => u = .bl (dueB n own v)) ?_ fun u h => ⟨_, _, rfl, h⟩
    rw [dueB_not h1]
    refine ev_k (pe_and pe_w pe_w) fun F σ B H R Q q => ev_isnotN (d := .non) (ev_v 3) F σ B H R _ fun x B1 H1 d' p1 s1 R1 i1 => ?_
    obtain ⟨k, rfl, hk⟩ := p1
    cases i1
    have : k = false := hk.mpr rfl
    subst this
    exact ⟨false, rfl, q _ B1 H1 _ rfl s1 R1 rfl⟩
  · have hes := hv.2 es he
    have hnum : ∀ e ∈ es, NQ e := fun e h' => by
      obtain ⟨es', g1, g2, g3⟩ := areB_iff h1
      rw [he] at g1
      cases g1
      exact (hes.2 e h').2 (g3 e h')
    have hl : es.length = own.length := by
      obtain ⟨es', g1, g2, g3⟩ := areB_iff h1
      rw [he] at g1
      cases g1
      exact g2
    have hc : ∀ i, i < own.length → (wL es i).natAbs ≤ 8 := fun i hi => by
      have hx := List.getElem?_eq_getElem (show i < es.length by omega)
      rw [wL_at hx]
      exact (hnum _ (List.mem_of_getElem? hx)).2.2.2
    have g5 : gnum n own ≤ 5 := Nat.le_trans (gnum_le n own) ok.l8
    refine sb_ret (P := fun u => u = .bl (dueB n own v)) ?_ fun u h => ⟨_, _, rfl, h⟩
    rw [dueB_is h1 he]
    refine ev_k (pe_and pe_w pe_w) fun F σ B H R Q q => ev_isnotN (d := .lst (es.map ratD)) (ev_v 3) F σ B H R _ fun x B1 H1 d' p1 s1 R1 i1 => ?_
    obtain ⟨k, rfl, hk⟩ := p1
    cases i1
    have : k = true := by
      cases k with
      | true => rfl
      | false => exact absurd (hk.mp rfl) (fun z => nomatch z)
    subst this
    refine ⟨true, rfl, ?_⟩
    refine (ev_last (op := .And) ((ev_eq (i := ((rkT n own (wL es) : Nat) : Int)) (j := 2 * ((gnum n own : Nat) : Int)) (ev_c2 (c_rank_by T ok (wL es) hc) hr (d1 := z) (d2 := .lst (es.map ratD)) (ev_v 2) (ev_v 3) ⟨hd, _, rfl, by rw [List.length_map, hl], nums_of hnum⟩ fun u h => h) (ev_mul 60 60 ev_int (ev_len (n := gnum n own) T.b_len (ev_g0 T ok (ev_c1 (c_greatest_of T ok) hr (d1 := z) (ev_v 2) hd fun u h => h)) fun u h => ?_) (by decide) (by rw [Int.natAbs_natCast]; exact Nat.lt_of_le_of_lt g5 (by decide)))).imp fun u h => ?_)) F σ B1 H1 R1 Q fun v' B' H' d' p s r i => q v' B' H' d' p (s1.trans s) r i
    · rw [h]
      show some ((lot0 n own).map _).length = _
      rw [List.length_map, lot0_len]
    · rw [h]
      congr 1
      exact decide_eq_decide.mpr (by omega)
theorem f_trial_numbers : CalF P w K mg base "trial_numbers" s_trial_numbers ["pairs"] 9 (PuN A (Q1 (PrsOf n own)) (O1 fun d z => z = toldL n own)) := by
  refine T.d_trial_numbers.puNF sc_trial_numbers (by decide) (by rintro _ ⟨_, rfl, _⟩; rfl) ?_
  rintro f cdv A' outer s H _ hr ⟨d, rfl, hd⟩
  have nd := sc_trial_numbers.nd
  have l5 := ok.l8
  refine (show Sb A _ _ [some (.im d), none, none, none] _ from ?_)
  refine sb_set 1 (P := fun z => z = d) (ev_c1 (c_want_pairs T) hr (ev_v 0 rfl) (by obtain ⟨zs, rfl, _⟩ := hd; exact ⟨_, _, _, rfl⟩) fun z h => h) (fun z h => ?_)
  subst h
  refine sb_set 2 (ev_g0 T ok (ev_c1 (c_greatest_of T ok) hr (d1 := z) (ev_v 1) hd fun u h => h)) (fun u h => ?_)
  subst h
  have hd' := hd
  obtain ⟨zs, rfl, hz⟩ := hd'
  refine sb_retN (en_map [("place", 3)] (fun d => .rat (if (tbD d).1.toNat ∈ lot0 n own then 1 else 0) 1) (ds := rng 0 ((own.length : Nat) : Int).toNat) (wk_range1 (ev_len (n := own.length) T.b_len (ev_or_ (r := .lst (own.map pairQ)) (n := .int (n : Nat)) (i := .lst zs) (ev_v 1) T.fP) fun u h => by rw [h]; show some (own.map pairQ).length = _; rw [List.length_map]) (by omega) (by omega) T.b_range) (fun u hu => ?_) (by rw [rng_len, Int.toNat_natCast]; omega) (own1 rfl)) fun ds h => ⟨_, rfl, ?_⟩
  · obtain ⟨k, hk⟩ := List.mem_iff_getElem?.mp hu
    obtain ⟨hk1, rfl⟩ := rng_item hk
    refine ⟨_, [3], by decide, fun s H C cl fp => tg_name 3, fun s H C cl fp => ?_⟩
    have e : lotD (lot0 n own) = .lst (((lot0 n own).map fun i : Nat => (i : Int)).map Dat.int) := by
      unfold lotD
      rw [List.map_map]
      rfl
    refine (ev_R1 T hr (t := if decide (((k : Nat) : Int) ∈ (lot0 n own).map fun i : Nat => (i : Int)) = true then 1 else 0) (ev_intB T.b_int (ev_inL (i := (k : Nat)) (ns := (lot0 n own).map fun i : Nat => (i : Int)) (ev_v 3) ((ev_v (d := lotD (lot0 n own)) 2).imp fun z h => by rw [h, e])))).imp fun z h => ?_
    rw [h]
    congr 1
    have : (((k : Nat) : Int) ∈ (lot0 n own).map fun i : Nat => (i : Int)) ↔ k ∈ lot0 n own := by
      rw [List.mem_map]
      constructor
      · rintro ⟨i, h1, h2⟩
        rw [← Int.ofNat_inj.mp h2]
        exact h1
      · exact fun h => ⟨k, h, rfl⟩
    show _ = if ((k : Nat) : Int).toNat ∈ lot0 n own then (1 : Int) else 0
    rw [Int.toNat_natCast]
    by_cases hm : k ∈ lot0 n own
    · rw [if_pos (decide_eq_true (this.mpr hm)), if_pos hm]
    · rw [if_neg (fun z => hm (this.mp (of_decide_eq_true z))), if_neg hm]
  · rw [h]
    unfold toldL rng
    rw [Int.toNat_natCast, List.map_map]
    refine List.map_congr_left fun i _ => ?_
    show Dat.rat (if (0 + ((i : Nat) : Int)).toNat ∈ lot0 n own then 1 else 0) 1 = _
    rw [Int.zero_add, Int.toNat_natCast]
theorem c_is_trial : Cal P w K mg base "is_trial" 9 (Pu A (Q2 fun d e => PrsOf n own d ∧ ValOk e) (O2 fun d e z => z = .bl (dueB n own e))) := (f_is_trial T ok).cal
theorem c_trial_numbers : Cal P w K mg base "trial_numbers" 9 (PuN A (Q1 (PrsOf n own)) (O1 fun d z => z = toldL n own)) := (f_trial_numbers T ok).cal
end
end K64
/-! The law's pot: what is drawn. -/
namespace K64
open PySem L2
/-! ### whole numbers, known so far -/
def PI' (p : Int → Prop) : Dat → Prop := fun z => ∃ i, z = .int i ∧ p i
section
variable {A : Ad} {X : Cx} {Γ : Sls} {a b : Expr} {pos pn : Pos} {p q r : Int → Prop}
theorem ei_add (ha : Ev A X a Γ (PI' p)) (hb : Ev A X b Γ (PI' q)) (h : ∀ i j, p i → q j → r (i + j)) : Ev A X (.BinOp a .Add b pos) Γ (PI' r) :=
  ev_two (pe_op op_add pe_w pe_w) ha hb fun x y da db B H ⟨i, e1, p1⟩ ⟨j, e2, p2⟩ h1 h2 ex Q k => by
    subst e1 e2; cases h1; cases h2
    exact ⟨i, j, rfl, rfl, k _ B H (.int (i + j)) ⟨_, rfl, h i j p1 p2⟩ (Stp.refl0 ex) rfl⟩
theorem ei_mul (n m : Nat) (ha : Ev A X a Γ (PI' p)) (hb : Ev A X b Γ (PI' q)) (h : ∀ i j, p i → q j → i.natAbs < 2 ^ n ∧ j.natAbs < 2 ^ m ∧ r (i * j)) (hn : 0 < n := by decide) (hm : 0 < m := by decide) (hs : n + m ≤ 1000000 := by decide) : Ev A X (.BinOp a .Mult b pos) Γ (PI' r) :=
  ev_two (pe_op op_mulW pe_w pe_w) ha hb fun x y da db B H ⟨i, e1, p1⟩ ⟨j, e2, p2⟩ h1 h2 ex Q k => by
    subst e1 e2; cases h1; cases h2
    obtain ⟨b1, b2, h3⟩ := h i j p1 p2
    exact ⟨i, j, rfl, rfl, wide_mul b1 b2 hn hm hs, k _ B H (.int (i * j)) ⟨_, rfl, h3⟩ (Stp.refl0 ex) rfl⟩
theorem ei_mod (ha : Ev A X a Γ (PI' p)) (hb : Ev A X b Γ (PI' q)) (h : ∀ i j, p i → q j → 0 < j ∧ r (i % j)) : Ev A X (.BinOp a .Mod b pos) Γ (PI' r) :=
  ev_two (pe_op op_mod pe_w pe_w) ha hb fun x y da db B H ⟨i, e1, p1⟩ ⟨j, e2, p2⟩ h1 h2 ex Q k => by
    subst e1 e2; cases h1; cases h2
    obtain ⟨b1, h3⟩ := h i j p1 p2
    exact ⟨i, j, rfl, rfl, b1, k _ B H (.int (i % j)) ⟨_, rfl, h3⟩ (Stp.refl0 ex) rfl⟩
theorem ei_fdiv (n : Nat) (ha : Ev A X a Γ (PI' p)) (hb : Ev A X b Γ (PI' q)) (h : ∀ i j, p i → q j → 0 < j ∧ j.natAbs < 2 ^ n ∧ r (i / j)) (hn : 0 < n := by decide) (hs : n ≤ 9000 := by decide) : Ev A X (.BinOp a .FloorDiv b pos) Γ (PI' r) :=
  ev_two (pe_op op_fdivW pe_w pe_w) ha hb fun x y da db B H ⟨i, e1, p1⟩ ⟨j, e2, p2⟩ h1 h2 ex Q k => by
    subst e1 e2; cases h1; cases h2
    obtain ⟨b1, b2, h3⟩ := h i j p1 p2
    exact ⟨i, j, rfl, rfl, wide_div b1 b2 hn hs, k _ B H (.int (i / j)) ⟨_, rfl, h3⟩ (Stp.refl0 ex) rfl⟩
theorem ei_int (hm : X.mg "int" = none) (ha : Ev A X a Γ (PI' p)) (hg : Gl X "int" := by rfl) (h1 : starEach [a] X.env = (false, eval a X.env) :: starEach [] X.env := by rfl) (hpl : (backTo pos (starEach [] X.env)).any (·.1) = false := by rfl) :
    Ev A X (.Call (.Name "int" pn) [a] [] pos) Γ (PI' p) := ev_bt call_int1 hm (ea1 ha h1) (fun xs ds B H hp hi ex Q k => by
  obtain ⟨d, rfl, i, rfl, hpi⟩ := hp
  obtain ⟨v, rfl, iv⟩ := hi.one
  cases iv
  exact .inl ⟨i, rfl, k _ B H (.int i) ⟨_, rfl, hpi⟩ (Stp.refl0 ex) rfl⟩) (by decide +kernel) hg (by decide) (by decide) h1 hpl
theorem ei_of {i : Int} (h : Ev A X a Γ (fun z => z = .int i)) (hp : p i) : Ev A X a Γ (PI' p) := h.imp fun z e => ⟨i, e, hp⟩
theorem ei_c {i : Int} {j} (hp : p i) : Ev A X (.Constant (.int i) j pos) Γ (PI' p) := ei_of ev_int hp
/-- the pot's two numbers -/
theorem pot_at {F : Fx} {σ : L2.St} {B H : Hp} (R : Rel A F Γ σ B H) (hΓ : Γ[0]? = some (some .pot)) : ∃ (p : Addr) (a b : Int), σ[0]? = some (some (.ref p)) ∧ F.mp = some p ∧ H p = some (.lst [.int a, .int b]) ∧ 0 ≤ a ∧ 0 ≤ b ∧ b < 2147483648 := by
  obtain ⟨v, e, p, rfl, hm, a, b, h1, h2⟩ := R.sl 0 _ hΓ
  exact ⟨p, a, b, e, hm, h1, h2⟩
theorem ei_pot0 {x : Str} {p1 p2 : Pos} {j} (hΓ : Γ[0]? = some (some .pot) := by rfl) (pe : PE X (.Name x p1) (tVar 0) := by exact pv 0) : Ev A X (.Subscript (.Name x p1) (.Constant (.int 0) j p2) pos) Γ (PI' fun i => 0 ≤ i) := ev_k (pe_ix ix_list pe pe_int (fun _ _ => rfl)) fun F σ B H R Q q => by
  obtain ⟨p, a, b, e, hm, hH, h0, _⟩ := pot_at R hΓ
  exact ⟨_, e, p, _, 0, _, rfl, rfl, SqL.of hH, (show atI [V.int a, V.int b] ((0 : Nat) : Int) = some (V.int a) from atI_n rfl), q _ B H (.int a) ⟨a, rfl, h0⟩ (Stp.refl R.sub R.mB) R rfl⟩
theorem ei_pot1 {x : Str} {p1 p2 : Pos} {j} (hΓ : Γ[0]? = some (some .pot) := by rfl) (pe : PE X (.Name x p1) (tVar 0) := by exact pv 0) : Ev A X (.Subscript (.Name x p1) (.Constant (.int 1) j p2) pos) Γ (PI' fun i => 0 ≤ i ∧ i < 2147483648) := ev_k (pe_ix ix_list pe pe_int (fun _ _ => rfl)) fun F σ B H R Q q => by
  obtain ⟨p, a, b, e, hm, hH, _, h0, h1⟩ := pot_at R hΓ
  exact ⟨_, e, p, _, 1, _, rfl, rfl, SqL.of hH, (show atI [V.int a, V.int b] ((1 : Nat) : Int) = some (V.int b) from atI_n rfl), q _ B H (.int b) ⟨b, rfl, h0, h1⟩ (Stp.refl R.sub R.mB) R rfl⟩
/-- the pot is written -/
theorem Rel.putPot {F : Fx} {σ : L2.St} {B H : Hp} (R : Rel A F Γ σ B H) {p0 : Addr} {a b : Int} (hm : F.mp = some p0) (h0 : 0 ≤ a) (h1 : 0 ≤ b) (h2 : b < 2147483648) (hΓ : Γ[0]? = some (some .pot)) : Rel A F Γ σ B (upd H p0 (.lst [.int a, .int b])) := by
  obtain ⟨p', a', b', e0, hm', hH', _⟩ := pot_at R hΓ
  rw [hm] at hm'
  cases hm'
  refine ⟨R.st.put (.inr hm) (R.mB p0 hm).1, fun j s hs => ?_, R.ap, R.len⟩
  obtain ⟨v, e, ok⟩ := R.sl j s hs
  refine ⟨v, e, ?_⟩
  cases s with
  | im d => exact ok
  | mu ds =>
    obtain ⟨r, zs, f1, f2, f3, f4, f5, f6⟩ := ok
    have cr : r ≠ p0 := fun z => f3 (by rw [hm, z])
    exact ⟨r, zs, f1, f2, f3, f4, by rw [upd_ne cr]; exact f5, f6⟩
  | pot =>
    obtain ⟨r, g1, g2, _⟩ := ok
    rw [hm] at g2
    cases g2
    exact ⟨p0, g1, hm, a, b, upd_same, h0, h1, h2⟩
  | self C fs =>
    obtain ⟨r, dx, gs, g1, g2, g3, g4⟩ := ok
    rw [hm] at g2
    cases g2
    rw [hH'] at g3
    cases g3
  | pin u d B1 => exact ok
/-- pot[1] = e -/
theorem sb_pot1 {x : Str} {p1 p2 p3 : Pos} {j} {rest : List Stmt} {ae : AE} {e : Expr} (he : Ev A X e Γ (PI' fun i => 0 ≤ i ∧ i < 2147483648)) (k : Sb A X rest Γ ae) (hΓ : Γ[0]? = some (some .pot) := by rfl) (pe : PE X (.Name x p1) (tVar 0) := by exact pv 0)
    (hs : swapsWithSole [.Subscript (.Name x p1) (.Constant (.int 1) j p2) p3] e pos.line X.env = pure false := by rfl) (hw : swappedStores [.Subscript (.Name x p1) (.Constant (.int 1) j p2) p3] e X.env = pure none := by rfl)
    (ha : (assignEach [.Subscript (.Name x p1) (.Constant (.int 1) j p2) p3] X.env).map (·.2) = [assign (.Subscript (.Name x p1) (.Constant (.int 1) j p2) p3) X.env] := by rfl) : Sb A X (.Assign [.Subscript (.Name x p1) (.Constant (.int 1) j p2) p3] e pos :: rest) Γ ae :=
  sb_st (ps_asg pe_w (pg_sub pe pe_int set_list) hs hw ha) fun F D σ B H E R => he F σ B H R _ fun v B' H' d pd s R' iv => by
    obtain ⟨i, rfl, h0, h1⟩ := pd
    cases iv
    obtain ⟨p, a, b, e0, hm, hH, ha0, _⟩ := pot_at R' hΓ
    exact ⟨_, e0, p, _, 1, 1, rfl, rfl, hH, ixN_at (n := 2) (j := 1) (by decide), E.nx' k (R'.putPot hm ha0 h0 h1 hΓ)⟩
/-- pot[0], y = e -/
theorem sb_pot0 (i : Nat) {x y : Str} {p1 p2 p3 p4 p5 : Pos} {j kk} {rest : List Stmt} {ae : AE} {e : Expr} {P : Int → Prop} (he : Ev A X e Γ (fun z => ∃ u v, z = .tup [.int u, .int v] ∧ 0 ≤ u ∧ P v)) (k : ∀ v, P v → Sb A X rest (Γ.set i (some (.im (.int v)))) ae) (hΓ : Γ[0]? = some (some .pot) := by rfl) (pe : PE X (.Name x p1) (tVar 0) := by exact pv 0)
    (hN : X.N.Nodup := by assumption) (hi : X.N[i]? = some y := by rfl) (hy : Loc X.env.scope y := by first | exact Or.inl rfl | exact Or.inr rfl) (hl : i < Γ.length := by exact Nat.le_of_ble_eq_true rfl) (hf : X.fn y = true ∨ X.env.scope.names.lookup y = some .local := by first | exact .inl rfl | exact .inr rfl)
    (hc : X.calm = true := by rfl)
    (hn : (assignEach [.Subscript (.Name x p1) (.Constant (.int 0) j p2) p3, .Name y p4] X.env).length = 2 := by rfl) (hst : (assignEach [.Subscript (.Name x p1) (.Constant (.int 0) j p2) p3, .Name y p4] X.env).findIdx? (·.1) = none := by rfl)
    (hs1 : (assignEach (.Subscript (.Name x p1) (.Constant (.int 0) j p2) p3 :: [.Name y p4]) X.env).map (·.2) = assign (.Subscript (.Name x p1) (.Constant (.int 0) j p2) p3) X.env :: (assignEach [.Name y p4] X.env).map (·.2) := by rfl)
    (hs2 : (assignEach (.Name y p4 :: []) X.env).map (·.2) = assign (.Name y p4) X.env :: (assignEach [] X.env).map (·.2) := by rfl)
    (hs : swapsWithSole [.Tuple [.Subscript (.Name x p1) (.Constant (.int 0) j p2) p3, .Name y p4] kk p5] e pos.line X.env = pure false := by rfl) (hw : swappedStores [.Tuple [.Subscript (.Name x p1) (.Constant (.int 0) j p2) p3, .Name y p4] kk p5] e X.env = pure none := by rfl)
    (ha : (assignEach [.Tuple [.Subscript (.Name x p1) (.Constant (.int 0) j p2) p3, .Name y p4] kk p5] X.env).map (·.2) = [assign (.Tuple [.Subscript (.Name x p1) (.Constant (.int 0) j p2) p3, .Name y p4] kk p5) X.env] := by rfl) :
    Sb A X (.Assign [.Tuple [.Subscript (.Name x p1) (.Constant (.int 0) j p2) p3, .Name y p4] kk p5] e pos :: rest) Γ ae :=
  sb_st (ps_asg pe_w (pg_tup hc (pgs_cons (pg_sub pe pe_int set_list) (pgs_cons (pg_name hN hi hy hf) pgs_nil hs2) hs1) hn hst) hs hw ha) fun F D σ B H E R => he F σ B H R _ fun v B' H' d pd s R' iv => by
    obtain ⟨u, w', rfl, h0, h1⟩ := pd
    obtain ⟨T, xs, rfl, hT, hI⟩ := iv
    obtain ⟨v1, v2, rfl, i1, i2⟩ := hI.two
    cases i1
    cases i2
    obtain ⟨p, a, b, e0, hm, hH, ha0, hb0, hb1⟩ := pot_at R' hΓ
    have R2 := R'.putPot hm h0 hb0 hb1 hΓ
    exact ⟨T, _, rfl, SqT.of (R'.sub _ _ hT), rfl, _, _, rfl, ⟨_, e0, p, _, 0, 0, rfl, rfl, hH, ixN_at (n := 2) (j := 0) (by decide), _, _, rfl, rfl, E.nx' (k w' h1) (R2.set rfl hl)⟩⟩
end
section
variable {A : Ad} {X : Cx} {Γ : Sls} {a b c : Expr} {pos : Pos} {p q : Int → Prop}
/-- a test whose answer is not known -/
theorem et_gtU (ha : Ev A X a Γ (PI' p)) (hb : Ev A X b Γ (PI' q)) : EvT A X (.Compare a [.Gt] [b] pos) Γ (fun _ => True) := fun F σ B H R Q k =>
  ⟨_, pt_cmpR op_gt pe_w pe_w (nomark _), ha F σ B H R _ fun x B1 H1 da p1 s1 R1 i1 => hb F σ B1 H1 R1 _ fun y B2 H2 db p2 s2 R2 i2 => by
    obtain ⟨i, rfl, _⟩ := p1
    obtain ⟨j, rfl, _⟩ := p2
    cases i1
    cases i2
    exact ⟨i, j, rfl, rfl, _, rfl, k _ B2 H2 trivial (s1.trans s2) R2⟩⟩
theorem sb_ifU {t u rest : List Stmt} {ae : AE} (hc : EvT A X c Γ (fun _ => True)) (h1 : Sb A X t Γ { ae with nx := fun Γ' => Sb A X rest Γ' ae }) (h2 : Sb A X u Γ { ae with nx := fun Γ' => Sb A X rest Γ' ae }) : Sb A X (.If c t u pos :: rest) Γ ae :=
  sb_st (ps_if pt_w pss_w pss_w) fun F D σ B H E R => hc F σ B H R _ fun b B' H' p s R' => by
    cases b with
    | true => exact h1 F D σ B' H' E R'
    | false => exact h2 F D σ B' H' E R'
end
def Small (i : Int) : Prop := -2 ≤ i ∧ i ≤ 2
/-- a row of small numbers; twice small numbers -/
def SRow (n : Nat) (d : Dat) : Prop := ∃ r, d = rowD r ∧ r.length = n ∧ ∀ x ∈ r, Small x
def URow (n : Nat) (d : Dat) : Prop := ∃ r, d = rowD r ∧ r.length = n ∧ RBd 3 r
theorem SRow.u {n : Nat} {d : Dat} (h : SRow n d) : URow n d := by
  obtain ⟨r, h1, h2, h3⟩ := h
  exact ⟨r, h1, h2, fun x hx => by
    have := h3 x hx
    unfold Small at this
    show x.natAbs < 8
    omega⟩
section
variable {P : Program} {w : World} {K : PySem.W.Frag} {mg : Str → Option Value} {base : Heap} {A : Ad} {N : Addr} (T : Txt K mg A N)
include T
theorem c_law_draw : Cal P w K mg base "_law_draw" 1 (PuP A (Q1 fun d => ∃ m, d = .int m ∧ 0 < m ∧ m < 1073741824) (O1 fun d z => ∃ m r, d = .int m ∧ z = .int r ∧ 0 ≤ r ∧ r < m)) := by
  refine T.d_law_draw.puP sc__law_draw (by decide) (by rintro _ ⟨_, rfl, _⟩; rfl) ?_
  rintro f cdv A' outer s H _ hr ⟨_, rfl, m, rfl, m0, m1⟩
  have nd := sc__law_draw.nd
  refine (show Sb A _ _ [some .pot, some (.im (.int m)), none] _ from ?_)
  refine sb_ifU (et_gtU (q := fun _ => True) ei_pot0 (ei_c trivial)) ?_ (sb_nil ?_)
  · refine sb_pot0 2 (P := fun v => 0 ≤ v ∧ v < m) (ev_bf call_divmodW T.b_divmod (ea2 (P2 := fun z => z = .int m) ei_pot0 (ev_v 1)) (fun xs ds B H hp hi ex Q q => ?_)) (fun v hv => ?_)
    · obtain ⟨d, d', rfl, ⟨i, rfl, i0⟩, rfl⟩ := hp
      obtain ⟨v, w', rfl, iv, iw⟩ := hi.two
      cases iv; cases iw
      exact ⟨i, m, rfl, cdivp_small m0 m1, fun p hp => q _ _ _ (.tup [.int (i / m), .int (i % m)]) ⟨_, _, rfl, Int.ediv_nonneg i0 (Int.le_of_lt m0), Int.emod_nonneg i (Int.ne_of_gt m0), Int.emod_lt_of_pos i m0⟩ (Stp.new ex hp) ⟨p, _, rfl, upd_same, _, _, rfl, rfl, _, _, rfl, rfl, rfl⟩⟩
    · exact sb_ret (ev_v 2) (fun z h => ⟨_, rfl, m, v, rfl, h, hv⟩) fun _ => ⟨0, rfl⟩
  · refine sb_pot1 (ei_mod (p := fun _ => True) (q := fun j => j = 2147483587) (ei_int T.b_int (ei_add (p := fun _ => True) (q := fun _ => True) (ei_mul (q := fun j => j = 39373) 31 31 ei_pot1 (ei_c rfl) fun i j h1 h2 => ⟨by omega, by omega, trivial⟩) (ei_c trivial) fun _ _ _ _ => trivial)) (ei_c rfl) fun i j _ h => by
      subst h
      exact ⟨by decide, Int.emod_nonneg i (by decide), Int.lt_of_lt_of_le (Int.emod_lt_of_pos i (by decide)) (by decide)⟩) ?_
    exact sb_ret (P := fun z => ∃ r, z = .int r ∧ 0 ≤ r ∧ r < m) (ei_mod (p := fun _ => True) (q := fun j => j = m) (ei_int T.b_int (ei_fdiv 60 (p := fun _ => True) (q := fun j => j = 17) (ei_mod (p := fun _ => True) (q := fun j => j = 2147483563) (ei_int T.b_int (ei_mul 31 31 ei_pot1 ei_pot1 fun i j h1 h2 => ⟨by omega, by omega, trivial⟩)) (ei_c rfl) fun i j _ h => ⟨by omega, trivial⟩) (ei_c rfl) fun i j _ h => ⟨by omega, by omega, trivial⟩)) (ei_of (ev_v 1) rfl) fun i j _ h => by
      subst h
      exact ⟨m0, Int.emod_nonneg i (Int.ne_of_gt m0), Int.emod_lt_of_pos i m0⟩) (fun z ⟨r, h1, h2⟩ => ⟨_, rfl, m, r, rfl, h1, h2⟩) fun _ => ⟨0, rfl⟩
theorem c_law_pick (ds : List Dat) (h0 : 0 < ds.length) (h1 : ds.length < 1000000) : Cal P w K mg base "_law_pick" 2 (PuP A (Q1 fun d => d = .lst ds) (O1 fun d z => z ∈ ds)) := by
  refine T.d_law_pick.puP sc__law_pick (by decide) (by rintro _ ⟨_, rfl, _⟩; rfl) ?_
  rintro f cdv A' outer s H _ hr ⟨_, rfl, rfl⟩
  have nd := sc__law_pick.nd
  refine (show Sb A _ _ [some .pot, some (.im (.lst ds))] _ from ?_)
  refine sb_ret (P := fun z => z ∈ ds) (ev_ixL (ds := ds) (P1 := fun z => ∃ r, z = .int r ∧ 0 ≤ r ∧ r < (ds.length : Nat)) (ev_v 1) (ev_cP1 (c_law_draw T) hr (d1 := .int (ds.length : Nat)) (ev_len (n := ds.length) T.b_len (ev_v 1 rfl) fun z h => by rw [h]; rfl) ⟨_, rfl, by omega, by omega⟩ fun z ⟨m, r, e1, e2, e3, e4⟩ => ?_) fun z ⟨r, e1, e2, e3⟩ => ?_) (fun z h => ⟨_, rfl, h⟩) fun _ => ⟨0, rfl⟩
  · injection e1 with e1
    exact ⟨r, e2, e3, by omega⟩
  · have hr' : r.toNat < ds.length := by omega
    refine ⟨r, ds[r.toNat]'hr', e1, ?_, List.getElem_mem hr'⟩
    have e : ((r.toNat : Nat) : Int) = r := by omega
    have q : atI ds ((r.toNat : Nat) : Int) = some (ds[r.toNat]'hr') := atI_n (List.getElem?_eq_getElem hr')
    rw [e] at q
    exact q
def numsD : List Dat := [.int 0, .int 0, .int 0, .int 1, .int 1, .int (-1), .int 2, .int (-2)]
theorem c_law_number : Cal P w K mg base "_law_number" 3 (PuP A (fun ds => ds = []) (fun ds z => ds = [] ∧ ∃ i, z = .int i ∧ Small i)) := by
  refine T.d_law_number.puP sc__law_number (by decide) (by rintro _ rfl; rfl) ?_
  rintro f cdv A' outer s H _ hr rfl
  have nd := sc__law_number.nd
  refine (show Sb A _ _ [some .pot] _ from ?_)
  refine sb_ret (P := fun z => z ∈ numsD) (ev_cP1 (c_law_pick T numsD (by decide) (by decide)) hr (d1 := .lst numsD) (EvN.ev (en_lst (ea_cons (ev_int (i := 0)) (ea_cons (ev_int (i := 0)) (ea_cons (ev_int (i := 0)) (ea_cons (ev_int (i := 1)) (ea_cons (ev_int (i := 1)) (ea_cons (ev_neg (i := 1) ev_int) (ea_cons (ev_int (i := 2)) (ea_cons (ev_neg (i := 2) ev_int) ea_nil)))))))) fun ds h => ?_) fun ds h => ?_) rfl fun z h => h) (fun z h => ⟨rfl, ?_⟩) fun _ => ⟨0, rfl⟩
  · obtain ⟨_, _, rfl, rfl, _, _, rfl, rfl, _, _, rfl, rfl, _, _, rfl, rfl, _, _, rfl, rfl, _, _, rfl, rfl, _, _, rfl, rfl, _, _, rfl, rfl, rfl⟩ := h
    show 8 ≤ sizeLine
    decide
  · obtain ⟨_, _, rfl, rfl, _, _, rfl, rfl, _, _, rfl, rfl, _, _, rfl, rfl, _, _, rfl, rfl, _, _, rfl, rfl, _, _, rfl, rfl, _, _, rfl, rfl, rfl⟩ := h
    rfl
  · have hm : z = .int 0 ∨ z = .int 0 ∨ z = .int 0 ∨ z = .int 1 ∨ z = .int 1 ∨ z = .int (-1) ∨ z = .int 2 ∨ z = .int (-2) := by
      simpa [numsD] using h
    rcases hm with e | e | e | e | e | e | e | e <;> exact ⟨_, e, by decide, by decide⟩
theorem c_law_row : Cal P w K mg base "_law_row" 4 (PuP A (Q1 fun d => ∃ n : Nat, d = .int n ∧ n ≤ 100) (O1 fun d z => ∀ n : Nat, d = .int n → SRow n z)) := by
  refine T.d_law_row.puP sc__law_row (by decide) (by rintro _ ⟨_, rfl, _⟩; rfl) ?_
  rintro f cdv A' outer s H _ hr ⟨_, rfl, n, rfl, hn⟩
  have nd := sc__law_row.nd
  refine (show Sb A _ _ [some .pot, some (.im (.int (n : Nat))), none, none] _ from ?_)
  refine sb_setN 2 (en_lst ea_nil fun ds h => by rw [h]; exact Nat.zero_le _) (fun ds h => ?_)
  subst h
  refine sb_for (ds := rng 0 ((n : Nat) : Int).toNat) (wk_range1 (ev_v 1 rfl) (by omega) (by omega) T.b_range) (fun k Γ' => ∃ (r : List Int) (x : Option Sl), Γ' = [some .pot, some (.im (.int (n : Nat))), some (.mu (r.map Dat.int)), x] ∧ r.length = k ∧ ∀ y ∈ r, Small y) ⟨[], none, rfl, rfl, fun _ h => (nomatch h)⟩ ?_ ?_
  · rintro k d _ hd ⟨r, x, rfl, h1, h2⟩
    obtain ⟨hk, rfl⟩ := rng_item hd
    refine ⟨_, _, tg_name 3, ?_⟩
    refine sb_append 2 (ds := r.map Dat.int) (P := fun z => ∃ i, z = .int i ∧ Small i) (ev_cP0 (c_law_number T) hr fun z h => h) (fun z ⟨i, h3, h4⟩ => ?_) (by rw [List.length_map]; omega)
    subst h3
    refine sb_nil ⟨r ++ [i], some (.im (.int (k : Nat))), ?_, ?_, ?_⟩
    · rw [List.map_append]; rfl
    · rw [List.length_append, h1]; rfl
    · intro y hy
      rcases List.mem_append.mp hy with h | h
      · exact h2 y h
      · rw [(by simpa using h : y = i)]; exact h4
  · rintro _ ⟨r, x, rfl, h1, h2⟩
    rw [rng_len, Int.toNat_natCast] at h1
    refine sb_freeze 2 (ds := r.map Dat.int) (k := ?_)
    exact sb_ret (ev_v 2) (fun z h => ⟨_, rfl, fun n2 e => by
      have : n = n2 := by injection e with e; exact Int.ofNat_inj.mp e
      subst this
      exact ⟨r, h, h1, h2⟩⟩) fun _ => ⟨0, rfl⟩
end
end K64
/-! The law's pairs. -/
namespace K64
open PySem L2
def ownQ (r : List Int × List Int) : Dat := .tup [rowD r.1, rowD r.2]
def ownD (own : Own) : Dat := .lst (own.map ownQ)
theorem ownD_inj {o o' : Own} (h : ownD o = ownD o') : o = o' := by
  unfold ownD at h
  injection h with h
  refine (List.map_inj_right (fun x y e => ?_)).mp h
  unfold ownQ at e
  injection e with e
  injection e with e1 e2
  injection e2 with e2 _
  obtain ⟨a, b⟩ := x
  obtain ⟨c, d⟩ := y
  rw [show a = c from rowD_inj e1, show b = d from rowD_inj e2]
theorem rows2 {r : List Int} : (r.map Dat.int).map (fun d => Dat.int ((tbD d).1 * 2)) = (r.map (· * 2)).map Dat.int := by
  rw [List.map_map, List.map_map]; rfl
theorem rowsR {r : List Int} : (r.map Dat.int).map (fun d => Dat.rat (tbD d).1 1) = r.map fun i => Dat.rat i 1 := by
  rw [List.map_map]; rfl
theorem rowOf_int (r : List Int) : Fa2 (fun i e => e = Dat.int i ∨ e = .rat i 1) r (r.map Dat.int) := Fa2.mapR fun a _ => .inl rfl
def drawnD : List Dat := [.int 0, .int 0, .int 1, .int (-1), .int 2, .rat 1 2, .rat (-3) 4]
theorem mk12 : mkRat 1 2 = .rat 1 2 := by
  have e : gcdI 1 2 = 1 := by decide +kernel
  unfold mkRat
  rw [e, Int.ediv_one, Int.ediv_one]
theorem mk34 : mkRat (-3) 4 = .rat (-3) 4 := by
  have e : gcdI (-3) 4 = 1 := by decide +kernel
  unfold mkRat
  rw [e, Int.ediv_one, Int.ediv_one]
section
variable {P : Program} {w : World} {K : PySem.W.Frag} {mg : Str → Option Value} {base : Heap} {A : Ad} {N : Addr} (T : Txt K mg A N)
include T
theorem c_law_pairs : Cal P w K mg base "_law_pairs" 5 (PuP A (Q2 fun d e => ∃ n m : Nat, d = .int n ∧ e = .int m ∧ n ≤ 6 ∧ m ≤ 5) (O2 fun d e z => ∀ n m : Nat, d = .int n → e = .int m → ∃ own : Own, z = ownD own ∧ OwnOk n own ∧ own.length = m)) := by
  refine T.d_law_pairs.puP sc__law_pairs (by decide) (by rintro _ ⟨_, _, rfl, _⟩; rfl) ?_
  rintro f cdv A' outer s H _ hr ⟨_, _, rfl, n, m, rfl, rfl, n6, m5⟩
  have nd := sc__law_pairs.nd
  refine (show Sb A _ _ [some .pot, some (.im (.int (n : Nat))), some (.im (.int (m : Nat))), none, none, none, none, none, none] _ from ?_)
  refine sb_setN 3 (en_lst ea_nil fun ds h => by rw [h]; exact Nat.zero_le _) (fun ds h => ?_)
  subst h
  refine sb_for (ds := rng 0 ((m : Nat) : Int).toNat) (wk_range1 (ev_v 2 rfl) (by omega) (by omega) T.b_range) (fun k Γ' => ∃ (own : Own) (x y z u : Option Sl), Γ' = [some .pot, some (.im (.int (n : Nat))), some (.im (.int (m : Nat))), some (.mu (own.map ownQ)), x, y, z, u, none] ∧ own.length = k ∧ ∀ r ∈ own, (r.1.length = n ∧ RBd 3 r.1) ∧ r.2.length = n ∧ RBd 3 r.2)
    ⟨[], none, none, none, none, rfl, rfl, fun _ h => (nomatch h)⟩ ?_ ?_
  · rintro k d _ hd ⟨own, x, y, z, u, rfl, h1, h2⟩
    obtain ⟨hk, rfl⟩ := rng_item hd
    refine ⟨_, _, tg_name 4, ?_⟩
    refine sb_par 5 6 (P1 := SRow n) (P2 := fun z => ∃ r, z = .int r ∧ 0 ≤ r ∧ r < 8) (ev_cP1 (c_law_row T) hr (d1 := .int (n : Nat)) (ev_v 1) ⟨n, rfl, by omega⟩ fun z h => h n rfl) (ev_cP1 (c_law_draw T) hr (d1 := .int 8) ev_int ⟨8, rfl, by decide, by decide⟩ fun z ⟨m', r, e1, e2, e3⟩ => by injection e1 with e1; subst e1; exact ⟨r, e2, e3⟩) (fun d d' hnear hway => ?_)
    obtain ⟨near, rfl, n1, n2⟩ := hnear
    obtain ⟨way, rfl, w0, w8⟩ := hway
    refine (show Sb A _ _ [some .pot, some (.im (.int (n : Nat))), some (.im (.int (m : Nat))), some (.mu (own.map ownQ)), some (.im (.int (k : Nat))), some (.im (rowD near)), some (.im (.int way)), u, none] _ from ?_)
    refine sb_set 7 (P := URow n) (ev_if (et_eq (i := way) (j := 0) (ev_v 6) ev_int) (fun _ => EvN.ev (en_map [("_law_number_here", 8)] (fun d => .int ((tbD d).1 * 2)) (ds := near.map Dat.int) (wk_list (ev_v 5)) (fun d hd => ?_) (by rw [List.length_map]; omega) (own1 rfl)) fun ds h => ?_) (fun _ => ev_cP1 (c_law_row T) hr (d1 := .int (n : Nat)) (ev_v 1) ⟨n, rfl, by omega⟩ fun z h => (h n rfl).u)) (fun d hfar => ?_)
    · obtain ⟨i, hi, rfl⟩ := List.mem_map.mp hd
      have := n2 i hi
      unfold Small at this
      exact ⟨_, [8], by decide, fun s H C cl fp => tg_name 8, fun s H C cl fp => ev_mul 31 31 (i := i) (j := 2) (ev_v 8) ev_int (by omega) (by decide)⟩
    · rw [rows2] at h
      refine ⟨near.map (· * 2), by rw [h]; rfl, by rw [List.length_map]; exact n1, fun x hx => ?_⟩
      obtain ⟨i, hi, rfl⟩ := List.mem_map.mp hx
      have := n2 i hi
      unfold Small at this
      show (i * 2).natAbs < 8
      omega
    · obtain ⟨far, rfl, f1, f2⟩ := hfar
      have hnew : (near.length = n ∧ RBd 3 near) ∧ far.length = n ∧ RBd 3 far := ⟨⟨n1, fun x hx => by
        have := n2 x hx
        unfold Small at this
        show x.natAbs < 8
        omega⟩, f1, f2⟩
      refine (show Sb A _ _ [some .pot, some (.im (.int (n : Nat))), some (.im (.int (m : Nat))), some (.mu (own.map ownQ)), some (.im (.int (k : Nat))), some (.im (rowD near)), some (.im (.int way)), some (.im (rowD far)), none] _ from ?_)
      refine sb_append 3 (ds := own.map ownQ) (P := fun z => ∃ r : List Int × List Int, z = ownQ r ∧ (r.1.length = n ∧ RBd 3 r.1) ∧ r.2.length = n ∧ RBd 3 r.2) (ev_if (EvW.t (ew_and (et_eq (i := way) (j := 1) (ev_v 6) ev_int) (fun _ => ew_and1 (et_neNilMu 3 (ds := own.map ownQ) hr)))) (fun hk => ?_) (fun _ => ?_)) (fun z ⟨r, h3, h4⟩ => ?_) (by rw [List.length_map]; omega)
      · have hne : own ≠ [] := fun e => by
          rw [e] at hk
          simp at hk
        obtain ⟨o, r, e⟩ : ∃ o r, own = o ++ [r] := ⟨own.dropLast, own.getLast hne, (List.dropLast_concat_getLast hne).symm⟩
        refine (ev_muAt 3 (ds := own.map ownQ) (k := -1) (d := ownQ r) (ev_neg (i := 1) ev_int) ?_).imp fun z h => ⟨r, h, h2 r (by rw [e]; simp)⟩
        rw [e, List.map_append]
        exact atI_last _ _
      · refine (ev_tup (ea2 (ev_v (d := rowD near) 5) (ev_v (d := rowD far) 7)) (fun ds h => by obtain ⟨d, d', rfl, _⟩ := h; show 2 ≤ sizeLine; decide)).imp fun z h => ?_
        obtain ⟨ds, ⟨d, d', rfl, rfl, rfl⟩, rfl⟩ := h
        exact ⟨(near, far), rfl, hnew⟩
      · subst h3
        refine sb_nil ⟨own ++ [r], some (.im (.int (k : Nat))), some (.im (rowD near)), some (.im (.int way)), some (.im (rowD far)), ?_, ?_, ?_⟩
        · rw [List.map_append]; rfl
        · rw [List.length_append, h1]; rfl
        · intro q hq
          rcases List.mem_append.mp hq with h | h
          · exact h2 q h
          · rw [(by simpa using h : q = r)]; exact h4
  · rintro _ ⟨own, x, y, z, u, rfl, h1, h2⟩
    rw [rng_len, Int.toNat_natCast] at h1
    refine sb_freeze 3 (ds := own.map ownQ) (k := ?_)
    exact sb_ret (ev_v 3) (fun z h => ⟨_, _, rfl, fun n2 m2 e1 e2 => by
      have e1 : n = n2 := by injection e1 with e; exact Int.ofNat_inj.mp e
      have e2 : m = m2 := by injection e2 with e; exact Int.ofNat_inj.mp e
      subst e1 e2
      exact ⟨own, h, ⟨n6, by omega, h2⟩, h1⟩⟩) fun _ => ⟨0, rfl⟩
theorem c_law_given : Cal P w K mg base "_law_given" 4 (PuP A (Q1 fun d => ∃ n own, d = ownD own ∧ OwnOk n own) (O1 fun d z => ∀ own, d = ownD own → ∃ ps, z = .lst ps ∧ Fa2 PairOf own ps)) := by
  refine T.d_law_given.puP sc__law_given (by decide) (by rintro _ ⟨_, rfl, _⟩; rfl) ?_
  rintro f cdv A' outer s H _ hr ⟨_, rfl, n, own, rfl, ok⟩
  have nd := sc__law_given.nd
  have l5 := ok.l8
  have n6 := ok.n8
  refine (show Sb A _ _ [some .pot, some (.im (ownD own)), none, none, none, none, none, none, none] _ from ?_)
  refine sb_setN 2 (en_lst ea_nil fun ds h => by rw [h]; exact Nat.zero_le _) (fun ds h => ?_)
  subst h
  refine sb_for (ds := own.map ownQ) (wk_list (ev_v 1)) (fun k Γ' => ∃ (ps : List Dat) (x3 x4 x5 x6 x7 : Option Sl), Γ' = [some .pot, some (.im (ownD own)), some (.mu ps), x3, x4, x5, x6, x7, none] ∧ Fa2 PairOf (own.take k) ps) ⟨[], none, none, none, none, none, rfl, rfl⟩ ?_ ?_
  · rintro k d _ hd ⟨ps, x3, x4, x5, x6, x7, rfl, h1⟩
    rw [List.getElem?_map] at hd
    obtain ⟨r, hr', rfl⟩ := Option.map_eq_some_iff.mp hd
    have q := ok.ok r (List.mem_of_getElem? hr')
    refine ⟨_, _, tg_two (tg_name 3) (tg_name 4), ?_⟩
    refine sb_set 5 (P := fun z => ∃ r, z = .int r ∧ 0 ≤ r ∧ r < 3) (ev_cP1 (c_law_draw T) hr (d1 := .int 3) ev_int ⟨3, rfl, by decide, by decide⟩ fun z ⟨m', r, e1, e2, e3⟩ => by injection e1 with e1; subst e1; exact ⟨r, e2, e3⟩) (fun d hway => ?_)
    obtain ⟨way, rfl, w0, w3⟩ := hway
    refine (show Sb A _ _ [some .pot, some (.im (ownD own)), some (.mu ps), some (.im (rowD r.1)), some (.im (rowD r.2)), some (.im (.int way)), x6, x7, none] _ from ?_)
    refine sb_asg (P := fun z => ∃ a b, z = .tup [a, b] ∧ RowOf r.1 a ∧ RowOf r.2 b) (ev_if (et_eq (i := way) (j := 0) (ev_v 5) ev_int)
      (fun _ => (ev_tup (ea2 (P1 := fun z => z = rowD r.1) (P2 := fun z => z = .tup (r.2.map Dat.int)) (EvN.ev (en_list (d := rowD r.1) T.b_list (ev_v 3) rfl) fun ds h => by rw [h]; rfl) (ev_tuple (d := rowD r.2) T.b_tuple (ev_v 4) rfl)) (fun ds h => by obtain ⟨d, d', rfl, _⟩ := h; show 2 ≤ sizeLine; decide)).imp fun z h => ?_)
      (fun _ => (ev_tup (ea2 (P1 := fun z => z = ratRow r.1) (P2 := fun z => z = rowD r.2) (EvN.ev (en_map [("_law_number_here", 8)] (fun d => .rat (tbD d).1 1) (ds := r.1.map Dat.int) (wk_list (ev_v 3)) (fun d hd => ?_) (by rw [List.length_map]; omega) (own1 rfl)) fun ds h => by rw [h, rowsR]; rfl) (EvN.ev (en_list (d := rowD r.2) T.b_list (ev_v 4) rfl) fun ds h => by rw [h]; rfl)) (fun ds h => by obtain ⟨d, d', rfl, _⟩ := h; show 2 ≤ sizeLine; decide)).imp fun z h => ?_)) (fun d hd => ?_)
    · obtain ⟨ds, ⟨d, d', rfl, rfl, rfl⟩, rfl⟩ := h
      exact ⟨_, _, rfl, ⟨_, rfl, rowOf_int r.1⟩, ⟨_, rfl, rowOf_int r.2⟩⟩
    · obtain ⟨i, hi, rfl⟩ := List.mem_map.mp hd
      exact ⟨_, [8], by decide, fun s H C cl fp => tg_name 8, fun s H C cl fp => ev_R1 T hr (t := i) (ev_v 8)⟩
    · obtain ⟨ds, ⟨d, d', rfl, rfl, rfl⟩, rfl⟩ := h
      exact ⟨_, _, rfl, rowOf_self r.1, ⟨_, rfl, rowOf_int r.2⟩⟩
    · obtain ⟨a, b, rfl, ha, hb⟩ := hd
      refine ⟨_, _, tg_two (tg_name 6) (tg_name 7), ?_⟩
      refine (show Sb A _ _ [some .pot, some (.im (ownD own)), some (.mu ps), some (.im (rowD r.1)), some (.im (rowD r.2)), some (.im (.int way)), some (.im a), some (.im b), none] _ from ?_)
      refine sb_append 2 (ds := ps) (P := PairOf r) (ev_if (et_lt (i := way) (j := 2) (ev_v 5) ev_int) (fun _ => (ev_tup (ea2 (ev_v 6 rfl) (ev_v 7 rfl)) (fun ds h => by obtain ⟨d, d', rfl, _⟩ := h; show 2 ≤ sizeLine; decide)).imp fun z h => ?_) (fun _ => EvN.ev (en_lst (ea2 (ev_v 6 rfl) (ev_v 7 rfl)) (fun ds h => by obtain ⟨d, d', rfl, _⟩ := h; show 2 ≤ sizeLine; decide)) fun ds h => ?_)) (fun z h => ?_) (by
          rw [h1.len, List.length_take]
          omega)
      · obtain ⟨ds, ⟨d, d', rfl, rfl, rfl⟩, rfl⟩ := h
        exact ⟨_, _, rfl, ha, hb⟩
      · obtain ⟨d, d', rfl, rfl, rfl⟩ := h
        exact ⟨_, _, rfl, ha, hb⟩
      · refine sb_nil ⟨ps ++ [z], _, _, _, _, _, rfl, ?_⟩
        rw [List.take_add_one, hr']
        exact Fa2.snoc h h1
  · rintro _ ⟨ps, x3, x4, x5, x6, x7, rfl, h1⟩
    rw [List.length_map, List.take_length] at h1
    refine sb_freeze 2 (ds := ps) (k := ?_)
    exact sb_ret (ev_v 2) (fun z h => ⟨_, rfl, fun o e => by
      have := ownD_inj e
      subst this
      exact ⟨ps, h, h1⟩⟩) fun _ => ⟨0, rfl⟩
theorem c_law_drawn : Cal P w K mg base "_law_drawn" 4 (PuP A (Q1 fun d => ∃ m : Nat, d = .int m ∧ m ≤ 100) (O1 fun d z => ∀ m : Nat, d = .int m → ∃ ds, z = .lst ds ∧ ds.length = m ∧ ∀ e ∈ ds, e ∈ drawnD)) := by
  refine T.d_law_drawn.puP sc__law_drawn (by decide) (by rintro _ ⟨_, rfl, _⟩; rfl) ?_
  rintro f cdv A' outer s H _ hr ⟨_, rfl, n, rfl, hn⟩
  have nd := sc__law_drawn.nd
  refine (show Sb A _ _ [some .pot, some (.im (.int (n : Nat))), none, none] _ from ?_)
  refine sb_setN 2 (en_lst ea_nil fun ds h => by rw [h]; exact Nat.zero_le _) (fun ds h => ?_)
  subst h
  refine sb_for (ds := rng 0 ((n : Nat) : Int).toNat) (wk_range1 (ev_v 1 rfl) (by omega) (by omega) T.b_range) (fun k Γ' => ∃ (r : List Dat) (x : Option Sl), Γ' = [some .pot, some (.im (.int (n : Nat))), some (.mu r), x] ∧ r.length = k ∧ ∀ y ∈ r, y ∈ drawnD) ⟨[], none, rfl, rfl, fun _ h => (nomatch h)⟩ ?_ ?_
  · rintro k d _ hd ⟨r, x, rfl, h1, h2⟩
    obtain ⟨hk, rfl⟩ := rng_item hd
    refine ⟨_, _, tg_name 3, ?_⟩
    have pick : Cal P w K mg base "_law_pick" 2 (PuP A (Q1 fun d => d = .lst drawnD) (O1 fun d z => z ∈ drawnD)) := c_law_pick T drawnD (show 0 < 7 by decide) (show 7 < 1000000 by decide)
    refine sb_append 2 (ds := r) (P := fun z => z ∈ drawnD) (ev_cP1 (k := 2) (Pr := fun d => d = .lst drawnD) (R := fun d z => z ∈ drawnD) pick hr (d1 := .lst drawnD) (EvN.ev (en_lst (ea_cons (ev_int (i := 0)) (ea_cons (ev_int (i := 0)) (ea_cons (ev_int (i := 1)) (ea_cons (ev_neg (i := 1) ev_int) (ea_cons (ev_int (i := 2)) (ea_cons (ev_R2 T (t := 1) (u := 2) hr ev_int ev_int (by decide) (bd_small 8000 (by decide) (by decide) (by decide))) (ea_cons (ev_R2 T (t := -3) (u := 4) hr (ev_neg (i := 3) ev_int) ev_int (by decide) (bd_small 8000 (by decide) (by decide) (by decide))) ea_nil))))))) fun ds h => ?_) fun ds h => ?_) rfl fun z h => h) (fun z h => ?_) (by omega)
    · obtain ⟨_, _, rfl, rfl, _, _, rfl, rfl, _, _, rfl, rfl, _, _, rfl, rfl, _, _, rfl, rfl, _, _, rfl, rfl, _, _, rfl, rfl, rfl⟩ := h
      show 7 ≤ sizeLine
      decide
    · obtain ⟨_, _, rfl, rfl, _, _, rfl, rfl, _, _, rfl, rfl, _, _, rfl, rfl, _, _, rfl, rfl, _, _, rfl, rfl, _, _, rfl, rfl, rfl⟩ := h
      rw [mk12, mk34]
      rfl
    · refine sb_nil ⟨r ++ [z], some (.im (.int (k : Nat))), rfl, ?_, ?_⟩
      · rw [List.length_append, h1]; rfl
      · intro y hy
        rcases List.mem_append.mp hy with h' | h'
        · exact h2 y h'
        · rw [(by simpa using h' : y = z)]; exact h
  · rintro _ ⟨r, x, rfl, h1, h2⟩
    rw [rng_len, Int.toNat_natCast] at h1
    refine sb_freeze 2 (ds := r) (k := ?_)
    exact sb_ret (ev_v 2) (fun z h => ⟨_, rfl, fun n2 e => by
      have : n = n2 := by injection e with e; exact Int.ofNat_inj.mp e
      subst this
      exact ⟨r, h, h1, h2⟩⟩) fun _ => ⟨0, rfl⟩
end
end K64
/-! The law's rank. -/
namespace K64
open PySem L2
def noSelf : Sls → Bool
  | [] => true
  | some (.self _ _) :: _ => false
  | _ :: r => noSelf r
theorem noSelf_at : ∀ {Γ : Sls} {j : Nat} {C : Addr} {fs : List (Str × Dat)}, noSelf Γ = true → Γ[j]? ≠ some (some (.self C fs))
  | [], _, _, _, _, e => by simp at e
  | some (.self _ _) :: _, _, _, _, h, _ => by cases h
  | none :: _, 0, _, _, _, e => by cases e
  | some (.im d) :: _, 0, _, _, _, e => by cases e
  | some (.mu d) :: _, 0, _, _, _, e => by cases e
  | some .pot :: _, 0, _, _, _, e => by cases e
  | some (.pin _ _ _) :: _, 0, _, _, _, e => by cases e
  | none :: r, j + 1, _, _, h, e => noSelf_at (Γ := r) (j := j) h e
  | some (.im d) :: r, j + 1, _, _, h, e => noSelf_at (Γ := r) (j := j) h e
  | some (.mu d) :: r, j + 1, _, _, h, e => noSelf_at (Γ := r) (j := j) h e
  | some .pot :: r, j + 1, _, _, h, e => noSelf_at (Γ := r) (j := j) h e
  | some (.pin _ _ _) :: r, j + 1, _, _, h, e => noSelf_at (Γ := r) (j := j) h e
section
variable {A : Ad} {X : Cx} {Γ Γ' : Sls} {a b c : Expr} {pos : Pos}
/-- what became known meanwhile is forgotten -/
theorem Rel.forget {F : Fx} {σ : L2.St} {B H B1 B' H' : Hp} (R : Rel A F Γ σ B H) (e : Ex B B1) (s : Stp F.mp B1 H B' H') (R' : Rel A F Γ' σ B' H') (hp : ∀ i : Nat, Γ[i]? = some (some .pot) → Γ'[i]? = some (some .pot)) (hs : noSelf Γ = true) : Rel A F Γ σ B H' where
  st := ⟨fun x o n h => s.ex x o n (R.st.ex x o n h), R.st.exB, (e.trans s.exB).trans s.sub, R.st.av, fun p hp => ⟨(R.mB p hp).1, (s.mB p hp).2⟩⟩
  sl := fun i sl h => by
    obtain ⟨v, e1, ok⟩ := R.sl i sl h
    cases sl with
    | im d => exact ⟨v, e1, ok⟩
    | mu ds =>
      obtain ⟨p, xs, h1, h2, h3, h4, h5, h6⟩ := ok
      exact ⟨v, e1, p, xs, h1, h2, h3, h4, s.ex p _ (fun z => h3 z.symm) h5, h6⟩
    | pot => exact R'.sl i _ (hp i h)
    | self C fs => exact absurd h (noSelf_at hs)
    | pin u d B2 => exact ⟨v, e1, ok⟩
  ap := R.ap
  len := R.len
theorem iss_ints {B : Hp} : ∀ {ns : List Int}, Iss A B (ns.map Dat.int) (ns.map V.int)
  | [] => rfl
  | n :: ns => ⟨.int n, _, rfl, rfl, iss_ints⟩
/-- y = [..], numbers read out of a list of one's own -/
theorem sb_setLz (i j : Nat) {y : Str} {py spos : Pos} {elt tg iter : Expr} {ifs : List Expr} {scope : Scope} {own : List (Str × Nat)} {ds : List Dat} {PN : List Dat → Prop} {rest : List Stmt} {ae : AE} (h : EvL A X elt tg iter ifs scope own (Γ.set j (some (.im (.lst ds)))) PN)
    (hz : ∀ zs, PN zs → ∃ ns : List Int, zs = ns.map Dat.int) (k : ∀ ds, PN ds → Sb A X rest (Γ.set i (some (.mu ds))) ae) (hΓ : Γ[j]? = some (some (.mu ds)) := by rfl) (hsf : noSelf Γ = true := by rfl)
    (hN : X.N.Nodup := by assumption) (ok : BlkOk X.N X.env.scope scope own := by exact blkOk_by rfl) (hi : X.N[i]? = some y := by rfl) (hyl : X.env.scope.names.lookup y = some .local := by rfl) (hl : i < Γ.length := by exact Nat.le_of_ble_eq_true rfl)
    (hk : X.env.scope.kind = .function := by rfl) (hln : (py.line == pos.line) = true := by rfl) (ha : (scope.names.any fun (n, k) => n == y && (k == .local || k == .cell)) = false := by rfl) (hc : X.calm = true := by rfl) (hf : ∀ x, foldedSetIterable iter X.env x = pure x := by intro _; rfl) :
    Sb A X (.Assign [.Name y py] (.ListComp elt [⟨tg, iter, ifs, 0⟩] scope pos) spos :: rest) Γ ae :=
  sb_st (ps_setLc hc hN hi hyl (sw_true hk hyl hln ha) pi_w ok gC_ok tC_ok eC_ok hf) fun F D σ B H E R => by
    obtain ⟨B1, e1, R1⟩ := R.freeze hΓ
    refine h F σ B1 H R1 _ fun p xs B' H' ds' pd s R' h1 h2 h3 h4 => ?_
    have R2 : Rel A F Γ σ B H' := R.forget e1 s R' (fun i' hp => by
      by_cases c : j = i'
      · subst c; rw [hΓ] at hp; cases hp
      · rw [List.getElem?_set_ne c]; exact hp) hsf
    obtain ⟨ns, rfl⟩ := hz ds' pd
    have hx := h4.ints
    subst hx
    have hB : B p = none := by
      cases q : B p with
      | none => rfl
      | some o => rw [R.sub _ _ q] at h1; cases h1
    exact E.nx' (k _ pd) (R2.setMu (R.fresh0 h1) (R.nmp h1) hB h3 iss_ints hl fun j' es _ hj => slot_ne (B' := B) (H' := H) R h1 j' es hj)
end
theorem combR_clr {p : Nat} {r h : List Int} (hl : r.length = h.length) : Clr p h r (combR (rowf h p) (rowf r p) r h) := ⟨1, by decide, fun j => by rw [Int.one_mul, combR_at _ _ hl]⟩
theorem bits_le24 {k : Nat} (h : k ≤ 6) : bits 24 k ≤ 2000 := by
  have e := bits_eq 24 k
  have : 2 ^ k ≤ 2 ^ 6 := Nat.pow_le_pow_right (by decide) h
  have e2 : (2 : Nat) ^ 6 = 64 := by decide
  rw [e2] at this
  have : (24 + 1) * 2 ^ k ≤ (24 + 1) * 64 := Nat.mul_le_mul_left _ this
  omega
section
variable {P : Program} {w : World} {K : PySem.W.Frag} {mg : Str → Option Value} {base : Heap} {A : Ad} {N : Addr} (T : Txt K mg A N)
include T
theorem c_law_cleared (b : Nat) (hb : b ≤ 400000) (hb0 : 0 < b) : Cal P w K mg base "_law_cleared" 1 (Pu A (Q3 fun d e g => ∃ (r h : List Int) (p : Nat), d = rowD r ∧ e = rowD h ∧ g = .int p ∧ r.length = h.length ∧ p < r.length ∧ r.length ≤ 100000 ∧ RBd b r ∧ RBd b h)
    (O3 fun d e g z => ∀ (r h : List Int) (p : Nat), d = rowD r → e = rowD h → g = .int p → z = rowD (combR (rowf h p) (rowf r p) r h))) := by
  refine T.d_law_cleared.pu sc__law_cleared (by decide) (by rintro _ ⟨_, _, _, rfl, _⟩; rfl) ?_
  rintro f cdv A' outer s H _ hr ⟨_, _, _, rfl, r, h, p, rfl, rfl, rfl, hl, hp, hl2, hB1, hB2⟩
  have nd := sc__law_cleared.nd
  refine (show Sb A _ _ [some (.im (rowD r)), some (.im (rowD h)), some (.im (.int (p : Nat))), none, none] _ from ?_)
  have ir : atI (r.map Dat.int) ((p : Nat) : Int) = some (.int (rowf r p)) := atI_n (rowD_at hp)
  have ih : atI (h.map Dat.int) ((p : Nat) : Int) = some (.int (rowf h p)) := atI_n (rowD_at (by omega))
  refine sb_ret (P := fun z => z = rowD (combR (rowf h p) (rowf r p) r h)) (EvN.ev (en_map [("_law_near", 3), ("_law_far", 4)] (combD (rowf h p) (rowf r p)) (wk_zip (ev_v 0 rfl) (ev_v 1 rfl) T.b_zip) (fun d hd => ?_) (by rw [zip_len hl]; exact hl2) (own2 rfl rfl)) fun ds hds => by rw [hds, combD_map]; rfl) fun z hz => ⟨_, _, _, rfl, fun r2 h2 p2 e1 e2 e3 => by
    have e1 := rowD_inj e1
    have e2 := rowD_inj e2
    have e3 : p = p2 := by injection e3 with e3; exact Int.ofNat_inj.mp e3
    subst e1 e2 e3
    exact hz⟩
  obtain ⟨a, c, ha, hc, rfl⟩ := zip_ints hd
  refine ⟨_, [3] ++ [4], by decide, fun s H C cl fp => tg_two (tg_name 3) (tg_name 4), fun s H C cl fp => ?_⟩
  exact ev_sub (ev_mul b b (ev_atL (ev_v 1 rfl) (ev_v 2 rfl) ih) (ev_v 3 rfl) (hB2.at p) (hB1 a ha) hb0 hb0 (by omega)) (ev_mul b b (ev_atL (ev_v 0 rfl) (ev_v 2 rfl) ir) (ev_v 4 rfl) (hB1.at p) (hB2 c hc) hb0 hb0 (by omega))
theorem c_law_rank : Cal P w K mg base "_law_rank" 2 (Pu A (Q1 fun d => ∃ (M : List (List Int)) (n : Nat), d = matD M ∧ M.length ≤ 1000 ∧ n ≤ 6 ∧ ∀ r ∈ M, r.length = n ∧ RBd 24 r)
    (O1 fun d z => ∀ (M : List (List Int)) (n : Nat), d = matD M → (∀ r ∈ M, r.length = n) → z = .int (rk n (Ker n M) : Nat))) := by
  refine T.d_law_rank.pu sc__law_rank (by decide) (by rintro _ ⟨_, rfl, _⟩; rfl) ?_
  rintro f cdv A' outer s H _ hr ⟨_, rfl, M, n, rfl, hM, hn, hq⟩
  have nd := sc__law_rank.nd
  refine (show Sb A _ _ [some (.im (matD M)), none, none, none, none, none, none, none] _ from ?_)
  have fin : ∀ z : Dat, z = .int (rk n (Ker n M) : Nat) → (O1 fun d z => ∀ (M : List (List Int)) (n : Nat), d = matD M → (∀ r ∈ M, r.length = n) → z = .int (rk n (Ker n M) : Nat)) [matD M] z := fun z hz => ⟨_, rfl, fun M2 n2 e1 e2 => by
    have e1 := matD_inj e1
    subst e1
    cases M with
    | nil => rw [hz, rk_nil, rk_nil]
    | cons r M =>
      have q1 := (hq r (.head _)).1
      have q2 := e2 r (.head _)
      rw [q1] at q2
      subst q2
      exact hz⟩
  refine sb_parN 1 2 (PN := fun z => z = M.map rowD) ((en_map [("_law_row_here", 6)] id (wk_list (ds := M.map rowD) (ev_v 0)) (fun d hd => ?_) (by rw [List.length_map]; omega) (own1 rfl)).imp fun z h => by rw [h, List.map_id]) (ev_int (i := 0)) (fun ds d' h1 h2 => ?_)
  · obtain ⟨r, hr', rfl⟩ := List.mem_map.mp hd
    exact ⟨_, [6], by decide, fun s H C cl fp => tg_name 6, fun s H C cl fp => EvN.ev (en_list (d := rowD r) T.b_list (ev_v 6) rfl) fun ds h => by rw [h]; rfl⟩
  subst h1 h2
  have start : ∃ m : Nat, (m = n ∨ (m = 0 ∧ M = [])) ∧ (M ≠ [] → m = n) ∧ (M = [] → m = 0) := by
    by_cases e : M = []
    · exact ⟨0, .inr ⟨rfl, e⟩, fun z => absurd e z, fun _ => rfl⟩
    · exact ⟨n, .inl rfl, fun _ => rfl, fun z => absurd z e⟩
  obtain ⟨m, hm, m1, m2⟩ := start
  refine (show Sb A _ _ [some (.im (matD M)), some (.mu (M.map rowD)), some (.im (.int 0)), none, none, none, none, none] _ from ?_)
  refine sb_for (ds := rng 0 ((m : Nat) : Int).toNat) (wk_range1 (ev_if (k := !(M.map rowD).isEmpty) (et_neNilMu 1 hr) (fun hk => ?_) (fun hk => ?_)) (by omega) (by omega) T.b_range)
    (fun p Γ' => ∃ (L : List (List Int)) (c : Nat) (x y z : Option Sl), Γ' = [some (.im (matD M)), some (.mu (L.map rowD)), some (.im (.int (c : Nat))), x, y, z, none, none] ∧ (∀ r ∈ L, r.length = n ∧ RBd (bits 24 p) r) ∧ L.length ≤ M.length ∧ Low p L ∧ (p ≤ n → c + cnt (Ker n L) p (n - p) = rk n (Ker n M)))
    ⟨M, 0, none, none, none, rfl, hq, Nat.le_refl _, fun r _ j hj => absurd hj (Nat.not_lt_zero j), fun _ => by rw [Nat.zero_add]; rfl⟩ ?_ ?_
  · have hne : M ≠ [] := fun e => by rw [e] at hk; cases hk
    rw [m1 hne]
    obtain ⟨r, M', rfl⟩ := List.exists_cons_of_ne_nil hne
    exact ev_len (n := n) T.b_len (ev_muAt 1 (ds := (r :: M').map rowD) ev_int (d := rowD r) (atI0 rfl)) fun z hz => by rw [hz]; show some (r.map Dat.int).length = _; rw [List.length_map, (hq r (.head _)).1]
  · have he : M = [] := by
      cases M with
      | nil => rfl
      | cons r M => cases hk
    rw [m2 he]
    exact ev_int
  · rintro p d _ hd ⟨L, c, x, y, z, rfl, h1, h2, h3, h4⟩
    obtain ⟨hp, rfl⟩ := rng_item hd
    have hpn : p < n := by
      rcases hm with e | ⟨e, _⟩ <;> omega
    have hb := bits_le24 (k := p) (by omega)
    have hcnt : c + cnt (Ker n L) p ((n - (p + 1)) + 1) = rk n (Ker n M) := by
      have := h4 (by omega)
      have e : n - (p + 1) + 1 = n - p := by omega
      rw [e]; exact this
    refine ⟨_, _, tg_name 3, ?_⟩
    refine sb_drop 4 (sb_drop 5 ?_)
    refine (show Sb A _ _ [some (.im (matD M)), some (.mu (L.map rowD)), some (.im (.int (c : Nat))), some (.im (.int (p : Nat))), none, none, none, none] _ from ?_)
    refine sb_setLz 4 1 (ds := L.map rowD) (PN := fun zs => ∃ ns : List Nat, zs = ns.map (fun i : Nat => Dat.int (i : Nat)) ∧ (∀ i ∈ ns, ∃ r, L[i]? = some r ∧ rowf r p ≠ 0) ∧ ∀ i r, L[i]? = some r → rowf r p ≠ 0 → i ∈ ns)
      (el_lc [("_law_at", 7), ("_law_row_here", 6)] (ds := enumD 0 (L.map rowD)) (wk_enum (ds := L.map rowD) (ev_v 1) T.b_enumerate) (fun k acc => ∃ ns : List Nat, acc = ns.map (fun i : Nat => Dat.int (i : Nat)) ∧ ns.length ≤ k ∧ (∀ i ∈ ns, ∃ r, L[i]? = some r ∧ rowf r p ≠ 0) ∧ ∀ i r, i < k → L[i]? = some r → rowf r p ≠ 0 → i ∈ ns) ⟨[], rfl, Nat.le_refl _, fun _ h => (nomatch h), fun i r h => absurd h (Nat.not_lt_zero i)⟩ (fun k d acc hd ⟨ns, e1, e2, e3, e4⟩ => ?_) (fun acc ⟨ns, e1, e2, e3, e4⟩ => ?_) (by rw [enumD_len, List.length_map]; omega) (fun k acc ⟨ns, e1, e2, e3, e4⟩ => by rw [e1, List.length_map]; exact e2) (own2 rfl rfl)) (fun zs ⟨ns, e1, _⟩ => ⟨ns.map fun i : Nat => (i : Int), by rw [e1, List.map_map]; rfl⟩) (fun zs hzs => ?_)
    · obtain ⟨u, hu, rfl⟩ := enumD_at hd
      rw [List.getElem?_map] at hu
      obtain ⟨r, hr', rfl⟩ := Option.map_eq_some_iff.mp hu
      have hlt : p < r.length := by rw [(h1 r (List.mem_of_getElem? hr')).1]; exact hpn
      refine ⟨_, [7] ++ [6], by decide, fun s H C cl fp => tg_two (tg_name 7) (tg_name 6), !decide (rowf r p = 0), fun s H C cl fp => ef_one (et_ne (j := 0) (ev_atL (ds := r.map Dat.int) (ev_v 6) (ev_v (d := .int (p : Nat)) 3) (atI_n (rowD_at hlt))) ev_int), fun hb => ⟨fun z => z = .int ((0 + k : Nat) : Int), fun s H C cl fp => ev_v 7, fun e he => ?_⟩, fun hb => ?_⟩
      · have h0 : rowf r p ≠ 0 := fun e => by rw [e] at hb; cases hb
        refine ⟨ns ++ [k], by rw [he, e1, List.map_append, Nat.zero_add]; rfl, by rw [List.length_append]; exact Nat.succ_le_succ e2, fun i hi => ?_, fun i q hi hq' h0' => ?_⟩
        · rcases List.mem_append.mp hi with hi | hi
          · exact e3 i hi
          · rw [(by simpa using hi : i = k)]; exact ⟨r, hr', h0⟩
        · by_cases c1 : i = k
          · rw [c1]; simp
          · exact List.mem_append_left _ (e4 i q (by omega) hq' h0')
      · have h0 : rowf r p = 0 := by
          by_cases e : rowf r p = 0
          · exact e
          · simp [e] at hb
        refine ⟨ns, e1, by omega, e3, fun i q hi hq' h0' => ?_⟩
        by_cases c1 : i = k
        · rw [c1, hr'] at hq'
          cases hq'
          exact absurd h0 h0'
        · exact e4 i q (by omega) hq' h0'
    · refine ⟨ns, e1, e3, fun i r hr' h0 => e4 i r ?_ hr' h0⟩
      rw [enumD_len, List.length_map]
      exact (List.getElem?_eq_some_iff.mp hr').1
    · obtain ⟨ns, rfl, e3, e4⟩ := hzs
      refine sb_if (k := !(ns.map (fun i : Nat => Dat.int (i : Nat))).isEmpty) (et_neNilMu 4 hr) (fun hk => ?_) (fun hk => ?_)
      · obtain ⟨i, ns', rfl⟩ : ∃ i ns', ns = i :: ns' := by
          cases ns with
          | nil => cases hk
          | cons i ns' => exact ⟨i, ns', rfl⟩
        obtain ⟨r, hi, h0⟩ := e3 i (.head _)
        have hlt := (List.getElem?_eq_some_iff.mp hi).1
        refine sb_popAt 1 5 (ds := L.map rowD) (d := rowD r) (n := i) (ev_muAt 4 (ds := (i :: ns').map (fun i : Nat => Dat.int (i : Nat))) ev_int (atI0 rfl)) (by rw [List.getElem?_map, hi]; rfl) ?_ (by omega)
        have ee : (L.map rowD).eraseIdx i = (L.eraseIdx i).map rowD := by rw [← take_drop_D, List.eraseIdx_eq_take_drop_succ]
        rw [ee]
        refine (show Sb A _ _ [some (.im (matD M)), some (.mu ((L.eraseIdx i).map rowD)), some (.im (.int (c : Nat))), some (.im (.int (p : Nat))), some (.mu ((i :: ns').map (fun i : Nat => Dat.int (i : Nat)))), some (.im (rowD r)), none, none] _ from ?_)
        refine sb_freeze 1 (ds := (L.eraseIdx i).map rowD) (k := ?_)
        have hrr := h1 r (List.mem_of_getElem? hi)
        have b0 : 0 < bits 24 p := by have := bits_eq 24 p; have : 0 < 2 ^ p := Nat.two_pow_pos p; omega
        refine sb_setL 1 (PN := fun z => z = ((L.eraseIdx i).map fun q => combR (rowf r p) (rowf q p) q r).map rowD) (el_lc [("_law_row_here", 6)] (ds := (L.eraseIdx i).map rowD) (wk_list (ds := (L.eraseIdx i).map rowD) (ev_v 1)) (fun k acc => acc = (((L.eraseIdx i).take k).map fun q => combR (rowf r p) (rowf q p) q r).map rowD) rfl (fun k d acc hd hacc => ?_) (fun acc hacc => ?_) ?_ (fun k acc hacc => ?_) (own1 rfl)) (fun zs hzs => ?_)
        · rw [List.getElem?_map] at hd
          obtain ⟨q, hq', rfl⟩ := Option.map_eq_some_iff.mp hd
          have q1 := h1 q (List.mem_of_mem_eraseIdx (List.mem_of_getElem? hq'))
          refine ⟨_, [6], by decide, fun s H C cl fp => tg_name 6, true, fun s H C cl fp => ef_nil, fun _ => ⟨fun z => z = rowD (combR (rowf r p) (rowf q p) q r), fun s H C cl fp => ?_, fun e he => ?_⟩, fun z => nomatch z⟩
          · exact ev_c3 (c_law_cleared T (bits 24 p) (by omega) b0) hr (d1 := rowD q) (d2 := rowD r) (d3 := .int (p : Nat)) (ev_v 6) (ev_v 5) (ev_v 3) ⟨q, r, p, rfl, rfl, rfl, by rw [q1.1, hrr.1], by rw [q1.1]; exact hpn, by rw [q1.1]; omega, q1.2, hrr.2⟩ fun z h => h q r p rfl rfl rfl
          · rw [he, hacc, List.take_add_one, hq', List.map_append, List.map_append]
            rfl
        · rw [hacc, List.length_map, List.take_length]
        · rw [List.length_map]
          exact Nat.le_trans (List.length_eraseIdx_le L i) (by omega)
        · rw [hacc, List.length_map, List.length_map, List.length_take]
          omega
        · subst hzs
          refine sb_set 2 (ev_add (i := ((c : Nat) : Int)) (ev_v 2) ev_int) (fun d hd => ?_)
          subst hd
          have hf : Fa2 (Clr p r) (L.eraseIdx i) ((L.eraseIdx i).map fun q => combR (rowf r p) (rowf q p) q r) := Fa2.mapR fun q hq' => combR_clr (by rw [(h1 q (List.mem_of_mem_eraseIdx hq')).1, hrr.1])
          obtain ⟨s1, s2⟩ := elim_step (k := n - (p + 1)) hpn h3 hi h0 hf
          refine sb_nil (sb_nil ⟨(L.eraseIdx i).map fun q => combR (rowf r p) (rowf q p) q r, c + 1, _, _, _, rfl, fun q hq' => ?_, ?_, s2, fun _ => ?_⟩)
          · obtain ⟨q0, hq0, rfl⟩ := List.mem_map.mp hq'
            have q1 := h1 q0 (List.mem_of_mem_eraseIdx hq0)
            exact ⟨by rw [combR_len _ _ (by rw [q1.1, hrr.1]), q1.1], combR_bd (hrr.2.at p) (q1.2.at p) q1.2 hrr.2⟩
          · rw [List.length_map]
            exact Nat.le_trans (List.length_eraseIdx_le L i) h2
          · rw [s1] at hcnt
            omega
      · have hns : ns = [] := by
          cases ns with
          | nil => rfl
          | cons i ns' => cases hk
        subst hns
        have h0 : ∀ r ∈ L, rowf r p = 0 := fun r hr' => by
          by_cases e : rowf r p = 0
          · exact e
          · obtain ⟨i, hi⟩ := List.mem_iff_getElem?.mp hr'
            exact absurd (e4 i r hi e) List.not_mem_nil
        refine sb_nil (sb_nil ⟨L, c, _, _, _, rfl, fun q hq' => ⟨(h1 q hq').1, fun x hx => ((h1 q hq').2 x hx).mono ?_⟩, h2, h3.next h0, fun _ => ?_⟩)
        · show bits 24 p ≤ 2 * bits 24 p + 1
          omega
        · rw [cnt_skip hpn h0] at hcnt
          exact hcnt
  · rintro _ ⟨L, c, x, y, z, rfl, h1, h2, h3, h4⟩
    rw [rng_len, Int.toNat_natCast] at h4
    refine sb_ret (ev_v 2) fun z hz => fin z ?_
    rw [hz]
    rcases hm with e | ⟨e1, e2⟩
    · have := h4 (by omega)
      rw [e, Nat.sub_self] at this
      have e0 : cnt (Ker n L) n 0 = 0 := rfl
      rw [e0, Nat.add_zero] at this
      rw [this]
    · have := h4 (by omega)
      subst e2
      rw [rk_nil] at this
      have : c = 0 := by omega
      rw [this, rk_nil]
end
end K64
/-! The law's turned sum, lots, greatest number. -/
namespace K64
open PySem L2
theorem sm_shift (f : Nat → Int) : ∀ n, sm (n + 1) f = f 0 + sm n fun i => f (i + 1)
  | 0 => by show 0 + f 0 = f 0 + 0; omega
  | n + 1 => by
    have ih := sm_shift f n
    show sm (n + 1) f + f (n + 1) = f 0 + (sm n (fun i => f (i + 1)) + f (n + 1))
    rw [ih]; omega
/-- the terms of a place of the turned sum -/
def tl (p q : Nat) : List Int → Own → List Int
  | c :: cs, r :: own => (c * (rowf r.1 p * rowf r.2 q - rowf r.2 p * rowf r.1 q)) :: tl p q cs own
  | _, _ => []
theorem tl_sum (p q : Nat) : ∀ (cs : List Int) (own : Own), cs.length = own.length → (tl p q cs own).sum = trn own (rowf cs) p q
  | [], [], _ => rfl
  | c :: cs, r :: own, h => by
    have ih := tl_sum p q cs own (Nat.succ.inj h)
    show _ + (tl p q cs own).sum = _
    rw [ih]
    unfold trn
    rw [List.length_cons, sm_shift]
    rfl
def tlD (p q : Nat) : Dat → Dat
  | .tup [.int c, .tup [.lst near, .lst far]] => .int (c * ((tbD (near.getD p .non)).1 * (tbD (far.getD q .non)).1 - (tbD (far.getD p .non)).1 * (tbD (near.getD q .non)).1))
  | d => d
theorem getD_row {r : List Int} {j : Nat} (h : j < r.length) : (tbD ((r.map Dat.int).getD j .non)).1 = rowf r j := by
  rw [List.getD_eq_getElem?_getD, rowD_at h]
  rfl
theorem tlD_map {n p q : Nat} (hp : p < n) (hq : q < n) : ∀ (cs : List Int) (own : Own), (∀ r ∈ own, r.1.length = n ∧ r.2.length = n) → (zipD (cs.map Dat.int) (own.map ownQ)).map (tlD p q) = (tl p q cs own).map Dat.int
  | [], own, _ => by cases own <;> rfl
  | _ :: _, [], _ => rfl
  | c :: cs, r :: own, h => by
    have ih := tlD_map hp hq cs own fun r hr => h r (.tail _ hr)
    have h1 := h r (.head _)
    show tlD p q (.tup [.int c, ownQ r]) :: (zipD (cs.map Dat.int) (own.map ownQ)).map (tlD p q) = _
    rw [ih]
    show Dat.int (c * ((tbD ((r.1.map Dat.int).getD p .non)).1 * (tbD ((r.2.map Dat.int).getD q .non)).1 - (tbD ((r.2.map Dat.int).getD p .non)).1 * (tbD ((r.1.map Dat.int).getD q .non)).1)) :: _ = _
    rw [getD_row (by omega), getD_row (by omega), getD_row (by omega), getD_row (by omega)]
    rfl
/-- the turned sum's rows -/
def turnM (n : Nat) (own : Own) (c : Nat → Int) : List (List Int) := (List.range n).map fun p => (List.range n).map fun q => trn own c p q
theorem turn_at {n : Nat} {own : Own} {c : Nat → Int} {p q : Nat} (hp : p < n) (hq : q < n) {r : List Int} (h : (turnM n own c)[p]? = some r) : rowf r q = trn own c p q := by
  unfold turnM at h
  rw [List.getElem?_map, List.getElem?_range hp] at h
  cases h
  exact rowf_of (by rw [List.getElem?_map, List.getElem?_range hq]; rfl)
theorem trn_bd2 {n : Nat} {own : Own} (ok : OwnOk n own) {c : Nat → Int} (hc : ∀ i, i < own.length → (c i).natAbs ≤ 2048) (p q : Nat) : Bd 24 (trn own c p q) := by
  have := sm_bd (B := 2048 * 98) (f := fun i => c i * (rowf (fstR own i) p * rowf (sndR own i) q - rowf (sndR own i) p * rowf (fstR own i) q)) (n := own.length) fun j hj => by
    have := (term_bd ok (c := fun _ => 0) (p := p) (q := q) hj (by decide)).1
    rw [Int.natAbs_mul]
    exact Nat.mul_le_mul (hc j hj) this
  have l5 := ok.l8
  have e : (2 : Nat) ^ 24 = 16777216 := by decide
  show (trn own c p q).natAbs < 2 ^ 24
  rw [e]
  unfold trn
  omega
section
variable {P : Program} {w : World} {K : PySem.W.Frag} {mg : Str → Option Value} {base : Heap} {A : Ad} {N : Addr} (T : Txt K mg A N) {n : Nat} {own : Own} (ok : OwnOk n own)
include T ok
theorem c_law_turned : Cal P w K mg base "_law_turned" 1 (Pu A (Q3 fun d e g => d = ownD own ∧ ∃ cs : List Int, e = .lst (cs.map Dat.int) ∧ g = .int (n : Nat) ∧ cs.length = own.length ∧ ∀ c ∈ cs, c.natAbs ≤ 2048)
    (O3 fun d e g z => ∀ cs : List Int, e = .lst (cs.map Dat.int) → z = matD (turnM n own (rowf cs)))) := by
  refine T.d_law_turned.pu sc__law_turned (by decide) (by rintro _ ⟨_, _, _, rfl, _⟩; rfl) ?_
  rintro f cdv A' outer s H _ hr ⟨_, _, _, rfl, rfl, cs, rfl, rfl, hl, hc⟩
  have nd := sc__law_turned.nd
  have n6 := ok.n8
  have l5 := ok.l8
  have rows : ∀ r ∈ own, r.1.length = n ∧ r.2.length = n := fun r hr => ⟨(ok.ok r hr).1.1, (ok.ok r hr).2.1⟩
  refine (show Sb A _ _ [some (.im (ownD own)), some (.im (.lst (cs.map Dat.int))), some (.im (.int (n : Nat))), none, none, none, none, none, none, none] _ from ?_)
  refine sb_setN 3 (en_lst ea_nil fun ds h => by rw [h]; exact Nat.zero_le _) (fun ds h => ?_)
  subst h
  refine sb_for (ds := rng 0 ((n : Nat) : Int).toNat) (wk_range1 (ev_v 2 rfl) (by omega) (by omega) T.b_range) (fun p Γ' => ∃ x y z : Option Sl, Γ' = [some (.im (ownD own)), some (.im (.lst (cs.map Dat.int))), some (.im (.int (n : Nat))), some (.mu (((List.range p).map fun p => (List.range n).map fun q => trn own (rowf cs) p q).map rowD)), x, y, z, none, none, none]) ⟨none, none, none, rfl⟩ ?_ ?_
  · rintro p d _ hd ⟨x, y, z, rfl⟩
    obtain ⟨hp, rfl⟩ := rng_item hd
    refine ⟨_, _, tg_name 4, ?_⟩
    refine sb_setN 5 (en_lst ea_nil fun ds h => by rw [h]; exact Nat.zero_le _) (fun ds h => ?_)
    subst h
    refine (show Sb A _ _ [some (.im (ownD own)), some (.im (.lst (cs.map Dat.int))), some (.im (.int (n : Nat))), some (.mu (((List.range p).map fun p => (List.range n).map fun q => trn own (rowf cs) p q).map rowD)), some (.im (.int (p : Nat))), some (.mu []), z, none, none, none] _ from ?_)
    refine sb_for (ds := rng 0 ((n : Nat) : Int).toNat) (wk_range1 (ev_v 2 rfl) (by omega) (by omega) T.b_range) (fun q Γ' => ∃ z : Option Sl, Γ' = [some (.im (ownD own)), some (.im (.lst (cs.map Dat.int))), some (.im (.int (n : Nat))), some (.mu (((List.range p).map fun p => (List.range n).map fun q => trn own (rowf cs) p q).map rowD)), some (.im (.int (p : Nat))), some (.mu (((List.range q).map fun q => trn own (rowf cs) p q).map Dat.int)), z, none, none, none]) ⟨z, rfl⟩ ?_ ?_
    · rintro q d _ hd ⟨z, rfl⟩
      obtain ⟨hq, rfl⟩ := rng_item hd
      refine ⟨_, _, tg_name 6, ?_⟩
      refine sb_append 5 (ds := ((List.range q).map fun q => trn own (rowf cs) p q).map Dat.int) (P := fun z => z = .int (trn own (rowf cs) p q)) ((ev_sum (ns := tl p q cs own) T.b_sum (EvN.ev (en_map [("_law_c", 7), ("_law_near", 8), ("_law_far", 9)] (tlD p q) (ds := zipD (cs.map Dat.int) (own.map ownQ)) (wk_zip (ev_v 1) (ev_v 0) T.b_zip) (fun d hd => ?_) ?_ (own3 rfl rfl rfl)) fun ds h => by rw [h, tlD_map hp hq cs own rows])).imp fun z h => by rw [h, tl_sum p q cs own hl]) (fun z h => ?_) (by rw [List.length_map, List.length_map, List.length_range]; omega)
      · obtain ⟨k, hk⟩ := List.mem_iff_getElem?.mp hd
        obtain ⟨u, v, hu, hv, rfl⟩ := zipD_at hk
        rw [List.getElem?_map] at hu hv
        obtain ⟨c, hc', rfl⟩ := Option.map_eq_some_iff.mp hu
        obtain ⟨r, hr', rfl⟩ := Option.map_eq_some_iff.mp hv
        have o := ok.ok r (List.mem_of_getElem? hr')
        have hcb := hc c (List.mem_of_getElem? hc')
        refine ⟨_, [7] ++ ([8] ++ [9]), by decide, fun s H C cl fp => tg_two (tg_name 7) (tg_two (tg_name 8) (tg_name 9)), fun s H C cl fp => ?_⟩
        have ix : ∀ {r : List Int} {j : Nat}, j < r.length → atI (r.map Dat.int) ((j : Nat) : Int) = some (.int (tbD ((r.map Dat.int).getD j .non)).1) := fun {r j} hj => by rw [getD_row hj]; exact atI_n (rowD_at hj)
        have bd : ∀ {r : List Int} {j : Nat}, j < r.length → RBd 3 r → ((tbD ((r.map Dat.int).getD j .non)).1).natAbs < 2 ^ 3 := fun {r j} hj hB => by rw [getD_row hj]; exact hB.at j
        have a1 := bd (r := r.1) (j := p) (by omega) o.1.2
        have a2 := bd (r := r.2) (j := q) (by omega) o.2.2
        have a3 := bd (r := r.2) (j := p) (by omega) o.2.2
        have a4 := bd (r := r.1) (j := q) (by omega) o.1.2
        refine ev_mul 24 24 (i := c) (ev_v 7) (ev_sub (ev_mul 3 3 (ev_atL (ds := r.1.map Dat.int) (ev_v 8) (ev_v (d := .int (p : Nat)) 4) (ix (by omega))) (ev_atL (ds := r.2.map Dat.int) (ev_v 9) (ev_v (d := .int (q : Nat)) 6) (ix (by omega))) a1 a2) (ev_mul 3 3 (ev_atL (ds := r.2.map Dat.int) (ev_v 9) (ev_v (d := .int (p : Nat)) 4) (ix (by omega))) (ev_atL (ds := r.1.map Dat.int) (ev_v 8) (ev_v (d := .int (q : Nat)) 6) (ix (by omega))) a3 a4)) (Nat.lt_of_le_of_lt hcb (by decide)) ?_
        have m1 := Bd.mul (n := 3) (m := 3) a1 a2
        have m2 := Bd.mul (n := 3) (m := 3) a3 a4
        exact (m1.sub m2).mono (by decide)
      · rw [zipD_len, List.length_map, List.length_map]
        omega
      · subst h
        refine sb_nil ⟨some (.im (.int (q : Nat))), ?_⟩
        rw [List.range_succ, List.map_append, List.map_append]
        rfl
    · rintro _ ⟨z, rfl⟩
      rw [rng_len, Int.toNat_natCast]
      refine sb_freeze 5 (ds := ((List.range n).map fun q => trn own (rowf cs) p q).map Dat.int) (k := ?_)
      refine sb_append 3 (ds := ((List.range p).map fun p => (List.range n).map fun q => trn own (rowf cs) p q).map rowD) (P := fun z => z = rowD ((List.range n).map fun q => trn own (rowf cs) p q)) (ev_v 5) (fun z' h => ?_) (by rw [List.length_map, List.length_map, List.length_range]; omega)
      subst h
      refine sb_nil ⟨some (.im (.int (p : Nat))), some (.im (rowD ((List.range n).map fun q => trn own (rowf cs) p q))), z, ?_⟩
      rw [List.range_succ, List.map_append, List.map_append]
      rfl
  · rintro _ ⟨x, y, z, rfl⟩
    rw [rng_len, Int.toNat_natCast]
    refine sb_freeze 3 (ds := ((List.range n).map fun p => (List.range n).map fun q => trn own (rowf cs) p q).map rowD) (k := ?_)
    exact sb_ret (ev_v 3) fun z h => ⟨_, _, _, rfl, fun cs2 e => by
      have : cs = cs2 := rowD_inj e
      subst this
      exact h⟩
theorem c_law_lot_rows : Cal P w K mg base "_law_lot_rows" 1 (Pu A (Q2 fun d e => d = ownD own ∧ ∃ l, e = lotD l ∧ l.length ≤ 100 ∧ ∀ i ∈ l, i < own.length) (O2 fun d e z => ∀ l, e = lotD l → z = matD (rowsOf own l))) := by
  refine T.d_law_lot_rows.pu sc__law_lot_rows (by decide) (by rintro _ ⟨_, _, rfl, _⟩; rfl) ?_
  rintro f cdv A' outer s H _ hr ⟨_, _, rfl, rfl, l, rfl, hl, hlt⟩
  have nd := sc__law_lot_rows.nd
  refine (show Sb A _ _ [some (.im (ownD own)), some (.im (lotD l)), none, none] _ from ?_)
  refine sb_setN 2 (en_lst ea_nil fun ds h => by rw [h]; exact Nat.zero_le _) (fun ds h => ?_)
  subst h
  refine sb_for (ds := l.map fun i : Nat => .int (i : Nat)) (wk_list (ev_v 1)) (fun k Γ' => ∃ x : Option Sl, Γ' = [some (.im (ownD own)), some (.im (lotD l)), some (.mu ((rowsOf own (l.take k)).map rowD)), x]) ⟨none, rfl⟩ ?_ ?_
  · rintro k d _ hd ⟨x, rfl⟩
    rw [List.getElem?_map] at hd
    obtain ⟨i, hi, rfl⟩ := Option.map_eq_some_iff.mp hd
    have hil := hlt i (List.mem_of_getElem? hi)
    have hat : atI (own.map ownQ) ((i : Nat) : Int) = some (ownQ (fstR own i, sndR own i)) := atI_n (by rw [List.getElem?_map, own_at hil]; rfl)
    refine ⟨_, _, tg_name 3, ?_⟩
    refine sb_extL 2 (ds := (rowsOf own (l.take k)).map rowD) (P := fun z => z = .lst [rowD (fstR own i), rowD (sndR own i)]) (PL := fun es => es = [rowD (fstR own i), rowD (sndR own i)]) (EvN.ev (en_lst (ea2 (P1 := fun z => z = rowD (fstR own i)) (P2 := fun z => z = rowD (sndR own i)) (ev_atT (ev_atL (ds := own.map ownQ) (d := ownQ (fstR own i, sndR own i)) (ev_v 0) (ev_v 3) hat) ev_int (atI0 rfl)) (ev_atT (ev_atL (ds := own.map ownQ) (d := ownQ (fstR own i, sndR own i)) (ev_v 0) (ev_v 3) hat) ev_int (atI1 rfl))) (fun ds h => by obtain ⟨d, d', rfl, _⟩ := h; show 2 ≤ sizeLine; decide)) fun ds h => by obtain ⟨d, d', rfl, rfl, rfl⟩ := h; rfl) (fun d h => ⟨_, h, rfl⟩) (fun es h => ?_) (fun es h => ?_)
    · subst h
      refine sb_nil ⟨some (.im (.int (i : Nat))), ?_⟩
      have lk : (l.take (k + 1)) = l.take k ++ [i] := by rw [List.take_add_one, hi]; rfl
      rw [lk, rowsOf_app, List.map_append]
      rfl
    · subst h
      rw [List.length_map, rowsOf_len, List.length_take]
      show 2 * min k l.length + 2 ≤ 100000
      omega
  · rintro _ ⟨x, rfl⟩
    rw [List.length_map, List.take_length]
    refine sb_freeze 2 (ds := (rowsOf own l).map rowD) (k := ?_)
    exact sb_ret (ev_v 2) fun z h => ⟨_, _, rfl, fun l2 e => by
      have := lotD_inj e
      subst this
      exact h⟩
end
end K64
/-! The law's lots, greatest number. -/
namespace K64
open PySem L2
theorem grow_take {m : Nat} {L : List (List Nat)} {k : Nat} {lot : List Nat} (h : L[k]? = some lot) : grow m (L.take (k + 1)) = grow m (L.take k) ++ (tails m lot).map fun p => lot ++ [p] := by
  rw [List.take_add_one, h]
  unfold grow
  rw [List.flatMap_append]
  congr 1
  show (_ ++ []) = _
  rw [List.append_nil]
theorem grow_len {m : Nat} (h5 : m ≤ 5) : ∀ L : List (List Nat), (grow m L).length ≤ 5 * L.length
  | [] => Nat.zero_le _
  | lot :: L => by
    have ih := grow_len h5 L
    have e : grow m (lot :: L) = ((tails m lot).map fun p => lot ++ [p]) ++ grow m L := rfl
    rw [e, List.length_append, List.length_cons, List.length_map]
    have : (tails m lot).length ≤ 5 := by
      unfold tails
      rw [List.length_range']
      omega
    omega
theorem lots_len {m : Nat} (h5 : m ≤ 5) : ∀ k, (lots m k).length ≤ 5 ^ k
  | 0 => Nat.le_refl _
  | k + 1 => by
    have := grow_len h5 (lots m k)
    have ih := lots_len h5 k
    show (grow m (lots m k)).length ≤ _
    rw [Nat.pow_succ]
    omega
def unlot : Dat → List Nat
  | .lst ds => ds.map fun d => (tbD d).1.toNat
  | _ => []
theorem unlot_lot (l : List Nat) : unlot (lotD l) = l := by
  show (l.map _).map _ = l
  rw [List.map_map]
  exact (List.map_congr_left fun i _ => Int.toNat_natCast i).trans (List.map_id l)
def oneMore (lot : List Nat) (d : Dat) : Dat := lotD (lot ++ [(tbD d).1.toNat])
theorem more_map (m : Nat) (lot : List Nat) : (rng ((nxt lot : Nat) : Int) (((m : Nat) : Int) - ((nxt lot : Nat) : Int)).toNat).map (oneMore lot) = ((tails m lot).map fun p => lot ++ [p]).map lotD := by
  unfold rng tails
  have e : (((m : Nat) : Int) - ((nxt lot : Nat) : Int)).toNat = m - nxt lot := by omega
  rw [e, List.range'_eq_map_range, List.map_map, List.map_map, List.map_map]
  refine List.map_congr_left fun i _ => ?_
  show lotD (lot ++ [((nxt lot : Nat) + (i : Nat) : Int).toNat]) = lotD (lot ++ [nxt lot + i])
  have : (((nxt lot : Nat) : Int) + (i : Nat)).toNat = nxt lot + i := by omega
  rw [this]
section
variable {P : Program} {w : World} {K : PySem.W.Frag} {mg : Str → Option Value} {base : Heap} {A : Ad} {N : Addr} (T : Txt K mg A N)
include T
theorem c_law_lots : Cal P w K mg base "_law_lots" 1 (Pu A (Q2 fun d e => ∃ m s : Nat, d = .int m ∧ e = .int s ∧ m ≤ 5 ∧ s ≤ 5) (O2 fun d e z => ∀ m s : Nat, d = .int m → e = .int s → z = lotsD (lots m s))) := by
  refine T.d_law_lots.pu sc__law_lots (by decide) (by rintro _ ⟨_, _, rfl, _⟩; rfl) ?_
  rintro f cdv A' outer s H _ hr ⟨_, _, rfl, m, sz, rfl, rfl, m5, s5⟩
  have nd := sc__law_lots.nd
  have bound : ∀ k, k ≤ 5 → (lots m k).length ≤ 3125 := fun k hk => Nat.le_trans (lots_len m5 k) (Nat.le_trans (Nat.pow_le_pow_right (by decide) hk) (by decide))
  refine (show Sb A _ _ [some (.im (.int (m : Nat))), some (.im (.int (sz : Nat))), none, none, none, none, none] _ from ?_)
  refine sb_set 2 (P := fun z => z = lotsD (lots m 0)) (EvN.ev (en_lst (ea1 (P1 := fun z => z = lotD []) (EvN.ev (en_lst ea_nil fun ds h => by rw [h]; exact Nat.zero_le _) fun ds h => by rw [h]; rfl)) fun ds h => by obtain ⟨d, rfl, _⟩ := h; show 1 ≤ sizeLine; decide) fun ds h => by
    obtain ⟨u, rfl, rfl⟩ := h
    rfl) (fun d h => ?_)
  subst h
  refine sb_for (ds := rng 0 ((sz : Nat) : Int).toNat) (wk_range1 (ev_v 1 rfl) (by omega) (by omega) T.b_range) (fun k Γ' => ∃ x y z : Option Sl, Γ' = [some (.im (.int (m : Nat))), some (.im (.int (sz : Nat))), some (.im (lotsD (lots m k))), x, y, z, none]) ⟨none, none, none, rfl⟩ ?_ ?_
  · rintro k d _ hd ⟨x, y, z, rfl⟩
    obtain ⟨hk, rfl⟩ := rng_item hd
    have hL := bound k (by omega)
    refine ⟨_, _, tg_name 3, ?_⟩
    refine sb_setN 4 (en_lst ea_nil fun ds h => by rw [h]; exact Nat.zero_le _) (fun ds h => ?_)
    subst h
    refine (show Sb A _ _ [some (.im (.int (m : Nat))), some (.im (.int (sz : Nat))), some (.im (lotsD (lots m k))), some (.im (.int (k : Nat))), some (.mu []), z, none] _ from ?_)
    refine sb_for (ds := (lots m k).map lotD) (wk_list (ev_v 2)) (fun j Γ' => ∃ z : Option Sl, Γ' = [some (.im (.int (m : Nat))), some (.im (.int (sz : Nat))), some (.im (lotsD (lots m k))), some (.im (.int (k : Nat))), some (.mu ((grow m ((lots m k).take j)).map lotD)), z, none]) ⟨z, rfl⟩ ?_ ?_
    · rintro j u _ hu ⟨z, rfl⟩
      rw [List.getElem?_map] at hu
      obtain ⟨lot, hi, rfl⟩ := Option.map_eq_some_iff.mp hu
      have lo := lots_ok (List.mem_of_getElem? hi)
      refine ⟨_, _, tg_name 5, ?_⟩
      refine sb_extL 4 (ds := (grow m ((lots m k).take j)).map lotD) (P := fun z => z = .lst (((tails m lot).map fun p => lot ++ [p]).map lotD)) (PL := fun es => es = ((tails m lot).map fun p => lot ++ [p]).map lotD) (EvN.ev (en_map [("_law_place", 6)] (oneMore lot) (ds := rng ((nxt lot : Nat) : Int) (((m : Nat) : Int) - ((nxt lot : Nat) : Int)).toNat) (wk_range2 (ev_if (k := !(lot.map fun i : Nat => Dat.int (i : Nat)).isEmpty) (et_neNil hr (ev_v 5)) (fun hk => ?_) (fun hk => ?_)) (ev_v 0) (by omega) T.b_range) (fun d hd => ?_) ?_ (own1 rfl)) fun ds h => by rw [h, more_map]) (fun d h => ⟨_, h, rfl⟩) (fun es h => ?_) (fun es h => ?_)
      · have hne : lot ≠ [] := fun e => by rw [e] at hk; cases hk
        obtain ⟨l, p, e1, e2⟩ := lot_last hne
        refine (ev_add (i := ((p : Nat) : Int)) (ev_atL (ds := lot.map fun i : Nat => Dat.int (i : Nat)) (i := -1) (ev_v 5) (ev_neg ev_int) ?_) ev_int).imp fun z h => by rw [h, e2]; rfl
        rw [e1, List.map_append]
        exact atI_last _ _
      · have he : lot = [] := by
          cases lot with
          | nil => rfl
          | cons r M => cases hk
        rw [he]
        exact ev_int
      · obtain ⟨q, hq⟩ := List.mem_iff_getElem?.mp hd
        obtain ⟨hq1, rfl⟩ := rng_at hq
        refine ⟨_, [6], by decide, fun s H C cl fp => tg_name 6, fun s H C cl fp => ?_⟩
        refine EvN.ev (en_cat (ds := lot.map fun i : Nat => Dat.int (i : Nat)) (es' := [Dat.int (((nxt lot : Nat) : Int) + ((q : Nat) : Int))]) (ev_v 5) (EvN.ev (en_lst (ea1 (ev_v (d := Dat.int (((nxt lot : Nat) : Int) + ((q : Nat) : Int))) 6)) fun ds h => by obtain ⟨d, rfl, _⟩ := h; show 1 ≤ sizeLine; decide) fun ds h => by obtain ⟨u, rfl, rfl⟩ := h; rfl) ?_) fun ds h => ?_
        · rw [List.length_map, lo.1]
          exact Nat.le_trans (show _ ≤ 100 by show k + 1 ≤ 100; omega) (by decide)
        · rw [h]
          unfold oneMore lotD
          rw [List.map_append]
          have : (((((nxt lot : Nat) : Int) + ((q : Nat) : Int)).toNat : Nat) : Int) = ((nxt lot : Nat) : Int) + ((q : Nat) : Int) := by omega
          show Dat.lst (_ ++ [Dat.int _]) = Dat.lst (_ ++ [Dat.int (((((nxt lot : Nat) : Int) + ((q : Nat) : Int)).toNat : Nat) : Int)])
          rw [this]
      · rw [rng_len]
        omega
      · subst h
        refine sb_nil ⟨some (.im (lotD lot)), ?_⟩
        rw [grow_take hi, List.map_append]
        rfl
      · subst h
        have g1 := grow_len m5 ((lots m k).take j)
        rw [List.length_take] at g1
        have : (tails m lot).length ≤ 5 := by
          unfold tails
          rw [List.length_range']
          omega
        rw [List.length_map, List.length_map, List.length_map]
        omega
    · rintro _ ⟨z, rfl⟩
      rw [List.length_map, List.take_length]
      refine sb_freeze 4 (ds := (grow m (lots m k)).map lotD) (k := ?_)
      refine sb_set 2 (P := fun z => z = lotsD (lots m (k + 1))) (ev_v 4) (fun d h => ?_)
      subst h
      exact sb_nil ⟨_, _, _, rfl⟩
  · rintro _ ⟨x, y, z, rfl⟩
    rw [rng_len, Int.toNat_natCast]
    exact sb_ret (ev_v 2) fun z h => ⟨_, _, rfl, fun m2 s2 e1 e2 => by
      have e1 : m = m2 := by injection e1 with e; exact Int.ofNat_inj.mp e
      have e2 : sz = s2 := by injection e2 with e; exact Int.ofNat_inj.mp e
      subst e1 e2
      exact h⟩
variable {n : Nat} {own : Own} (ok : OwnOk n own)
include ok
theorem c_law_greatest : Cal P w K mg base "_law_greatest" 3 (Pu A (Q1 fun d => d = ownD own) (O1 fun d z => z = .int (gnum n own : Nat))) := by
  refine T.d_law_greatest.pu sc__law_greatest (by decide) (by rintro _ ⟨_, rfl, _⟩; rfl) ?_
  rintro f cdv A' outer s H _ hr ⟨_, rfl, rfl⟩
  have nd := sc__law_greatest.nd
  have l5 := ok.l8
  have n6 := ok.n8
  have gl := gnum_le n own
  refine (show Sb A _ _ [some (.im (ownD own)), none, none, none] _ from ?_)
  have hlen : ∀ z, z = ownD own → lenD z = some own.length := fun z h => by rw [h]; show some (own.map _).length = _; rw [List.length_map]
  refine sb_set 1 ev_int (fun d h => ?_)
  subst h
  refine sb_for (ds := rng 1 ((((own.length : Nat) : Int) + 1) - 1).toNat) (wk_range2 ev_int (ev_add (i := ((own.length : Nat) : Int)) (ev_len (n := own.length) T.b_len (ev_v 0 rfl) hlen) ev_int) (by omega) T.b_range) (fun k Γ' => ∃ x : Option Sl, Γ' = [some (.im (ownD own)), some (.im (.int ((min k (gnum n own) : Nat) : Int))), x, none]) ⟨none, by rw [Nat.zero_min]; rfl⟩ ?_ ?_
  · rintro k d _ hd ⟨x, rfl⟩
    obtain ⟨hk, rfl⟩ := rng_at hd
    have e1 : (1 : Int) + ((k : Nat) : Int) = ((k + 1 : Nat) : Int) := by omega
    rw [e1]
    have hk' : k < own.length := by omega
    refine ⟨_, _, tg_name 2, ?_⟩
    refine (show Sb A _ _ [some (.im (ownD own)), some (.im (.int ((min k (gnum n own) : Nat) : Int))), some (.im (.int ((k + 1 : Nat) : Int))), none] _ from ?_)
    have bound := lots_len l5 (k + 1)
    have b2 : 5 ^ (k + 1) ≤ 5 ^ 5 := Nat.pow_le_pow_right (by decide) (by omega)
    have b3 : (5 : Nat) ^ 5 = 3125 := by decide
    have any_eq : (((lots own.length (k + 1)).map lotD).map fun d => freeB n own (unlot d)).any id = decide (k + 1 ≤ gnum n own) := by
      rw [List.any_map, List.any_map, Bool.eq_iff_iff, List.any_eq_true, decide_eq_true_eq, ← free_some]
      constructor
      · rintro ⟨l, h1, h2⟩
        refine ⟨l, h1, freeB_iff.mp ?_⟩
        have h2' : freeB n own (unlot (lotD l)) = true := h2
        rwa [unlot_lot] at h2'
      · rintro ⟨l, h1, h2⟩
        refine ⟨l, h1, ?_⟩
        show freeB n own (unlot (lotD l)) = true
        rw [unlot_lot]
        exact freeB_iff.mpr h2
    refine sb_if (k := decide (k + 1 ≤ gnum n own)) (et_v ((ev_any (bs := ((lots own.length (k + 1)).map lotD).map fun d => freeB n own (unlot d)) T.b_any (EvN.ev (en_map [("_law_lot", 3)] (fun d => .bl (freeB n own (unlot d))) (ds := (lots own.length (k + 1)).map lotD) (wk_list (ev_c2 (c_law_lots T) hr (d1 := .int (own.length : Nat)) (d2 := .int ((k + 1 : Nat) : Int)) (ev_len (n := own.length) T.b_len (ev_v 0 rfl) hlen) (ev_v 2) ⟨_, _, rfl, rfl, l5, by omega⟩ fun z h => h _ _ rfl rfl)) (fun d hd => ?_) ?_ (own1 rfl)) fun ds h => by rw [h, bls_map])).imp fun z h => by rw [h, any_eq])) (fun hc => ?_) (fun hc => ?_)
    · obtain ⟨l, hl, rfl⟩ := List.mem_map.mp hd
      have lo := lots_ok hl
      have hrow := rowsOf_ok ok lo.2.1
      refine ⟨_, [3], by decide, fun s H C cl fp => tg_name 3, fun s H C cl fp => ?_⟩
      refine (ev_eq (i := ((rk n (Ker n (rowsOf own l)) : Nat) : Int)) (j := 2 * ((k + 1 : Nat) : Int)) (ev_c1 (c_law_rank T) hr (d1 := matD (rowsOf own l)) (ev_c2 (c_law_lot_rows T ok) hr (d1 := ownD own) (d2 := lotD l) (ev_v 0) (ev_v 3) ⟨rfl, l, rfl, by omega, lo.2.1⟩ fun z h => h l rfl) ⟨_, n, rfl, by rw [rowsOf_len]; omega, n6, fun r hr' => ⟨(hrow r hr').1, fun x hx => ((hrow r hr').2 x hx).mono (by decide)⟩⟩ fun z h => h _ n rfl fun r hr' => (hrow r hr').1) (ev_mul 60 60 ev_int (ev_v 2) (by decide) (by omega))).imp fun z h => ?_
      rw [h, unlot_lot]
      congr 1
      unfold freeB Free
      rw [lo.1]
      exact decide_eq_decide.mpr (by omega)
    · rw [List.length_map]
      omega
    · have hc' : k + 1 ≤ gnum n own := of_decide_eq_true hc
      refine sb_set 1 (P := fun z => z = .int ((min (k + 1) (gnum n own) : Nat) : Int)) ((ev_v (d := .int ((k + 1 : Nat) : Int)) 2).imp fun z h => by rw [h, Nat.min_eq_left hc']) (fun z h => ?_)
      subst h
      exact sb_nil (sb_nil ⟨_, rfl⟩)
    · have hc' : ¬ k + 1 ≤ gnum n own := of_decide_eq_false hc
      refine sb_nil (sb_nil ⟨some (.im (.int ((k + 1 : Nat) : Int))), ?_⟩)
      have e : min k (gnum n own) = min (k + 1) (gnum n own) := by omega
      rw [e]
  · rintro _ ⟨x, rfl⟩
    have e : (rng 1 ((((own.length : Nat) : Int) + 1) - 1).toNat).length = own.length := by rw [rng_len]; omega
    rw [e, Nat.min_eq_right gl]
    exact sb_ret (ev_v 1) fun z h => ⟨_, rfl, h⟩
end
end K64
/-! The law's own test. -/
namespace K64
open PySem L2
theorem mkRat_int {c B : Int} (h : 0 < B) : mkRat (c * B) B = .rat c 1 := by
  have e : gcdI (c * B) B = B := by
    unfold gcdI
    have : Nat.gcd (c * B).natAbs B.natAbs = B.natAbs := by
      rw [Int.natAbs_mul]
      exact Nat.gcd_eq_right (Nat.dvd_mul_left _ _)
    rw [this]
    omega
  unfold mkRat
  rw [e, Int.mul_ediv_cancel _ (Int.ne_of_gt h), Int.ediv_self (Int.ne_of_gt h)]
theorem NQ.num {d : Dat} (h : NQ d) : NumB 4000 d := by
  obtain ⟨h1, h2, h3, h4⟩ := h
  have e := wD_eq h3
  exact ⟨h1, h2, Nat.lt_of_le_of_lt (RW.le h2 h3 e) (Nat.lt_of_le_of_lt h4 (Nat.lt_of_lt_of_le (show 8 < 2 ^ 4 by decide) (Nat.pow_le_pow_right (by decide) (by decide)))), bd_small 4000 (Int.le_of_lt h2) (dvd4 h2 h3) (by decide)⟩
/-- the law's whole numbers -/
def CsOk (es : List Dat) (cs : List Int) : Prop := ∃ Bt : Int, 0 < Bt ∧ Bt ≤ 1024 ∧ cs = es.map (fun e => wD e * Bt / 4) ∧ ∀ e ∈ es, (4 : Int) ∣ wD e * Bt
theorem CsOk.eq {es : List Dat} {cs : List Int} (h : CsOk es cs) : ∃ Bt : Int, 0 < Bt ∧ ∀ i, 4 * rowf cs i = Bt * wL es i := by
  obtain ⟨Bt, h1, h2, rfl, h3⟩ := h
  refine ⟨Bt, h1, fun i => ?_⟩
  by_cases hi : i < es.length
  · have hx := List.getElem?_eq_getElem hi
    rw [rowf_of (x := wD (es[i]'hi) * Bt / 4) (by rw [List.getElem?_map, hx]; rfl), wL_at hx, Int.mul_ediv_cancel' (h3 _ (List.getElem_mem hi)), Int.mul_comm]
  · rw [rowf_off (by rw [List.length_map]; omega)]
    unfold wL
    rw [List.getD_eq_getElem?_getD, List.getElem?_eq_none (by omega)]
    have : wD ((none : Option Dat).getD .non) = 0 := rfl
    rw [this]
    omega
theorem turn_rk {n : Nat} {own : Own} {es : List Dat} {cs : List Int} (h : CsOk es cs) : rk n (Ker n (turnM n own (rowf cs))) = rkT n own (wL es) := by
  obtain ⟨Bt, h1, h2⟩ := h.eq
  have hl : (turnM n own (rowf cs)).length = n := by unfold turnM; rw [List.length_map, List.length_range]
  refine rkT_of hl fun p r hr => ⟨4, Bt, by decide, by omega, fun q hq => ?_⟩
  have hp : p < n := by rw [← hl]; exact (List.getElem?_eq_some_iff.mp hr).1
  rw [turn_at hp hq hr]
  unfold trn
  rw [← sm_mul, ← sm_mul]
  refine sm_congr fun i _ => ?_
  rw [← Int.mul_assoc, h2, Int.mul_assoc]
section
variable {A : Ad} {X : Cx} {Γ : Sls} {pos p : Pos} {a b : Expr} {j : Nat} {N : Addr} (T : Txt X.K X.mg A N)
theorem ev_propP {f : Str} {k : Nat} {P0 P : Dat → Prop} {Pre : List Dat → Prop} {Post : List Dat → Dat → Prop} (G : CalG X.prog X.w X.K X.mg X.base A.R f k (Pu A Pre Post)) (hr : Room j X.A) (c : Cls X.K A.R) (ha : Ev A X a Γ P0) (h : ∀ d, P0 d → (∃ t b, d = .rat t b) ∧ Pre [d] ∧ ∀ z, Post [d] z → P z) (hk : k + 1 ≤ j := by decide)
    (hb : attributeBase a f X.env (eval a X.env) = eval a X.env := by rfl) : Ev A X (.Attribute a f pos) Γ P := by
  obtain ⟨q, g, fd, ps, hp, hbd, F⟩ := G.ex
  refine ev_k (pe_prop pe_w c hp F (hr.mono hk) hbd .nil pass0 hb) fun F σ B H R Q q => ha F σ B H R _ fun v B1 H1 d pd s R1 iv => ?_
  obtain ⟨⟨t, b, rfl⟩, h2, h3⟩ := h d pd
  obtain ⟨p, dx, fs, rfl, hp⟩ := is_rat iv
  exact ⟨p, dx, fs, rfl, R1.sub _ _ hp, B1, [.rat t b], R1.sub, ⟨_, [], rfl, iv, rfl⟩, h2, fun d v B' H' pd' s' iv' => q v B' H' d (h3 d pd') (s.trans (s'.weak R1.mB)) (R1.step s') iv'⟩
include T
theorem ev_isLTk {d : Dat} {pn pt pu ptt : Pos} {kk} (hd : Kl d) (ha : Ev A X a Γ (fun z => z = d)) (hg : Gl X "isinstance" := by rfl) (hgT : Gl X "list" := by rfl) (hgU : Gl X "tuple" := by rfl)
    (h1 : starEach [a, .Tuple [.Name "list" pt, .Name "tuple" pu] kk ptt] X.env = (false, eval a X.env) :: starEach [.Tuple [.Name "list" pt, .Name "tuple" pu] kk ptt] X.env := by rfl) (h2 : starEach [.Tuple [.Name "list" pt, .Name "tuple" pu] kk ptt] X.env = (false, eval (.Tuple [.Name "list" pt, .Name "tuple" pu] kk ptt) X.env) :: starEach [] X.env := by rfl)
    (h3 : starEach [.Name "list" pt, .Name "tuple" pu] X.env = (false, eval (.Name "list" pt) X.env) :: starEach [.Name "tuple" pu] X.env := by rfl) (h4 : starEach [.Name "tuple" pu] X.env = (false, eval (.Name "tuple" pu) X.env) :: starEach [] X.env := by rfl)
    (hpl : (backTo pos (starEach [.Tuple [.Name "list" pt, .Name "tuple" pu] kk ptt] X.env)).any (·.1) = false := by rfl) :
    Ev A X (.Call (.Name "isinstance" pn) [a, .Tuple [.Name "list" pt, .Name "tuple" pu] kk ptt] [] pos) Γ (fun z => z = .bl (isListB d)) := by
  cases d with
  | non => exact ev_isLT .non false T.tR T.tP T.b_isinstance ha T.b_list T.b_tuple (kit_lt (k := false) (l := false) (by decide +kernel) (by decide +kernel)) hg hgT hgU h1 h2 h3 h4 hpl
  | int i => exact ev_isLT (.int i) false T.tR T.tP T.b_isinstance ha T.b_list T.b_tuple (kit_lt (k := false) (l := false) (by decide +kernel) (by decide +kernel)) hg hgT hgU h1 h2 h3 h4 hpl
  | str i => exact ev_isLT (.str i) false T.tR T.tP T.b_isinstance ha T.b_list T.b_tuple (kit_lt (k := false) (l := false) (by decide +kernel) (by decide +kernel)) hg hgT hgU h1 h2 h3 h4 hpl
  | dic => exact ev_isLT .dic false T.tR T.tP T.b_isinstance ha T.b_list T.b_tuple (kit_lt (k := false) (l := false) (by decide +kernel) (by decide +kernel)) hg hgT hgU h1 h2 h3 h4 hpl
  | lst i => exact ev_isLT (.lst i) true T.tR T.tP T.b_isinstance ha T.b_list T.b_tuple (kit_lt (k := true) (l := false) (by decide +kernel) (by decide +kernel)) hg hgT hgU h1 h2 h3 h4 hpl
  | tup i => exact ev_isLT (.tup i) true T.tR T.tP T.b_isinstance ha T.b_list T.b_tuple (kit_lt (k := false) (l := true) (by decide +kernel) (by decide +kernel)) hg hgT hgU h1 h2 h3 h4 hpl
  | _ => exact hd.elim
end
section
variable {P : Program} {w : World} {K : PySem.W.Frag} {mg : Str → Option Value} {base : Heap} {A : Ad} {N : Addr} (T : Txt K mg A N)
include T
theorem c_law_is_number : Cal P w K mg base "_law_is_number" 1 (Pu A (Q1 Kd) (O1 fun d z => z = .bl (isNumB d))) := by
  refine T.d_law_is_number.pu sc__law_is_number (by decide) (by rintro _ ⟨d, rfl, _⟩; rfl) ?_
  rintro f cdv A' outer s H _ hr ⟨d, rfl, hd⟩
  refine (show Sb A _ _ [some (.im d)] _ from ?_)
  refine sb_ret (P := fun z => z = .bl (isNumB d)) ?_ (fun z h => ⟨d, rfl, h⟩)
  cases d with
  | int i => exact ev_or2 (k := false) (l := true) (ev_isC (d := .int i) T.tR T.tP T.b_isinstance (ev_v 0) T.gR T.kit.IR) (fun _ => ev_and2 (k := true) (l := true) (ev_isInt (.int i) true T.tR T.tP T.b_isinstance (ev_v 0) T.b_int (kit_ty (by decide +kernel))) (fun _ => ev_not (k := false) (ev_isBool (.int i) false T.tR T.tP T.b_isinstance (ev_v 0) T.b_bool (kit_ty (by decide +kernel)))))
  | bl b => exact ev_or2 (k := false) (l := false) (ev_isC (d := .bl b) T.tR T.tP T.b_isinstance (ev_v 0) T.gR T.kit.BR) (fun _ => ev_and2 (k := true) (l := false) (ev_isInt (.bl b) true T.tR T.tP T.b_isinstance (ev_v 0) T.b_int (kit_ty (by decide +kernel))) (fun _ => ev_not (k := true) (ev_isBool (.bl b) true T.tR T.tP T.b_isinstance (ev_v 0) T.b_bool (kit_ty (by decide +kernel)))))
  | str b => exact ev_or2 (k := false) (l := false) (ev_isC (d := .str b) T.tR T.tP T.b_isinstance (ev_v 0) T.gR T.kit.SR) (fun _ => ev_and2 (k := false) (l := false) (ev_isInt (.str b) false T.tR T.tP T.b_isinstance (ev_v 0) T.b_int (kit_ty (by decide +kernel))) (fun h => nomatch h))
  | rat t b => exact ev_or2 (k := true) (l := true) (ev_isC (d := .rat t b) T.tR T.tP T.b_isinstance (ev_v 0) T.gR (kitRR T)) (fun h => nomatch h)
  | _ => exact hd.elim
theorem c_law_ints : Cal P w K mg base "_law_ints" 5 (Pu A (Q1 fun d => ∃ es, itemsD d = some es ∧ es.length ≤ 5 ∧ ∀ e ∈ es, NQ e) (O1 fun d z => ∃ es cs, itemsD d = some es ∧ z = .lst (cs.map Dat.int) ∧ CsOk es cs)) := by
  refine T.d_law_ints.pu sc__law_ints (by decide) (by rintro _ ⟨_, rfl, _⟩; rfl) ?_
  rintro f cdv A' outer s H _ hr ⟨d, rfl, es, he, hl, hq⟩
  have nd := sc__law_ints.nd
  refine (show Sb A _ _ [some (.im d), none, none] _ from ?_)
  refine sb_set 1 ev_int (fun d h => ?_)
  subst h
  refine sb_for (ds := es) (wk_seq (ev_v 0 rfl) he) (fun k Γ' => ∃ (Bt : Int) (x : Option Sl), Γ' = [some (.im d), some (.im (.int Bt)), x] ∧ 0 < Bt ∧ Bt ≤ 4 ^ k ∧ ∀ e ∈ es.take k, (4 : Int) ∣ wD e * Bt) ⟨1, none, rfl, by decide, by decide, by simp⟩ ?_ ?_
  · rintro k e _ hd ⟨Bt, x, rfl, h1, h2, h3⟩
    have hk : k < es.length := (List.getElem?_eq_some_iff.mp hd).1
    have hn := hq e (List.mem_of_getElem? hd)
    have hB : Bt ≤ 1024 := by
      have : (4 : Int) ^ k ≤ 4 ^ 5 := by
        have : k ≤ 5 := by omega
        have e1 : (4 : Nat) ^ k ≤ 4 ^ 5 := Nat.pow_le_pow_right (by decide) this
        have := Int.ofNat_le.mpr e1
        rwa [Int.natCast_pow, Int.natCast_pow] at this
      have e2 : (4 : Int) ^ 5 = 1024 := by decide
      omega
    refine ⟨_, _, tg_name 2, ?_⟩
    refine sb_set 1 (P := PI' fun i => ∃ b : Int, i = Bt * b ∧ 0 < b ∧ b ∣ 4 ∧ (4 : Int) ∣ wD e * b) (ei_mul (p := fun i => i = Bt) (q := fun b => 0 < b ∧ b ∣ 4 ∧ (4 : Int) ∣ wD e * b) 60 60 (ei_of (ev_v 1) rfl) (ev_propP (P0 := RW (wD e)) (g_bottom T) hr T.fR.cl (ev_ownR (op := .Add) (P1 := fun z => z = .rat 0 1) (P2 := fun z => z = e) (m_add T) hr T.oAdd (ev_R1 T hr ev_int) (ev_v 2) ?_) ?_) ?_) (fun z hz => ?_)
    · intro d1 d2 e1 e2
      subst e1 e2
      refine ⟨⟨_, _, rfl⟩, hn.1, ⟨_, _, rfl, ⟨_, _, rfl⟩, ⟨trivial, Int.one_pos, bd_small 4000 (Int.le_refl 0) (by decide) (by decide), one4000⟩, hn.num⟩, fun d ⟨_, _, q1, q2⟩ => ?_⟩
      cases q1
      rw [q2]
      refine mkRat_rw (by show 0 < 1 * _; rw [Int.one_mul]; exact hn.2.1) ?_
      show 4 * (0 * _ + _ * 1) = _ * (1 * _)
      rw [Int.zero_mul, Int.zero_add, Int.mul_one, Int.one_mul]
      exact wD_eq hn.2.2.1
    · rintro d' ⟨t, b, rfl, b0, b4, hb⟩
      exact ⟨⟨t, b, rfl⟩, ⟨_, rfl, t, b, rfl⟩, fun z ⟨_, q1, q2⟩ => by cases q1; exact ⟨b, q2, b0, b4, ⟨t, by rw [hb]⟩⟩⟩
    · rintro i b rfl ⟨b0, b4, hb⟩
      have := dvd4 b0 b4
      exact ⟨by omega, by omega, b, rfl, b0, b4, hb⟩
    · obtain ⟨i, rfl, b, rfl, b0, b4, hb⟩ := hz
      have b4' := dvd4 b0 b4
      refine sb_nil ⟨Bt * b, some (.im e), rfl, Int.mul_pos h1 b0, ?_, fun u hu => ?_⟩
      · rw [Int.pow_succ]
        exact Int.mul_le_mul h2 b4' (Int.le_of_lt b0) (Int.le_trans (Int.le_of_lt h1) h2)
      · rw [List.take_add_one, hd] at hu
        rcases List.mem_append.mp hu with hu | hu
        · rw [← Int.mul_assoc]
          exact Int.dvd_mul_of_dvd_left (h3 u hu)
        · rw [(by simpa using hu : u = e), Int.mul_comm Bt, ← Int.mul_assoc]
          exact Int.dvd_mul_of_dvd_left hb
  · rintro _ ⟨Bt, x, rfl, h1, h2, h3⟩
    rw [List.take_length] at h3
    have hB : Bt ≤ 1024 := by
      have : (4 : Int) ^ es.length ≤ 4 ^ 5 := by
        have e1 : (4 : Nat) ^ es.length ≤ 4 ^ 5 := Nat.pow_le_pow_right (by decide) hl
        have := Int.ofNat_le.mpr e1
        rwa [Int.natCast_pow, Int.natCast_pow] at this
      have e2 : (4 : Int) ^ 5 = 1024 := by decide
      omega
    have bB : Bd 4000 Bt := Nat.lt_of_le_of_lt (show Bt.natAbs ≤ 1024 by omega) (Nat.lt_of_lt_of_le (show 1024 < 2 ^ 11 by decide) (Nat.pow_le_pow_right (by decide) (by decide)))
    refine sb_drop 2 ?_
    refine sb_ret (P := fun z => z = .lst ((es.map fun e => wD e * Bt / 4).map Dat.int)) (EvN.ev (en_map [("_law_number_here", 2)] (fun e => .int (wD e * Bt / 4)) (ds := es) (wk_seq (ev_v 0 rfl) he) (fun e hx => ?_) (by omega) (own1 rfl)) fun ds h => by rw [h, List.map_map]; rfl) fun z h => ⟨_, rfl, es, _, he, h, Bt, h1, hB, rfl, h3⟩
    have hn := hq e hx
    have hn' := hn
    obtain ⟨c, hc⟩ := h3 e hx
    have hdiv : wD e * Bt / 4 = c := by rw [hc]; exact Int.mul_ediv_cancel_left c (by decide)
    refine ⟨_, [2], by decide, fun s H C cl fp => tg_name 2, fun s H C cl fp => ?_⟩
    rw [hdiv]
    have zero : NumB 4000 (.rat 0 1) := ⟨trivial, Int.one_pos, bd_small 4000 (Int.le_refl 0) (by decide) (by decide), one4000⟩
    have top : ∀ z, (O1 fun d z => z = Dat.int (tbD d).1) [Dat.rat c 1] z → z = .int c := fun z ⟨_, q1, q2⟩ => by cases q1; exact q2
    cases e with
    | int i =>
      have ec : i * Bt = c := by
        have e1 : wD (.int i) = 4 * i := rfl
        rw [e1, Int.mul_assoc] at hc
        omega
      have ib : i.natAbs < 2 ^ 60 := by
        have e1 : wD (.int i) = 4 * i := rfl
        have := hn.2.2.2
        rw [e1] at this
        omega
      have cb : Bd 4000 c := by
        rw [← ec]
        exact (Bd.mul (n := 60) (m := 60) ib (show Bt.natAbs < 2 ^ 60 by omega)).mono (by decide)
      refine ev_propP (P0 := fun z => z = .rat c 1) (g_top T) hr T.fR.cl (ev_ownR (op := .Add) (P1 := fun z => z = .rat 0 1) (P2 := fun z => z = .int c) (m_add T) hr T.oAdd (ev_R1 T hr ev_int) ((ev_mul 60 60 (i := i) (j := Bt) (ev_v 2) (ev_v 1) ib (by omega)).imp fun z h => by rw [h, ec]) ?_) (fun d hd => ?_)
      · intro d1 d2 e1 e2
        subst e1 e2
        refine ⟨⟨_, _, rfl⟩, trivial, ⟨_, _, rfl, ⟨_, _, rfl⟩, zero, trivial, Int.one_pos, cb, one4000⟩, fun d ⟨_, _, q1, q2⟩ => ?_⟩
        cases q1
        rw [q2]
        show mkRat (0 * 1 + c * 1) (1 * 1) = _
        rw [show ((0 : Int) * 1 + c * 1) = c by omega, Int.mul_one]
        exact mkRat_one c
      · subst hd
        exact ⟨⟨_, _, rfl⟩, ⟨_, rfl, _, _, rfl⟩, top⟩
    | rat t b =>
      have hw : 4 * t = wD (.rat t b) * b := wD_eq (d := .rat t b) hn.2.2.1
      have b0 : 0 < b := hn.2.1
      have b4 : b ∣ 4 := hn.2.2.1
      have hR : RW (4 * c) (mkRat (t * Bt) (b * 1)) := mkRat_rw (by omega) (by
        rw [← hc, Int.mul_one, ← Int.mul_assoc, hw, Int.mul_assoc, Int.mul_assoc, Int.mul_comm Bt])
      have c8 : c.natAbs ≤ 2048 := by
        have e1 := congrArg Int.natAbs hc
        rw [Int.natAbs_mul, Int.natAbs_mul] at e1
        have : (wD (.rat t b)).natAbs * Bt.natAbs ≤ 8 * 1024 := Nat.mul_le_mul hn.2.2.2 (by omega)
        have e4 : Int.natAbs 4 = 4 := rfl
        rw [e4] at e1
        omega
      have big : ∀ {x : Int}, x.natAbs ≤ 8192 → Bd 4000 x := fun {x} h => Nat.lt_of_le_of_lt h (Nat.lt_of_lt_of_le (show 8192 < 2 ^ 14 by decide) (Nat.pow_le_pow_right (by decide) (by decide)))
      have hRn := hR.num (big (by rw [Int.natAbs_mul]; show 4 * c.natAbs ≤ 8192; omega))
      refine ev_propP (P0 := fun z => z = .rat c 1) (g_top T) hr T.fR.cl (ev_ownR (op := .Add) (P1 := fun z => z = .rat 0 1) (P2 := fun z => z = mkRat (t * Bt) (b * 1)) (m_add T) hr T.oAdd (ev_R1 T hr ev_int) (ev_ownR (op := .Mult) (P1 := fun z => z = .rat t b) (P2 := fun z => z = .int Bt) (m_mul T) hr T.oMul (ev_v 2) (ev_v 1) ?_) ?_) (fun d hd => ?_)
      · intro d1 d2 e1 e2
        subst e1 e2
        refine ⟨⟨_, _, rfl⟩, trivial, ⟨_, _, rfl, ⟨_, _, rfl⟩, hn'.num, trivial, Int.one_pos, bB, one4000⟩, fun d ⟨_, _, q1, q2⟩ => ?_⟩
        cases q1
        exact q2
      · intro d1 d2 e1 e2
        obtain ⟨xt, xb, ex, x0, x4, hx⟩ := hR
        rw [ex] at e2 hRn
        subst e1 e2
        refine ⟨⟨_, _, rfl⟩, trivial, ⟨_, _, rfl, ⟨_, _, rfl⟩, zero, hRn⟩, fun d ⟨_, _, q1, q2⟩ => ?_⟩
        cases q1
        rw [q2]
        show mkRat (0 * xb + xt * 1) (1 * xb) = _
        have : xt = c * xb := by
          rw [Int.mul_assoc] at hx
          omega
        rw [Int.zero_mul, Int.zero_add, Int.mul_one, Int.one_mul, this]
        exact mkRat_int x0
      · subst hd
        exact ⟨⟨_, _, rfl⟩, ⟨_, rfl, _, _, rfl⟩, top⟩
    | _ => exact hn.1.elim
variable {n : Nat} {own : Own} (ok : OwnOk n own)
include ok
theorem c_law_is_trial : Cal P w K mg base "_law_is_trial" 6 (Pu A (Q4 fun d e g v => d = ownD own ∧ e = .int (n : Nat) ∧ g = .int (gnum n own : Nat) ∧ ValOk v) (O4 fun d e g v z => z = .bl (dueB n own v))) := by
  refine T.d_law_is_trial.pu sc__law_is_trial (by decide) (by rintro _ ⟨_, _, _, _, rfl, _⟩; rfl) ?_
  rintro f cdv A' outer s H _ hr ⟨_, _, _, v, rfl, rfl, rfl, rfl, hk, hks⟩
  have nd := sc__law_is_trial.nd
  have l5 := ok.l8
  have n6 := ok.n8
  have g5 : gnum n own ≤ 5 := Nat.le_trans (gnum_le n own) l5
  refine (show Sb A _ _ [some (.im (ownD own)), some (.im (.int (n : Nat))), some (.im (.int (gnum n own : Nat))), some (.im v), none] _ from ?_)
  have fin : ∀ z : Dat, z = .bl (dueB n own v) → (O4 fun d e g v z => z = Dat.bl (dueB n own v)) [ownD own, .int (n : Nat), .int (gnum n own : Nat), v] z := fun z h => ⟨_, _, _, _, rfl, h⟩
  by_cases hl : isListB v = true
  · obtain ⟨es, he⟩ := list_items hl
    obtain ⟨h1, h2⟩ := hks es he
    have hA : areB v own.length = (decide (es.length = own.length) && es.all isNumB) := by unfold areB; rw [he]
    refine sb_if (k := false || ((!decide (es.length = own.length)) || (!es.all isNumB))) (EvW.t (ew_or (k := false) (et_not (k := true) (et_v ((ev_isLTk T hk (ev_v 3 rfl)).imp fun z h => by rw [h, hl]))) fun _ => ew_or ((et_ne (i := (es.length : Nat)) (j := (own.length : Nat)) (ev_len (n := es.length) T.b_len (ev_v 3 rfl) fun z h => by rw [h]; exact items_len he) (ev_len (n := own.length) T.b_len (ev_v 0 rfl) fun z h => by rw [h]; show some (own.map _).length = _; rw [List.length_map])).imp fun z h => by rw [h, cast_eq]) fun _ => ew_or1 (et_not (et_v ?_)))) (fun hc => ?_) (fun hc => sb_nil ?_)
    · rw [← all_map]
      refine ev_all T.b_all (EvN.ev (en_map [("_law_number_here", 4)] (fun d => .bl (isNumB d)) (wk_seq (ev_v 3 rfl) he) (fun x hx => ?_) h1 (own1 rfl)) fun ds h => by rw [h, bls_map])
      exact ⟨_, [4], by decide, fun s H C cl fp => tg_name 4, fun s H C cl fp => ev_c1 (c_law_is_number T) hr (ev_v 4 rfl) (h2 x hx).1 fun z h => h⟩
    · refine sb_ret ev_bl fun z h => fin z ?_
      have : areB v own.length = false := by
        rw [hA]
        revert hc
        cases decide (es.length = own.length) <;> cases es.all isNumB <;> intro hc <;> first | rfl | cases hc
      rw [h, dueB_not this]
    · have hA' : areB v own.length = true := by
        rw [hA]
        revert hc
        cases decide (es.length = own.length) <;> cases es.all isNumB <;> intro hc <;> first | rfl | cases hc
      have hle : es.length = own.length := by
        obtain ⟨es', q1, q2, q3⟩ := areB_iff hA'
        rw [he] at q1
        cases q1
        exact q2
      have hnum : ∀ e ∈ es, NQ e := fun e h' => by
        obtain ⟨es', q1, q2, q3⟩ := areB_iff hA'
        rw [he] at q1
        cases q1
        exact (h2 e h').2 (q3 e h')
      refine sb_ret (P := fun z => z = .bl (dueB n own v)) ((ev_eq (i := ((rkT n own (wL es) : Nat) : Int)) (j := 2 * ((gnum n own : Nat) : Int)) (ev_c1P (P0 := fun z => ∃ cs, CsOk es cs ∧ z = matD (turnM n own (rowf cs))) (c_law_rank T) hr (ev_call (c_law_turned T ok) hr (ea3 (P2 := fun z => ∃ cs, CsOk es cs ∧ z = .lst (cs.map Dat.int)) (ev_v (d := ownD own) 0) (ev_c1 (c_law_ints T) hr (ev_v 3 rfl) ⟨es, he, by omega, hnum⟩ fun z ⟨es', cs, q1, q2, q3⟩ => ?_) (ev_v (d := .int (n : Nat)) 1)) fun ds hds => ?_) fun d hd => ?_) (ev_mul 60 60 ev_int (ev_v 2) (by decide) (by rw [Int.natAbs_natCast]; exact Nat.lt_of_le_of_lt g5 (by decide)))).imp fun z h => ?_) fun z h => fin z h
      · rw [he] at q1
        cases q1
        exact ⟨cs, q3, q2⟩
      · obtain ⟨_, _, _, rfl, rfl, ⟨cs, hcs, rfl⟩, rfl⟩ := hds
        refine ⟨⟨_, _, _, rfl, rfl, cs, rfl, rfl, ?_, fun c hc' => ?_⟩, fun z ⟨_, _, _, e1, e2⟩ => ?_⟩
        · obtain ⟨Bt, _, _, rfl, _⟩ := hcs
          rw [List.length_map, hle]
        · obtain ⟨Bt, b0, b1, rfl, b3⟩ := hcs
          obtain ⟨e, hem, rfl⟩ := List.mem_map.mp hc'
          have w8 := (hnum e hem).2.2.2
          obtain ⟨c, hc⟩ := b3 e hem
          rw [hc, Int.mul_ediv_cancel_left c (by decide)]
          have e1 := congrArg Int.natAbs hc
          rw [Int.natAbs_mul, Int.natAbs_mul] at e1
          have : (wD e).natAbs * Bt.natAbs ≤ 8 * 1024 := Nat.mul_le_mul w8 (by omega)
          have e4 : Int.natAbs 4 = 4 := rfl
          rw [e4] at e1
          omega
        · cases e1
          exact ⟨cs, hcs, e2 cs rfl⟩
      · obtain ⟨cs, hcs, rfl⟩ := hd
        have hcb : ∀ i, i < own.length → (rowf cs i).natAbs ≤ 2048 := fun i hi => by
          obtain ⟨Bt, b0, b1, rfl, b3⟩ := hcs
          have hi' : i < es.length := by omega
          have hx := List.getElem?_eq_getElem hi'
          rw [rowf_of (x := wD (es[i]'hi') * Bt / 4) (by rw [List.getElem?_map, hx]; rfl)]
          obtain ⟨c, hc⟩ := b3 _ (List.getElem_mem hi')
          have w8 := (hnum _ (List.getElem_mem hi')).2.2.2
          rw [hc, Int.mul_ediv_cancel_left c (by decide)]
          have e1 := congrArg Int.natAbs hc
          rw [Int.natAbs_mul, Int.natAbs_mul] at e1
          have : (wD (es[i]'hi')).natAbs * Bt.natAbs ≤ 8 * 1024 := Nat.mul_le_mul w8 (by omega)
          have e4 : Int.natAbs 4 = 4 := rfl
          rw [e4] at e1
          omega
        have rows : ∀ r ∈ turnM n own (rowf cs), r.length = n ∧ RBd 24 r := fun r hr' => by
          obtain ⟨p, hp, rfl⟩ := List.mem_map.mp hr'
          refine ⟨by rw [List.length_map, List.length_range], fun x hx => ?_⟩
          obtain ⟨q, hq, rfl⟩ := List.mem_map.mp hx
          exact trn_bd2 ok hcb p q
        exact ⟨⟨_, n, rfl, by unfold turnM; rw [List.length_map, List.length_range]; omega, n6, rows⟩, fun z hz => by rw [hz _ n rfl fun r hr' => (rows r hr').1, turn_rk hcs]⟩
      · rw [h, dueB_is hA' he]
        congr 1
        exact decide_eq_decide.mpr (by omega)
  · have hl' : isListB v = false := Bool.eq_false_iff.mpr hl
    refine sb_if (k := true) (EvW.t (ew_or (k := true) (l := false) (et_not (k := false) (et_v ((ev_isLTk T hk (ev_v 3 rfl)).imp fun z h => by rw [h, hl']))) fun h => nomatch h)) (fun _ => ?_) (fun h => nomatch h)
    exact sb_ret ev_bl fun z h => fin z (by rw [h, dueB_not (areB_not hl')])
end
end K64
/-! repr of lists and tuples that hold ratios. -/
namespace K64
open PySem L2
/-! ### the texts -/
def atomS : Dat → Str
  | .non => "None"
  | .int i => toString i
  | .bl b => if b = true then "True" else "False"
  | .str s => reprText s
  | .rat t b => ratS t b
  | _ => ""
def AtomOk : Dat → Prop
  | .int i => i.natAbs < 10 ^ 60
  | .bl _ => True
  | .str s => (reprText s).length ≤ 4000
  | .rat t b => t.natAbs < 10 ^ 60 ∧ b.natAbs < 10 ^ 60
  | _ => False
theorem log60 {i : Int} (h : i.natAbs < 10 ^ 60) : i.natAbs.log2 < 1920 := by
  have : i.natAbs < 2 ^ 200 := Nat.lt_of_lt_of_le h (by decide)
  exact Nat.lt_of_le_of_lt (PySem.W.mg_log (k := 199) this) (by decide)
theorem atomS_len {d : Dat} (h : AtomOk d) : (atomS d).length ≤ 4000 := by
  cases d with
  | int i => exact Nat.le_trans (PyProof.Rows.int_text_len_1921 (log60 h)) (by decide)
  | bl b => cases b <;> decide
  | str s => exact h
  | rat t b => exact ratS_len h.1 h.2
  | _ => exact h.elim
def reprS : Dat → Str
  | .dic => dictText []
  | .lst ds => listText (ds.map atomS)
  | .tup ds => tupleText (ds.map atomS)
  | d => atomS d
def RepOk : Dat → Prop
  | .non => True
  | .int i => i.natAbs < 10 ^ 60
  | .str s => (reprText s).length ≤ 4000
  | .dic => True
  | .lst ds => ds.length ≤ 100 ∧ ∀ d ∈ ds, AtomOk d
  | .tup ds => ds.length ≤ 100 ∧ ∀ d ∈ ds, AtomOk d
  | _ => False
theorem piled_bd : ∀ {ts : List Str}, (∀ t ∈ ts, t.length ≤ 4000) → piled ts ≤ 4002 * ts.length
  | [], _ => Nat.zero_le _
  | t :: ts, h => by
    have ih := piled_bd (ts := ts) fun u hu => h u (.tail _ hu)
    have h1 := h t (.head _)
    rw [piled_cons, List.length_cons]
    omega
theorem listText_bd {ts : List Str} (hl : ts.length ≤ 100) (h : ∀ t ∈ ts, t.length ≤ 4000) : (listText ts).length ≤ 500000 := by
  have hp := piled_bd h
  cases ts with
  | nil => rw [listText_nil]; decide
  | cons t r =>
    have e0 := textFrom_length_pos r 1 (("[" : Str) ++ (if (0 : Nat) > 0 then ", " else "" : String) ++ t) (Nat.succ_pos 0)
    have e1 : ((("[" : Str) ++ (if (0 : Nat) > 0 then ", " else "" : String) ++ t)).length = 1 + t.length := by
      rw [strLen_append, strLen_append]; rfl
    have e2 : (listText (t :: r)).length = (textFrom 0 "[" (t :: r)).length + 1 := by
      show (textFrom 0 "[" (t :: r) ++ "]").length = _
      rw [strLen_append]; rfl
    have e3 : (textFrom 0 "[" (t :: r)).length = (textFrom 1 (("[" : Str) ++ (if (0 : Nat) > 0 then ", " else "" : String) ++ t) r).length := rfl
    rw [piled_cons] at hp
    rw [e2, e3, e0, e1]
    rw [List.length_cons] at hp hl
    omega
theorem tupleText_bd {ts : List Str} (hl : ts.length ≤ 100) (h : ∀ t ∈ ts, t.length ≤ 4000) : (tupleText ts).length ≤ 500000 := by
  have hp := piled_bd h
  have e : (tupleText ts).length ≤ 1 + (Str.join ", " ts).length + 2 := by
    unfold tupleText
    rw [strLen_append, strLen_append]
    have : ((if ts.length == 1 then ",)" else ")" : String) : Str).length ≤ 2 := by split <;> decide
    have e1 : (("(" : String) : Str).length = 1 := rfl
    omega
  by_cases hn : ts = []
  · subst hn
    exact Nat.le_trans e (by decide)
  · have := join_length_add ts hn
    omega
theorem strs_done : ∀ {ts : List Str} {its : List Value}, Vals (ts.map V.str) its → ∃ done : List (Str × Tok), its = strValues done ∧ done.map (·.1) = ts
  | [], _, h => by cases h; exact ⟨[], rfl, rfl⟩
  | t :: ts, _, h => by
    cases h with
    | cons r rr =>
      obtain ⟨tk, rfl⟩ := r
      obtain ⟨done, e1, e2⟩ := strs_done (ts := ts) rr
      exact ⟨(t, tk) :: done, by rw [e1]; rfl, by rw [List.map_cons, e2]⟩
/-! ### an instance's own __repr__ beneath a builtin -/
theorem ifBy_own {M : Model} {Ar : Around} {E : Value → Shared → Prop} {s : Shared} {K : PySem.W.Frag} {x C f : Addr} {ox : Obj} {od : Option Obj} {name : Str} {last : Value → List Value → Sem Value} {Q : Option Value → Shared → Prop} (KX : K.In s.heap) (J : PySem.W.InstAt s.heap x ox C od) (hs : PySem.W.findIn K (.ref C) name = some (some (.ref f))) (hf : PySem.W.isFn K (.ref f) = true)
    (h : wpAny M Ar (last (.ref f) [.ref x]) (fun v => Q (some v)) E s) : wpAny M Ar (callSpecialIfBoundBy? last (.ref x) name) Q E s := by
  simp only [callSpecialIfBoundBy?, bindSpecialIfBound?]
  refine wpAny_holding (wpAny_bind (wpAny_bind (wpAny_bind (J.type.here ((PySem.W.looks_findIn KX hs).here ?_)))))
  refine wpAny_bind (wpAny_askSetting (wpAny_ite ?_))
  have last' : wpAny M Ar (last (.ref f) [.ref x] >>= fun v => pure (some v)) Q E s := wpAny_bind (wpAny_mono h (fun v s1 h1 => wpAny_pure h1) fun _ _ h1 => h1)
  split
  · exact wpAny_bind ((PySem.W.bind_fn KX _ (beq_iff_eq.mp hf)).here (wpAny_pure (by exact last')))
  · exact wpAny_tryCatch (wpAny_bind ((PySem.W.bind_fn KX _ (beq_iff_eq.mp hf)).here (wpAny_pure (by exact last'))))
abbrev preM : List Dat → Prop := Q1 fun d => ∃ t b, d = .rat t b ∧ t.natAbs < 10 ^ 60 ∧ b.natAbs < 10 ^ 60
abbrev postM : List Dat → Dat → Prop := O1 fun d z => z = .str (ratS (tbD d).1 (tbD d).2)
section
variable {A : Ad} {X : Cx} {pins : List (Addr × Obj)} {σ : L2.St} {E : Value → Shared → Prop}
theorem rep_atom (M : CalM X.prog X.w X.K X.mg X.base A.R "__repr__" 2 (Pu A preM postM)) {Ar : Around} (hA : Ar.frames = X.A.frames) (hr : Room 2 Ar) {d : Dat} (ok : AtomOk d) {B H : Hp} {s : Shared} {x : V} {u : Value} (I : Inv X pins σ H s) (ex : Ex B H) (iv : Is A B d x) (ru : RelV x u)
    {b : Nat} (hb : b + (atomS d).length ≤ sizeLine) {Q : Str → Shared → Prop} (q : ∀ B' H' s', Inv X pins σ H' s' → Stp none B H B' H' → Q (atomS d) s') : wpAny (model X.prog X.w) Ar (pyReprUnder b u) Q E s := by
  cases d with
  | int i =>
    cases iv
    obtain ⟨t, rfl⟩ := ru
    exact ReprIs.int t (log60 ok) b hb Ar E s Q fun tk => q B H _ (I.tok tk) (Stp.refl0 ex)
  | bl v =>
    cases iv
    cases ru
    exact ReprIs.bool v b hb Ar E s Q fun tk => q B H _ (I.tok tk) (Stp.refl0 ex)
  | str v =>
    cases iv
    obtain ⟨t, rfl⟩ := ru
    exact ReprIs.str v t (Nat.le_trans ok (by decide)) b hb Ar E s Q fun tk => q B H _ (I.tok tk) (Stp.refl0 ex)
  | rat t c =>
    obtain ⟨f, fd, ps, hs, hfn, hkp, hbd, F⟩ := M.ex
    obtain ⟨p, dx, rfl, hB⟩ := id iv
    cases ru
    obtain ⟨mA, O1, _⟩ := ins_get I.hok (ex _ _ hB)
    obtain ⟨od, J, _⟩ := O1.look
    have KX := I.kIn
    refine wpAny_pyReprUnder_ref (by omega) ?_
    unfold pyReprObjUnder pyReprObjBy
    refine wpAny_bind (wpAny_cRoomFor hr.units0 ?_)
    refine wpAny_bind (wpAny_bind (J.type.here ((PySem.W.looks_findIn KX hs).here ?_)))
    show wpAny _ _ (if (some (Value.ref f)).isNone = true then _ else _) _ _ _
    rw [if_neg (by simp)]
    refine wpAny_bind (ifBy_own KX J hs hfn ?_)
    show wpAny _ _ (call (.ref f) [.ref p]) _ _ _
    have e0 := I.env0
    have e1 : Env0 X.prog X.w X.K X.mg X.base Ar X.stack s H := ⟨hA.trans e0.frames, e0.mod, e0.bs, e0.bsz, e0.funs, e0.frf, e0.hok, e0.bare⟩
    have hsp : Pu A preM postM [.ref p] H (fun v H' => ∃ B', v = .str (ratS t c) ∧ Stp none B H B' H') E0 := ⟨B, [.rat t c], ex, ⟨_, [], rfl, iv, rfl⟩, ⟨_, rfl, t, c, rfl, ok.1, ok.2⟩, fun d v B' H' ⟨_, q1, q2⟩ st iv' => by
      cases q1
      subst q2
      exact ⟨B', iv', st⟩⟩
    have hl : ([Value.ref p] : List Value).length = ps.length := by
      have := F.len _ _ _ _ hsp
      exact this
    refine wpAny_call (codeAny_mono (F.run Ar X.stack s H ⟨[.ref p], []⟩ [.ref p] [.ref p] _ E0 hr e1 (by
      have := hbd s [.ref p] KX (by rw [List.append_nil]; exact hl)
      rwa [List.append_nil] at this) (.cons rfl .nil) hsp) fun r s' hq => ?_)
    cases r with
    | error e => exact (pass0 (X := X.nox) pins σ H s e s' (I.wish _) hq).elim
    | ok fl =>
      cases fl with
      | ret v =>
        obtain ⟨w', H', I', rv, B', rfl, st⟩ := I.after hq
        obtain ⟨tk, rfl⟩ := rv
        refine wpAny_bind (wpAny_isInstance (typeIs_str _ _ _) isSubtype_str_str ?_)
        first
          | exact wpAny_pure ⟨_, _, rfl, q B' H' s' I' st⟩
          | (rw [if_pos rfl]; exact wpAny_pure ⟨_, _, rfl, q B' H' s' I' st⟩)
          | (simp only [if_true]; exact wpAny_pure ⟨_, _, rfl, q B' H' s' I' st⟩)
      | next => exact False.elim hq
      | brk => exact False.elim hq
      | cont => exact False.elim hq
  | _ => exact ok.elim
end
/-! ### the loop of a list -/
open Builtin Builtin.List in
section
variable {A : Ad} {X : Cx} {pins : List (Addr × Obj)} {σ : L2.St}
theorem under_loop {Ar : Around} {k : Nat} {args : Args} (r : Room (k + 1) Ar) : Room k (Ar.under (.builtin "list.__repr__.loop" args)) ∧ (Ar.under (.builtin "list.__repr__.loop" args)).frames = Ar.frames := by
  have hd : (Ar.under (.builtin "list.__repr__.loop" args)).depth = Ar.depth + 1 := by
    first | rfl | simp [Around.under, Code.weight, Code.isCreation, Code.isGuard, Code.isCaller, Code.frames, Code.isFrame, guardIds]
  have hu := units_under_list_loop Ar args
  refine ⟨⟨r.hd, ?_, ?_⟩, ?_⟩
  · have := r.dp; rw [hd]; omega
  · have := r.un; rw [hu]; omega
  · first | rfl | simp [Around.under, Code.envs, Code.isFrame, pushEnvs]
theorem rep_loop (M : CalM X.prog X.w X.K X.mg X.base A.R "__repr__" 2 (Pu A preM postM)) {Ar : Around} (hA : Ar.frames = X.A.frames) (hr : Room 3 Ar) {ds : List Dat} (ok : ∀ d ∈ ds, AtomOk d) (hl : ds.length ≤ 100) {a P : Addr} (hne : a ≠ P) {xs : List V} {B0 H0 : Hp} {R : Result → Shared → Prop}
    (hR : ∀ B' H' s' u, Inv X pins σ H' s' → Stp (some P) B0 H0 B' H' → R (.ok (.ret (.str (listText (ds.map atomS)) u))) s') :
    ∀ (k i : Nat) (s : Shared) (B H : Hp), ds.length - i = k → i ≤ ds.length → Inv X pins σ H s → Stp (some P) B0 H0 B H → B a = some (.lst xs) → Iss A B ds xs → H P = some (.lst (((ds.map atomS).take i).map V.str)) →
      codeAny (model X.prog X.w) Ar (.builtin "list.__repr__.loop" ⟨[.ref a, rawInt i, .ref P, rawInt ((0 + piled ((ds.map atomS).take i) : Nat) : Int)], []⟩) R s := by
  have hts : ∀ t ∈ ds.map atomS, t.length ≤ 4000 := fun t ht => by
    obtain ⟨d, hd, rfl⟩ := List.mem_map.mp ht
    exact atomS_len (ok d hd)
  have hl' : (ds.map atomS).length ≤ 100 := by rw [List.length_map]; exact hl
  have big := listText_bd hl' hts
  have pl := piled_le_listText (ds.map atomS)
  intro k
  induction k with
  | zero =>
    intro i s B H hk hi I sB ha iss hP
    have hin : i = ds.length := by omega
    obtain ⟨its, r1, ⟨oa, na, ga, _, _, da⟩, _⟩ := I.list (SqL.of (sB.sub _ _ ha))
    obtain ⟨_, jts, n, r2, l2, gP⟩ := I.lstM hP
    have hsz : its.length = ds.length := by rw [← r1.length, iss.len]
    refine codeAny_builtin F.entry_list_repr_loop ?_
    show wpAny _ _ («list.__repr__.loop» ⟨[.ref a, .int i 0, .ref P, .int ((0 + piled ((ds.map atomS).take i) : Nat) : Int) 0], []⟩) _ _ s
    rw [repr_loop_tree]
    refine wpAny_bind (wpAny_listItems ga da ?_)
    have none' : its.toArray[(i : Int).toNat]? = none := by
      rw [Int.toNat_natCast]
      simp [hin, hsz]
    simp only [none']
    unfold reprEnd
    refine wpAny_bind (wpAny_listItems gP rfl ?_)
    obtain ⟨done, e1, e2⟩ := strs_done r2
    have e3 : jts.toArray.toList = strValues done := by rw [e1]
    rw [e3, repr_fold]
    refine wpAny_bind (wpAny_pure ?_)
    have e4 : done.map (·.1) = ds.map atomS := by rw [e2, hin, List.take_of_length_le (by rw [List.length_map]; exact Nat.le_refl _)]
    rw [e4]
    refine wpAny_bind (wpAny_mkStr (wpAny_pure ?_) (Nat.le_trans big (by decide)))
    exact hR B H _ _ (I.tok _) sB
  | succ k ih =>
    intro i s B H hk hi I sB ha iss hP
    have hlt : i < ds.length := by omega
    obtain ⟨its, r1, ⟨oa, na, ga, _, _, da⟩, _⟩ := I.list (SqL.of (sB.sub _ _ ha))
    have hd : ds[i]? = some (ds[i]'hlt) := List.getElem?_eq_getElem hlt
    obtain ⟨x, hx, ix⟩ := iss.at hd
    obtain ⟨u, hu, ru⟩ := Vals.get r1 hx
    have okd := ok _ (List.getElem_mem hlt)
    have ht : (ds.map atomS)[i]? = some (atomS (ds[i]'hlt)) := by rw [List.getElem?_map, hd]; rfl
    have p1 := piled_take_succ ht
    have p2 := piled_take_le (ds.map atomS) (i + 1)
    have tl := atomS_len okd
    refine codeAny_builtin F.entry_list_repr_loop ?_
    show wpAny _ _ («list.__repr__.loop» ⟨[.ref a, .int i 0, .ref P, .int ((0 + piled ((ds.map atomS).take i) : Nat) : Int) 0], []⟩) _ _ s
    rw [repr_loop_tree]
    refine wpAny_bind (wpAny_listItems ga da ?_)
    have some' : its.toArray[(i : Int).toNat]? = some u := by
      rw [Int.toNat_natCast]
      simpa using hu
    simp only [some']
    rw [Int.toNat_natCast]
    obtain ⟨hr', hf'⟩ := under_loop (args := ⟨[.ref a, .int i 0, .ref P, .int ((0 + piled ((ds.map atomS).take i) : Nat) : Int) 0], []⟩) hr
    have sl : 4000000 ≤ sizeLine := by decide
    refine wpAny_bind (wpAny_holding (rep_atom M (hf'.trans hA) hr' okd I sB.sub ix ru (by omega) fun B2 H2 s2 I2 st2 => ?_))
    have sB2 : Stp (some P) B0 H0 B2 H2 := sB.trans (st2.weak fun p hp => by cases hp; exact sB.mB P rfl)
    have hP2 : H2 P = some (.lst (((ds.map atomS).take i).map V.str)) := st2.ex P _ (fun z => nomatch z) hP
    obtain ⟨_, jts, n, r2, l2, gP⟩ := I2.lstM hP2
    refine wpAny_bind (wpAny_mkStr ?_ (by omega))
    refine wpAny_bind ?_
    show wpAny _ _ (updateSeq P _) _ _ _
    have jl : jts.length ≤ 100 := by
      rw [← l2, List.length_map, List.length_take]
      omega
    refine wpAny_updateSeq gP rfl (wpAny_pure ⟨F.quiet_list_repr_loop _, ?_⟩) (by rw [List.size_toArray]; exact Nat.le_trans jl (by decide)) (by rw [Array.size_push, List.size_toArray]; omega)
    have I3 := I2.lset (its' := jts ++ [.str (atomS (ds[i]'hlt)) s2.toks]) (f := (·.push (.str (atomS (ds[i]'hlt)) s2.toks))) (ys := (((ds.map atomS).take i).map V.str) ++ [.str (atomS (ds[i]'hlt))]) (t' := s2.toks + 1) hP2 gP (by simp) (r2.append (.cons (show RelV (.str (atomS (ds[i]'hlt))) (.str (atomS (ds[i]'hlt)) s2.toks) from ⟨_, rfl⟩) .nil)) (by
      rw [List.length_append, l2]
      exact Nat.le_trans (show _ ≤ 101 by show jts.length + 1 ≤ 101; omega) (by decide))
    have e1 : ((i : Int) + 1) = ((i + 1 : Nat) : Int) := by omega
    have e2 : 0 + piled ((ds.map atomS).take i) + ((atomS (ds[i]'hlt)).length + 2) = 0 + piled ((ds.map atomS).take (i + 1)) := by omega
    rw [e1, e2]
    have hPB : B2 P = none := (sB2.mB P rfl).1
    refine ih (i + 1) _ B2 _ (by omega) hlt I3 (sB2.put (.inr rfl) hPB) (st2.exB _ _ ha) (iss.mono st2.exB) ?_
    rw [upd_same, List.take_add_one, ht, List.map_append]
    rfl
end
end K64
/-! repr, called. -/
namespace K64
open PySem L2
theorem Stp.offNew {B H B' H' : Hp} {P : Addr} {o : HO} (h : H P = none) (s : Stp (some P) B (upd H P o) B' H') : Stp none B H B' H' where
  ex := fun a u _ e => by
    have c : a ≠ P := ne_of_none e h
    exact s.ex a u (fun z => c (Option.some.inj z)) (by rw [upd_ne c]; exact e)
  exB := s.exB
  sub := s.sub
  av := fun a h1 h2 => s.av a h1 (by
    by_cases c : a = P
    · rw [c, upd_same]; exact fun z => nomatch z
    · rw [upd_ne c]; exact h2)
  mB := fun _ z => nomatch z
open Builtin Builtin.List in
section
variable {A : Ad} {X : Cx} {pins : List (Addr × Obj)} {σ : L2.St} {E : Value → Shared → Prop}
theorem rep_list (M : CalM X.prog X.w X.K X.mg X.base A.R "__repr__" 2 (Pu A preM postM)) {Ar : Around} (hA : Ar.frames = X.A.frames) (hr : Room 3 Ar) (hg : Ar.guards = some []) {ds : List Dat} (ok : ∀ d ∈ ds, AtomOk d) (hl : ds.length ≤ 100) {a : Addr} {B H : Hp} {s : Shared} (I : Inv X pins σ H s) (ex : Ex B H) (iv : Is A B (.lst ds) (.ref a))
    {Q : Value → Shared → Prop} (q : ∀ B' H' s' u, Inv X pins σ H' s' → Stp none B H B' H' → Q (.str (listText (ds.map atomS)) u) s') : wpAny (model X.prog X.w) Ar (call (.builtin "list.__repr__") [.ref a]) Q E s := by
  obtain ⟨a', xs, e, ha, iss⟩ := iv
  cases e
  obtain ⟨its, r1, ⟨oa, na, ga, ca, _, da⟩, _⟩ := I.list (SqL.of (ex _ _ ha))
  have hTy : s.TypeIs (.ref a) "list" := ⟨oa, ga, ca⟩
  cases ds with
  | nil =>
    cases iss
    cases r1
    exact call_list_repr_empty hTy ga da (by
      have := q B H _ s.toks (I.tok (s.toks + 1)) (Stp.refl0 ex)
      rw [show listText (([] : List Dat).map atomS) = "[]" from listText_nil] at this
      exact this)
  | cons d ds =>
    have hits : ∃ y l, its = y :: l := by
      have : its.length = ds.length + 1 := by rw [← r1.length, ← iss.len]; rfl
      cases its with
      | nil => cases this
      | cons y l => exact ⟨y, l, rfl⟩
    obtain ⟨y, l, rfl⟩ := hits
    refine wpAny_call (codeAny_call_builtin F.slot_list_repr.plain F.entry_list_repr (F.slot_list_repr.check _ _ _ _ _ _ _ _ hTy (F.args_list_repr_1 _) ?_))
    refine wpAny_list_repr_head (A := Ar.in1) (g := []) hg (fun v rest kw hm => nomatch hm) ga da ?_
    refine wpAny_bind (m := newList []) (wpAny_newObj_type ?_)
    refine wpAny_pure ⟨F.quiet_list_repr_loop _, ?_⟩
    have hP : H s.heap.objs.size = none := I.fresh
    have I1 := I.lnew (ys := []) (its := []) (t' := s.toks) .nil (Nat.zero_le _)
    have hne : a ≠ s.heap.objs.size := Nat.ne_of_lt (Heap.lt_size ga)
    have e1 : Ex B (upd H s.heap.objs.size (.lst [])) := ex.mut (ex.back hP)
    refine rep_loop (B0 := B) (H0 := upd H s.heap.objs.size (.lst [])) M hA hr ok hl hne (fun B' H' s' u I' st => ?_) _ 0 _ B (upd H s.heap.objs.size (.lst [])) rfl (Nat.zero_le _) I1 (Stp.refl e1 fun p hp => by cases hp; exact ⟨ex.back hP, by rw [upd_same]; exact fun z => nomatch z⟩) ha iss (by rw [upd_same]; rfl)
    exact q B' H' s' u I' (st.offNew hP)
end
open Builtin Builtin.Tuple in
section
variable {A : Ad} {X : Cx} {pins : List (Addr × Obj)} {σ : L2.St} {E : Value → Shared → Prop}
theorem rep_fold (M : CalM X.prog X.w X.K X.mg X.base A.R "__repr__" 2 (Pu A preM postM)) {Ar : Around} (hA : Ar.frames = X.A.frames) (hr : Room 2 Ar) : ∀ (ds : List Dat) (xs : List V) (its : List Value) (acc : Array Str) (n : Nat) (s : Shared) (B H : Hp) (Q : (Array Str × Nat) → Shared → Prop), (∀ d ∈ ds, AtomOk d) → Iss A B ds xs → Vals xs its → n + piled (ds.map atomS) ≤ sizeLine → Inv X pins σ H s → Ex B H →
    (∀ B' H' s', Inv X pins σ H' s' → Stp none B H B' H' → Q ⟨acc ++ (ds.map atomS).toArray, n + piled (ds.map atomS)⟩ s') → wpAny (model X.prog X.w) Ar (forIn its (⟨acc, n⟩ : (Array Str × Nat)) tupBody) Q E s := by
  intro ds
  induction ds with
  | nil =>
    intro xs its acc n s B H Q _ iss rv _ I ex h
    cases iss
    cases rv
    have h0 := h B H s I (Stp.refl0 ex)
    simp only [List.forIn_nil]
    exact wpAny_pure (by simpa [piled] using h0)
  | cons d ds ih =>
    intro xs its acc n s B H Q ok iss rv hn I ex h
    obtain ⟨x, r, rfl, ix, ir⟩ := iss
    cases rv with
    | cons ru rr =>
      rename_i u its'
      rw [List.map_cons, piled_cons] at hn
      rw [List.forIn_cons]
      refine wpAny_bind (wpAny_bind (rep_atom M hA hr (ok d (.head _)) I ex ix ru (by omega) fun B2 H2 s2 I2 st2 => wpAny_pure ?_))
      refine ih r its' (acc.push (atomS d)) (n + ((atomS d).length + 2)) s2 B2 H2 Q (fun e he => ok e (.tail _ he)) (ir.mono st2.exB) rr (by omega) I2 st2.sub fun B' H' s' I' st' => ?_
      have h1 := h B' H' s' I' (st2.trans st')
      have e : n + piled ((d :: ds).map atomS) = n + ((atomS d).length + 2) + piled (ds.map atomS) := by rw [List.map_cons, piled_cons]; omega
      rw [e] at h1
      simpa using h1
theorem under_tup {Ar : Around} {k : Nat} {args : Args} (r : Room (k + 1) Ar) : Room k (Ar.under (.builtin "tuple.__repr__" args)) ∧ (Ar.under (.builtin "tuple.__repr__" args)).frames = Ar.frames := by
  have hd : (Ar.under (.builtin "tuple.__repr__" args)).depth = Ar.depth + 1 := by
    first | rfl | simp [Around.under, Code.weight, Code.isCreation, Code.isGuard, Code.isCaller, Code.frames, Code.isFrame, guardIds]
  have hu := units_under_tuple_repr Ar args
  refine ⟨⟨r.hd, ?_, ?_⟩, ?_⟩
  · have := r.dp; rw [hd]; omega
  · have := r.un; rw [hu]; omega
  · first | rfl | simp [Around.under, Code.envs, Code.isFrame, pushEnvs]
theorem rep_tup (M : CalM X.prog X.w X.K X.mg X.base A.R "__repr__" 2 (Pu A preM postM)) {Ar : Around} (hA : Ar.frames = X.A.frames) (hr : Room 3 Ar) (hg : Ar.guards = some []) {ds : List Dat} (ok : ∀ d ∈ ds, AtomOk d) (hl : ds.length ≤ 100) {a : Addr} {B H : Hp} {s : Shared} (I : Inv X pins σ H s) (ex : Ex B H) (iv : Is A B (.tup ds) (.ref a))
    {Q : Value → Shared → Prop} (q : ∀ B' H' s' u, Inv X pins σ H' s' → Stp none B H B' H' → Q (.str (tupleText (ds.map atomS)) u) s') : wpAny (model X.prog X.w) Ar (call (.builtin "tuple.__repr__") [.ref a]) Q E s := by
  obtain ⟨a', xs, e, ha, iss⟩ := iv
  cases e
  obtain ⟨its, r1, ⟨oa, ga, ca, na, da⟩, _⟩ := I.tuple (SqT.of (ex _ _ ha))
  have hTy : s.TypeIs (.ref a) "tuple" := ⟨oa, ga, ca⟩
  have hts : ∀ t ∈ ds.map atomS, t.length ≤ 4000 := fun t ht => by
    obtain ⟨d, hd, rfl⟩ := List.mem_map.mp ht
    exact atomS_len (ok d hd)
  have big := tupleText_bd (by rw [List.length_map]; exact hl) hts
  have pl := piled_bd hts
  have hlen : (ds.map atomS).length = its.length := by rw [List.length_map, iss.len, r1.length]
  refine wpAny_call (codeAny_call_builtin_own (Code.quiet_builtin _ (by decide +kernel)) F.entry_tuple_repr (F.slot_tuple_repr.check _ _ _ _ _ _ _ _ hTy (F.args_tuple_repr_1 _) ?_))
  show wpOwn _ _ _ (tupleReprAt 0 ⟨[.ref a], []⟩) _ _ s
  rw [tuple_repr_tree, tupleReprUnderWay_eq]
  refine wpOwn_bind (wpOwn_stackTailAny hg (tupGuardF_off _) (tupGuardF_pos _) ?_)
  have hn : (([] : List Code).any fun c => tupGuardF (.ref a) (c, default)) = false := rfl
  rw [hn]
  refine wpOwn_of_wpAny ?_
  show wpAny _ _ (tupleReprRest 0 (.ref a)) _ _ s
  unfold tupleReprRest Builtin.Tuple.tupleItemsOf
  refine wpAny_bind (wpAny_bind (wpAny_seqItems ga da (wpAny_pure ?_)))
  rw [← Array.forIn_toList]
  obtain ⟨hr', hf'⟩ := under_tup (args := ⟨[.ref a], []⟩) hr
  have sl : 4000000 ≤ sizeLine := by decide
  refine wpAny_bind (rep_fold M (hf'.trans hA) hr' ds xs its #[] 0 s B H _ ok iss r1 (by rw [List.length_map] at pl; omega) I ex fun B' H' s' I' st => ?_)
  refine wpAny_bind (wpAny_mkStr (wpAny_pure ?_) (by
    have : ((("(" : Str) ++ Str.join ", " (#[] ++ (ds.map atomS).toArray).toList ++ (if its.toArray.size == 1 then ",)" else ")" : String))) = tupleText (ds.map atomS) := by
      simp [tupleText, ← hlen]
    rw [this]
    exact Nat.le_trans big (by decide)))
  have h1 := q B' H' _ s'.toks (I'.tok (s'.toks + 1)) st
  have e1 : ((("(" : Str) ++ Str.join ", " (#[] ++ (ds.map atomS).toArray).toList ++ (if its.toArray.size == 1 then ",)" else ")" : String))) = tupleText (ds.map atomS) := by
    simp [tupleText, ← hlen]
  rw [e1]
  exact h1
end
end K64
/-! repr: the rule; an empty dict. -/
namespace K64
open PySem L2
def rRep (A : Ad) : List V → Hp → VK → Prop := fun xs H Q => ∃ B d x, xs = [x] ∧ Ex B H ∧ Is A B d x ∧ RepOk d ∧ ∀ B' H', Stp none B H B' H' → Q (.str (reprS d)) H'
section
variable {A : Ad} {X : Cx} {Γ : Sls} {e : Expr} {pos p : Pos} {j : Nat}
theorem cr_repr (M : CalM X.prog X.w X.K X.mg X.base A.R "__repr__" 2 (Pu A preM postM)) (hr : Room 4 X.A) (hg : X.A.guards = some []) : CallR X (.builtin "repr") (rRep A) := by
  intro pins s σ H xs us Q I r h
  obtain ⟨B, d, x, rfl, ex, iv, ok, q⟩ := h
  obtain ⟨u, rfl, ru⟩ := r.one
  have hu : X.A.units + 1 < cLine := by have := hr.un; omega
  have q0 := q B H (Stp.refl0 ex)
  cases d with
  | non =>
    cases iv
    cases ru
    exact PySem.P.repr_of_none ⟨.str _, H, I.tok _, ⟨_, rfl⟩, q0⟩
  | int i =>
    cases iv
    obtain ⟨t, rfl⟩ := ru
    exact PySem.P.repr_of_int (log60 ok) ⟨.str _, H, I.tok _, ⟨_, rfl⟩, q0⟩
  | str v =>
    cases iv
    obtain ⟨t, rfl⟩ := ru
    exact PySem.P.repr_of_str ⟨.str _, H, I.tok _, ⟨_, rfl⟩, q0⟩ (Nat.le_trans ok (by decide))
  | dic =>
    obtain ⟨a, rfl, hB⟩ := iv
    cases ru
    obtain ⟨_, hsys, vs, kv, o, es, ep, ga, ⟨ca, _, _⟩, da, _, pr, _⟩ := I.hok a _ (ex _ _ hB)
    cases kv
    have hes : es = #[] := by
      cases es with
      | mk l =>
        cases l with
        | nil => rfl
        | cons a l => cases pr
    subst hes
    refine call_repr_slot hu ⟨o, ga, ca⟩ F.slot_dict_repr ?_
    refine call_dict_reprK (as := []) (h₀ := s.heap) (d := 0) (g := []) (ps := []) ga ca da hsys List.not_mem_nil .nil hg (fun b _ => Clear.nil b) (by show X.A.units + 1 + (0 + 1) < cLine; have := hr.un; omega) (fun b o e => e) (fun h' u tk hk => ?_) (by decide)
    exact ⟨_, _, rfl, .str _, H, I.kept (t' := tk) hk, ⟨_, rfl⟩, q0⟩
  | lst ds =>
    obtain ⟨a, xs, rfl, hB⟩ := id iv
    cases ru
    obtain ⟨its, r1, ⟨oa, na, ga, ca, _, da⟩, _⟩ := I.list (SqL.of (ex _ _ hB.1))
    exact call_repr_slot hu ⟨oa, ga, ca⟩ F.slot_list_repr.toG (rep_list M (Ar := X.A.in1) rfl hr.in1 hg ok.2 ok.1 I ex iv fun B' H' s' u I' st => ⟨_, _, rfl, .str _, H', I', ⟨_, rfl⟩, q B' H' st⟩)
  | tup ds =>
    obtain ⟨a, xs, rfl, hB⟩ := id iv
    cases ru
    obtain ⟨its, r1, ⟨oa, ga, ca, na, da⟩, _⟩ := I.tuple (SqT.of (ex _ _ hB.1))
    exact call_repr_slot hu ⟨oa, ga, ca⟩ F.slot_tuple_repr (rep_tup M (Ar := X.A.in1) rfl hr.in1 hg ok.2 ok.1 I ex iv fun B' H' s' u I' st => ⟨_, _, rfl, .str _, H', I', ⟨_, rfl⟩, q B' H' st⟩)
  | _ => exact ok.elim
theorem ev_repr {d : Dat} (M : CalM X.prog X.w X.K X.mg X.base A.R "__repr__" 2 (Pu A preM postM)) (hr : Room j X.A) (hg : X.A.guards = some []) (hm : X.mg "repr" = none) (ha : Ev A X e Γ (fun z => z = d)) (ok : RepOk d) (hk : 4 ≤ j := by decide) (hgl : Gl X "repr" := by rfl)
    (h1 : starEach [e] X.env = (false, eval e X.env) :: starEach [] X.env := by rfl) (hpl : (backTo pos (starEach [] X.env)).any (·.1) = false := by rfl) : Ev A X (.Call (.Name "repr" p) [e] [] pos) Γ (fun z => z = .str (reprS d)) :=
  ev_bf (cr_repr M (hr.mono hk) hg) hm (ea1 ha h1) (fun xs ds B H ⟨d', e1, e2⟩ hi ex Q q => by
    subst e1; subst e2
    obtain ⟨v, rfl, iv⟩ := hi.one
    exact ⟨B, d', v, rfl, ex, iv, ok, fun B' H' st => q _ B' H' _ rfl st rfl⟩) (by decide +kernel) hgl (by decide) (by decide) h1 hpl
/-! ### pinned slots; an empty dict -/
theorem ev_pin {d : Dat} {v : V} {B1 : Hp} (i : Nat) {x : Str} (hΓ : Γ[i]? = some (some (.pin v d B1)) := by rfl) (hN : X.N[i]? = some x := by rfl) (hv : Vis X.env.scope x := by first | exact Or.inl rfl | exact Or.inr (Or.inl rfl) | exact Or.inr (Or.inr rfl))
    (hd : (x == ("__debug__" : Str)) = false := by decide) (hcd : (x == ("__classdict__" : Str)) = false := by decide) : Ev A X (.Name x pos) Γ (fun z => z = d) := ev_k (pe_var hN hv hd hcd) fun F σ B H R Q q => by
  obtain ⟨u, e, rfl, iv, ex⟩ := R.sl i _ hΓ
  exact ⟨u, e, q u B H d rfl (Stp.refl R.sub R.mB) R (iv.mono ex)⟩
end
end K64
/-! Calls by name alone; the told list held fast; the end. -/
namespace K64
open PySem L2
section
variable {X : Cx} {CX : CXT} {k : Nat} {f : Addr} {fd : FuncData} {ps ks : List Str} {sp : Sp} {E : XK} {x : Str} {p pos : Pos} {kws : List Keyword} {tk : TA} {g : List Value → List Value → List Value} {gV : List V → List V → List V}
/-- f(k = v, ..) -/
theorem pe_callK0 (F : FnOk X.prog X.w X.K X.mg X.base CX k f fd ps sp) (hr : Room k X.A) (hg : Gl X x) (hm : X.mg x = some (.ref f)) (hk : PySem.W.keepIn X.K (.ref f) = true) (hb : KBn X.K fd ps 0 ks g gV) (hx : Passes CX X E)
    (hkw : PK X kws tk) (hall : (backToKw pos (keywordEach kws X.env)).all (·.1.isSome) = true := by rfl) (hks : (backToKw pos (keywordEach kws X.env)).filterMap (·.1) = ks := by rfl) (hdb : (x == ("__debug__" : Str)) = false := by decide)
    (hpl : ((backTo pos (starEach [] X.env)).any (·.1) || (backToKw pos (keywordEach kws X.env)).any (·.1.isNone)) = false := by rfl) :
    PE X (.Call (.Name x p) [] kws pos) (fun σ H Q => tk σ H fun zs H2 => zs.length = ks.length ∧ sp (gV [] zs) H2 Q E) := ⟨fun pins s σ H Q I h => by
  refine wpAny_Call_Name_kw (ld_glob I hg hm ?_ hdb)
  refine PySem.W.callWith_KW0 (h₀ := X.base) I.ok.mod.kin hk hall (thn (hkw.run pos pins s σ H _ I h) fun ws s2 ⟨zs, H2, I2, rz, l2, q2⟩ => ⟨I2.kIn, ?_⟩) hpl
  rw [hks]
  exact run_fnN (us := []) (vs := []) F hr hb hx I2 .nil rz rfl l2 q2⟩
end
def ksVP : List Str := ["value", "pairs"]
def ksP : List Str := ["pairs"]
section
variable {P : Program} {w : World} {K : PySem.W.Frag} {mg : Str → Option Value} {base : Heap} {A : Ad} {N : Addr}
theorem kb_one {x : Str} {st : Stmt} {f : Addr} {fd : FuncData} {ps ks : List Str} (F : Fun K x x st f fd) (hk : ks.length = 1)
    (h : ∀ (kV doc pm : Value) (an : Option Addr) (cdv ct a : Value), bindArgs (PySem.W.fnOf x x (defArgs st) (defBody st) (defScope st) .none kV doc pm an cdv ct) ⟨[], ks.zip [a]⟩ = pure (ps.zip [a])) : KBn K fd ps 0 ks (fun _ ws => ws) (fun _ zs => zs) where
  to := fun s us ws _ l1 l2 => by
    obtain ⟨oc, od, kV, doc, pm, an, cdv, ct, osl, rfl, lk, hcd⟩ := F.ex
    obtain rfl : us = [] := List.length_eq_zero_iff.mp l1
    rw [hk] at l2
    match ws, l2 with
    | [a], _ => exact .of_eq (h kV doc pm an cdv ct a)
  rel := fun _ r => r
theorem kb_two {x : Str} {st : Stmt} {f : Addr} {fd : FuncData} {ps ks : List Str} (F : Fun K x x st f fd) (hk : ks.length = 2)
    (h : ∀ (kV doc pm : Value) (an : Option Addr) (cdv ct a b : Value), bindArgs (PySem.W.fnOf x x (defArgs st) (defBody st) (defScope st) .none kV doc pm an cdv ct) ⟨[], ks.zip [a, b]⟩ = pure (ps.zip [b, a])) : KBn K fd ps 0 ks (fun _ ws => ws.reverse) (fun _ zs => zs.reverse) where
  to := fun s us ws _ l1 l2 => by
    obtain ⟨oc, od, kV, doc, pm, an, cdv, ct, osl, rfl, lk, hcd⟩ := F.ex
    obtain rfl : us = [] := List.length_eq_zero_iff.mp l1
    rw [hk] at l2
    match ws, l2 with
    | [a, b], _ => exact .of_eq (h kV doc pm an cdv ct a b)
  rel := fun _ r => by
    have rev : ∀ {vs : List V} {us : List Value}, Vals vs us → Vals vs.reverse us.reverse := fun {vs} => by
      induction vs with
      | nil => intro us h; cases h; exact .nil
      | cons v vs ih =>
        intro us h
        cases h with
        | cons r rr =>
          rw [List.reverse_cons, List.reverse_cons]
          exact (ih rr).append (.cons r .nil)
    exact rev r
end
section
variable {A : Ad} {X : Cx} {Γ : Sls} {e a b : Expr} {es : List Expr} {pos p p1 p2 : Pos} {j : Nat} {N : Addr} (T : Txt X.K X.mg A N) {n : Nat} {own : Own} (ok : OwnOk n own)
include T ok
/-- is_trial(value = a, pairs = b) -/
theorem ev_is_trialK {v d : Dat} (hr : Room j X.A) (ha : Ev A X a Γ (fun z => z = v)) (hb : Ev A X b Γ (fun z => z = d)) (hd : PrsOf n own d) (hv : ValOk v) (hk : 9 ≤ j := by decide) (hg : Gl X "is_trial" := by rfl)
    (hall : (backToKw pos (keywordEach [⟨some "value", a, p1⟩, ⟨some "pairs", b, p2⟩] X.env)).all (·.1.isSome) = true := by rfl) (hks : (backToKw pos (keywordEach [⟨some "value", a, p1⟩, ⟨some "pairs", b, p2⟩] X.env)).filterMap (·.1) = ksVP := by rfl)
    (hpl : ((backTo pos (starEach [] X.env)).any (·.1) || (backToKw pos (keywordEach [⟨some "value", a, p1⟩, ⟨some "pairs", b, p2⟩] X.env)).any (·.1.isNone)) = false := by rfl) :
    Ev A X (.Call (.Name "is_trial" p) [] [⟨some "value", a, p1⟩, ⟨some "pairs", b, p2⟩] pos) Γ (fun z => z = .bl (dueB n own v)) := by
  obtain ⟨f, fd, hm, F, hbd, FO⟩ := (f_is_trial (P := X.prog) (w := X.w) (base := X.base) T ok).ex
  refine ev_k (pe_callK0 FO (hr.mono hk) hg hm F.kp (kb_two (ps := ["pairs", "value"]) (ks := ksVP) F rfl fun kV doc pm an cdv ct a b => rfl) pass0 (pk_cons pe_w (pk_cons pe_w pk_nil)) hall hks (by decide) hpl) fun F σ B H R Q q => ?_
  refine ha F σ B H R _ fun x B1 H1 d1 pd1 s1 R1 i1 => hb F σ B1 H1 R1 _ fun y B2 H2 d2 pd2 s2 R2 i2 => ⟨rfl, ?_⟩
  subst pd1 pd2
  exact ⟨B2, [d2, d1], R2.sub, ⟨y, [x], rfl, i2, x, [], rfl, i1.mono s2.exB, rfl⟩, ⟨_, _, rfl, hd, hv⟩, fun d' v' B' H' ⟨_, _, q1, q2⟩ s iv => by
    cases q1
    exact q v' B' H' d' q2 ((s1.trans s2).trans (s.weak R2.mB)) (R2.step s) iv⟩
/-- trial_numbers(pairs = a) -/
theorem en_trialK {d : Dat} (hr : Room j X.A) (ha : Ev A X a Γ (fun z => z = d)) (hd : PrsOf n own d) (hk : 9 ≤ j := by decide) (hg : Gl X "trial_numbers" := by rfl)
    (hall : (backToKw pos (keywordEach [⟨some "pairs", a, p1⟩] X.env)).all (·.1.isSome) = true := by rfl) (hks : (backToKw pos (keywordEach [⟨some "pairs", a, p1⟩] X.env)).filterMap (·.1) = ksP := by rfl)
    (hpl : ((backTo pos (starEach [] X.env)).any (·.1) || (backToKw pos (keywordEach [⟨some "pairs", a, p1⟩] X.env)).any (·.1.isNone)) = false := by rfl) :
    EvN A X (.Call (.Name "trial_numbers" p) [] [⟨some "pairs", a, p1⟩] pos) Γ (fun z => z = toldL n own) := by
  obtain ⟨f, fd, hm, F, hbd, FO⟩ := (f_trial_numbers (P := X.prog) (w := X.w) (base := X.base) T ok).ex
  intro F' σ B H R Q q
  refine ⟨_, pe_callK0 FO (hr.mono hk) hg hm F.kp (kb_one (ps := ["pairs"]) (ks := ksP) F rfl fun kV doc pm an cdv ct a => rfl) pass0 (pk_cons pe_w pk_nil) hall hks (by decide) hpl, ha F' σ B H R _ fun x B1 H1 d1 pd1 s1 R1 i1 => ⟨rfl, ?_⟩⟩
  subst pd1
  exact ⟨B1, [d1], R1.sub, ⟨x, [], rfl, i1, rfl⟩, ⟨_, rfl, hd⟩, fun es p xs B' H' ⟨_, q1, q2⟩ s g1 g2 g3 g4 => by
    cases q1
    exact q p xs B' H' es q2 (s1.trans (s.weak R1.mB)) (R1.step s) (fresh_of s1 R1 g1) g2 g3 g4⟩
end
section
variable {A : Ad} {X : Cx} {Γ : Sls} {rest : List Stmt} {ae : AE} {pos : Pos}
theorem ev_dic : Ev A X (.Dict [] [] pos) Γ (fun z => z = .dic) := ev_k pe_dnewK fun F σ B H R Q q p hp => by
  have s2 := Stp.new (o := .dK []) R.sub hp
  exact q (.ref p) _ _ .dic rfl (s2.weak R.mB) (R.step s2) ⟨p, rfl, upd_same⟩
/-- a list of one's own (slot i) and a datum (slot j) are held fast -/
theorem sb_lend (i j : Nat) {ds : List Dat} {d : Dat} (hi : Γ[i]? = some (some (.mu ds)) := by rfl) (hj : Γ[j]? = some (some (.im d)) := by rfl)
    (k : ∀ (v : V) (p : Addr) (B1 B2 : Hp) (xs : List V), B1 p = none → B2 p = some (.lst xs) → xs.length = ds.length → Sb A X rest ((Γ.set j (some (.pin v d B1))).set i (some (.pin (.ref p) (.lst ds) B2))) ae) : Sb A X rest Γ ae := fun F D σ B H E R => by
  obtain ⟨p, xs, ep, h0, hm, hB, hH, hI⟩ := R.mu hi
  obtain ⟨v, ev, iv⟩ := R.im hj
  obtain ⟨B', ex, R1⟩ := R.freeze hi
  have hil : i < Γ.length := (List.getElem?_eq_some_iff.mp hi).1
  have hjl : j < Γ.length := (List.getElem?_eq_some_iff.mp hj).1
  obtain ⟨v1, e1, i1⟩ := R1.im (i := i) (d := .lst ds) (List.getElem?_set_self hil)
  rw [ep] at e1
  cases e1
  obtain ⟨p', xs', e2, hp', hI'⟩ := i1
  cases e2
  refine k v p B B' xs' hB hp' hI'.len.symm F D σ B' H E ⟨R1.st, fun i' s hs => ?_, fun i' j' d1 d2 n e1 e2 => ?_, by rw [List.length_set, List.length_set]; exact R.len⟩
  · by_cases c : i = i'
    · subst c
      rw [List.getElem?_set_self (by rw [List.length_set]; exact hil)] at hs
      cases hs
      exact ⟨_, ep, rfl, ⟨p, xs', rfl, hp', hI'⟩, Ex.refl _⟩
    · rw [List.getElem?_set_ne c] at hs
      by_cases c2 : j = i'
      · subst c2
        rw [List.getElem?_set_self hjl] at hs
        cases hs
        exact ⟨v, ev, rfl, iv, ex⟩
      · rw [List.getElem?_set_ne c2] at hs
        exact R1.sl i' s (by rw [List.getElem?_set_ne c]; exact hs)
  · have f : ∀ {k : Nat} {x : List Dat}, ((Γ.set j (some (.pin v d B))).set i (some (.pin (.ref p) (.lst ds) B')))[k]? = some (some (.mu x)) → (Γ.set i (some (.im (.lst ds))))[k]? = some (some (.mu x)) := fun {k x} h => by
      by_cases c : i = k
      · subst c
        rw [List.getElem?_set_self (by rw [List.length_set]; exact hil)] at h
        cases h
      · rw [List.getElem?_set_ne c] at h ⊢
        by_cases c2 : j = k
        · subst c2
          rw [List.getElem?_set_self hjl] at h
          cases h
        · rw [List.getElem?_set_ne c2] at h
          exact h
    exact R1.ap i' j' d1 d2 n (f e1) (f e2)
/-- the list held fast is appended to; what was known before it was made stands -/
theorem sb_giveBack (i j : Nat) {o : Expr} {pa pc ps pN : Pos} {jn} {Γ' : Sls} {v : V} {d : Dat} {p : Addr} {ds : List Dat} {B1 B2 : Hp} {xs : List V} (h1 : B1 p = none) (h2 : B2 p = some (.lst xs)) (hl : xs.length < 100000) (hi : Γ[i]? = some (some (.pin (.ref p) (.lst ds) B2)) := by rfl) (hj : Γ[j]? = some (some (.pin v d B1)) := by rfl)
    (hΓ : ∀ (k : Nat) (s : Sl), Γ'[k]? = some (some s) → (s = .im d ∧ k = j) ∨ ∃ t, s = .im (.str t) ∧ Γ[k]? = some (some (.im (.str t)))) (hlen : Γ'.length = Γ.length)
    (k : Sb A X rest Γ' { nx := fun _ => False, rt := fun _ => False, fin := ae.fin })
    (pe : PE X (.Call (.Attribute o "append" pa) [.Constant .none jn pN] [] pc) (tBM X.K "list" rAppend (tVar i) (wA X [.Constant .none jn pN])) := by exact pe_bm PySem.F.plainAttrs_list PySem.F.slot_list_append PySem.F.type_list_append mt_append (pv _) pa_w)
    (hs1 : starEach [.Constant .none jn pN] X.env = (false, eval (.Constant .none jn pN) X.env) :: starEach [] X.env := by rfl) (hs : swapsWith (.Call (.Attribute o "append" pa) [.Constant .none jn pN] [] pc) none ps.line X.env = pure false := by rfl) :
    Sb A X (.Expr (.Call (.Attribute o "append" pa) [.Constant .none jn pN] [] pc) ps :: rest) Γ ae := fun F D σ B H E R =>
  wB.cons (ps_expr pe hs) <| by
  obtain ⟨u, eu, rfl, iu, exu⟩ := R.sl i _ hi
  obtain ⟨w', ew, rfl, iw, exw⟩ := R.sl j _ hj
  have hHp : H p = some (.lst xs) := R.sub _ _ (exu _ _ h2)
  refine ⟨_, eu, .inl ⟨rfl, _, SqL.of hHp⟩, ea1 ev_non hs1 F σ B H R _ fun vs B' H' es pe' s R' iv => ?_⟩
  obtain ⟨z, rfl, rfl⟩ := pe'
  obtain ⟨y, rfl, iy⟩ := iv.one
  have hB' : B' p = some (.lst xs) := s.exB _ _ (exu _ _ h2)
  have hH' : H' p = some (.lst xs) := R'.sub _ _ hB'
  refine ⟨p, xs, y, rfl, rfl, hH', Nat.lt_of_lt_of_le hl (by decide), ?_⟩
  have ex1 : Ex B1 (upd H' p (.lst (xs ++ [y]))) := ((exw.trans s.exB).trans R'.sub).mut h1
  refine k ⟨none, B1, _⟩ D σ B1 _ ⟨fun _ _ _ _ z => z.elim, fun _ _ _ _ z => z.elim, fun _ _ _ _ _ z => z.elim, fun _ _ _ _ z => z.elim, fun _ _ _ _ z => z.elim, E.fin⟩ ⟨Stp.refl0 ex1, fun k' s' hs' => ?_, fun i' j' d1 d2 n e1 e2 => ?_, hlen.trans R.len⟩
  · rcases hΓ k' s' hs' with ⟨rfl, rfl⟩ | ⟨t, rfl, hk⟩
    · exact ⟨_, ew, iw⟩
    · obtain ⟨u, e, iu'⟩ := R.sl k' _ hk
      exact ⟨u, e, iu'⟩
  · rcases hΓ _ _ e1 with ⟨q, _⟩ | ⟨t, q, _⟩ <;> cases q
end
end K64
/-! Defs that run where the guards are known; the law's first pot. -/
namespace K64
open PySem L2
/-- a def's promise where no guard is about -/
structure FnG (P : Program) (w : World) (K : PySem.W.Frag) (mg : Str → Option Value) (base : Heap) (k : Nat) (f : Addr) (fd : FuncData) (ps : List Str) (sp : Sp) : Prop where
  go : ∀ (Ar : Around) (outer : List Env) (s : Shared) (H : Hp) (args : Args) (us : List Value) (vs : List V) (Q : VK) (E : XK), Ar.guards = some [] → Room k Ar → Env0 P w K mg base Ar outer s H → BindsTo s fd args (ps.zip us) → Vals vs us → sp vs H Q E →
    codeAny (model P w) Ar (.call (.ref f) args) (CR CX0 outer P w H s Q E) s
section
variable {P : Program} {w : World} {K : PySem.W.Frag} {mg : Str → Option Value} {base : Heap}
open PySem.Spec PyProof.Rows in
theorem fng {x qual : Str} {st : Stmt} {f : Addr} {fd : FuncData} {N ps : List Str} {k : Nat} {sp : Sp} (F : Fun K x qual st f fd) (S : FnScope N ps (defScope st)) (len : ∀ vs H Q E, sp vs H Q E → vs.length = ps.length)
    (body : ∀ (cdv : Value) (Ar : Around) (outer : List Env) (s : Shared) (H : Hp) (vs : List V) (Q : VK) (E : XK), Ar.guards = some [] → Room k (Ar.deeper (PyProof.Rows.envOfC qual (defScope st) s.heap.objs.size f cdv)) → sp vs H Q E →
      ∃ t, PSs (cxOf CX0 P w K mg base N qual (defScope st) f cdv Ar outer s H E) (defBody st) t ∧ t { nx := fun _ H1 => Q .non H1, rt := Q } (L2.start N vs) H) : FnG P w K mg base (k + 1) f fd ps sp := by
  obtain ⟨oc, od, kV, doc, pm, an, cdv, ct, osl, rfl, inK, code⟩ := F.ex
  refine ⟨fun Ar outer s H args us vs Q E hg room e0 bind rv hsp => ?_⟩
  have vlen := len _ _ _ _ hsp
  have kin : K.In s.heap := e0.mod.kin.keeps fun b o q => (e0.bs b o q).1
  have nolim : s.heap.NoLimit := e0.mod.nolimit.keeps fun b o q => (e0.bs b o q).1
  have kinds : ∀ y ∈ ps.zip us, (defScope st).names.lookup y.1 = some .local ∨ ((defScope st).names.lookup y.1 = some .cell ∧ ((cellsFrom (s.heap.objs.size + 1) (defScope st).names []).lookup y.1).isSome = true) := fun ⟨nm, v⟩ hy => by
    rcases S.par nm (List.of_mem_zip hy).1 with z | z
    · exact Or.inl z
    · exact Or.inr ⟨z, PySem.W.cellsFrom_some _ _ _ (.inl z)⟩
  refine codeAny_call_function room.depth (kin _ _ inK) rfl S.co S.gen rfl (PySem.W.codeRec_of kin code) (bind _ _ _ _ ?_)
  refine wpAny_newFunctionEnv_cells S.kind kinds fun env henv s1 incall => ?_
  subst henv
  refine ⟨nolim.keeps incall.toInCall.keep, codeAny_func ?_⟩
  obtain ⟨t, ps1, run⟩ := body cdv Ar outer s H vs Q E hg (room.deeper _) hsp
  have I0 : Inv (cxOf CX0 P w K mg base N qual (defScope st) f cdv Ar outer s H E) [] (L2.start N vs) H s1 := inv_start S room.hd e0 vlen rv incall
  refine wpAny_mono (ps1.run [] s1 (L2.start N vs) H _ I0 run) (fun flow s2 hs => ?_) fun e s2 hs => hs
  cases flow with
  | ret u =>
    obtain ⟨v, σ', H1, J, r1, q⟩ := hs
    exact ⟨v, H1, J.os, J.bare, J.base, J.hok, r1, q⟩
  | next =>
    obtain ⟨σ', H1, J, q⟩ := hs
    exact ⟨V.non, H1, J.os, J.bare, J.base, J.hok, rfl, q⟩
  | brk => exact hs.elim fun _ z => z.elim fun _ z => z.2.elim
  | cont => exact hs.elim fun _ z => z.elim fun _ z => z.2.elim
end
/-- f(e, ..), where no guard is about -/
theorem pe_callG {X : Cx} {k : Nat} {f : Addr} {fd : FuncData} {ps : List Str} {sp : Sp} {x : Str} {p pos : Pos} {e : Expr} {es : List Expr} {t : TA} (F : FnG X.prog X.w X.K X.mg X.base k f fd ps sp) (hlen : ∀ vs H Q E, sp vs H Q E → vs.length = ps.length) (hgd : X.A.guards = some []) (hr : Room k X.A) (hg : Gl X x) (hm : X.mg x = some (.ref f)) (hk : PySem.W.keepIn X.K (.ref f) = true) (hb : Binds X.K fd ps [])
    (ha : PA X (e :: es) t) (hdb : (x == ("__debug__" : Str)) = false := by decide) (he : starEach (e :: es) X.env = (false, eval e X.env) :: starEach es X.env := by rfl) (hpl : (backTo pos (starEach es X.env)).any (·.1) = false := by rfl) :
    PE X (.Call (.Name x p) (e :: es) [] pos) (fun σ H Q => t σ H fun vs H1 => sp vs H1 Q E0) := ⟨fun pins s σ H Q I h => by
  refine wpAny_Call_Name_kw (ld_glob I hg hm ?_ hdb)
  refine PySem.W.callWith_K (h₀ := X.base) I.ok.mod.kin hk (thn (ha.run pos pins s σ H _ I h) fun us s1 ⟨vs, H1, I1, rv, q⟩ => ⟨I1.kIn, ?_⟩) he hpl
  have l1 : us.length = ps.length := by rw [← rv.length]; exact hlen _ _ _ _ q
  have b1 := hb s1 us I1.kIn (by rw [List.append_nil]; exact l1)
  rw [List.append_nil] at b1
  refine wpAny_call (codeAny_mono (F.go X.A X.stack s1 H1 ⟨us, []⟩ us vs Q E0 hgd hr I1.env0 b1 rv q) fun r s' hq => ?_)
  cases r with
  | error e => exact hq.elim
  | ok fl =>
    cases fl with
    | ret u => exact I1.after hq
    | next => exact hq.elim
    | brk => exact hq.elim
    | cont => exact hq.elim⟩
/-! ### the first pot -/
def spPot (K : PySem.W.Frag) : Sp := fun vs H Q _ => ∃ (a : Addr) (ns : List Int), vs = [.ref a, .int 0] ∧ SqL K H a (ns.map V.int) ∧ ∀ (p : Addr) (H' : Hp), PotAt p H' → Q (.ref p) H'
section
variable {P : Program} {w : World} {K : PySem.W.Frag} {mg : Str → Option Value} {base : Heap} {A : Ad} {N : Addr} (T : Txt K mg A N)
include T
theorem f_law_pot : ∃ (f : Addr) (fd : FuncData), mg "_law_pot" = some (.ref f) ∧ PySem.W.keepIn K (.ref f) = true ∧ Binds K fd ["_law_script", "_law_k"] [] ∧ FnOk P w K mg base CX0 1 f fd ["_law_script", "_law_k"] (spPot K) := by
  obtain ⟨f, fd, F, hm, hb⟩ := T.d_law_pot.ex
  refine ⟨f, fd, hm, F.kp, hb, F.ok sc__law_pot (fun vs H Q E ⟨a, ns, e, _⟩ => by rw [e]; rfl) fun cdv A' outer s H vs Q E hr ⟨a, ns, e, hS, q⟩ => ?_⟩
  subst e
  have nd := sc__law_pot.nd
  have R0 : Rel A ⟨none, fun _ => none, H⟩ [none, some (.im (.int 0)), none] [some (.ref a), some (.int 0), none] (fun _ => none) H := by
    refine ⟨Stp.refl0 fun a o z => (nomatch z), fun i s hs => ?_, fun i j d1 d2 n e1 e2 => ?_, rfl⟩
    · match i, hs with
      | 1, hs => cases hs; exact ⟨.int 0, rfl, rfl⟩
      | i + 3, hs => simp at hs
    · match i, e1 with
      | i + 3, e1 => simp at e1
  have body : wB (cxOf CX0 P w K mg base n__law_pot "_law_pot" (defScope s__law_pot) f cdv A' outer s H E).nox (defBody s__law_pot) { nx := fun _ H' => Q .non H', rt := Q } [some (.ref a), some (.int 0), none] H := by
    refine wB.cons (ps_set (i := 2) nd rfl (Or.inl rfl) (pe_ifExp (pt_cmpR op_lt (pv 1) (pe_callB call_len_seq rfl T.b_len (by decide +kernel) (pa_cons (pv 0) pa_nil rfl) (by decide) (by decide) rfl rfl) (nomark _)) (pe_callB call_abs rfl T.b_abs (by decide +kernel) (pa_cons (pe_ix ix_list (pv 0) (pv 1) (fun _ _ => rfl)) pa_nil rfl) (by decide) (by decide) rfl rfl) pe_w) rfl (.inr rfl)) ?_
    have rest : ∀ (c : Int) (B' H' : Hp), 0 ≤ c → Rel A ⟨none, fun _ => none, H⟩ [none, some (.im (.int 0)), none] [some (.ref a), some (.int 0), none] B' H' → wB (cxOf CX0 P w K mg base n__law_pot "_law_pot" (defScope s__law_pot) f cdv A' outer s H E).nox (List.drop 1 (defBody s__law_pot)) { nx := fun _ H' => Q .non H', rt := Q } [some (.ref a), some (.int 0), some (.int c)] H' := fun c B' H' c0 R1 => by
      have R2 := R1.set (i := 2) (d := .int c) (v := .int c) rfl (by decide)
      have sb : Sb A (cxOf CX0 P w K mg base n__law_pot "_law_pot" (defScope s__law_pot) f cdv A' outer s H E).nox (List.drop 1 (defBody s__law_pot)) [none, some (.im (.int 0)), some (.im (.int c))] { nx := fun _ => False, rt := fun _ => False, rtN := fun ds => ∃ x y : Int, ds = [.int x, .int y] ∧ 0 ≤ x ∧ 0 ≤ y ∧ y < 2147483648 } := by
        refine sb_retN (en_lst (ea2 (P1 := PI' fun x => 0 ≤ x) (P2 := PI' fun y => 0 ≤ y ∧ y < 2147483648) ((ev_max (i := 0) T.b_max ev_int (ev_sub (ev_v (d := .int c) 2) (ev_pow (i := 10) (j := 18) ev_int ev_int ⟨by decide, by decide, by decide⟩))).imp fun z h => ⟨_, h, ?_⟩) ?_) fun ds h => ?_) fun ds h => ?_
        · split <;> omega
        · refine ei_add (p := fun i => 0 ≤ i ∧ i < 2147483563) (q := fun j => j = 1) (ei_mod (p := fun _ => True) (q := fun j => j = 2147483563) (ei_int T.b_int (ei_add (p := fun _ => True) (q := fun _ => True) (ei_add (p := fun _ => True) (q := fun _ => True) (ei_mul (p := fun i => 0 ≤ i ∧ i < 2147483549) (q := fun j => j = 48271) 31 31 (ei_mod (p := fun _ => True) (q := fun j => j = 2147483549) (ei_int T.b_int (ei_of (ev_v (d := .int c) 2) trivial)) (ei_c rfl) fun i j _ h => ?_) (ei_c rfl) fun i j h1 h2 => ⟨by omega, by omega, trivial⟩) (ei_mul (p := fun i => i = 23446) (q := fun j => j = 0) 31 31 (ei_c rfl) (ei_of (ev_v (d := .int 0) 1) rfl) fun i j h1 h2 => ⟨by omega, by omega, trivial⟩) fun _ _ _ _ => trivial) (ei_c trivial) fun _ _ _ _ => trivial)) (ei_c rfl) fun i j _ h => ?_) (ei_c rfl) fun i j h1 h2 => by omega
          · subst h
            exact ⟨by decide, Int.emod_nonneg i (by decide), Int.emod_lt_of_pos i (by decide)⟩
          · subst h
            exact ⟨by decide, Int.emod_nonneg i (by decide), Int.emod_lt_of_pos i (by decide)⟩
        · obtain ⟨d, d', rfl, _⟩ := h
          show 2 ≤ sizeLine
          decide
        · obtain ⟨d, d', rfl, ⟨x, rfl, hx⟩, ⟨y, rfl, hy⟩⟩ := h
          exact ⟨x, y, rfl, hx, hy⟩
      refine sb ⟨none, fun _ => none, H⟩ _ _ B' H' ⟨fun _ _ _ _ z => z.elim, fun _ _ _ _ z => z.elim, fun ds p xs B2 H2 hd s2 _ h0 h1 h2 h3 => ?_, fun _ _ _ _ z => z.elim, fun _ _ _ _ z => z.elim, fun _ _ z => z.elim⟩ R2
      obtain ⟨x, y, rfl, hx, hy⟩ := hd
      obtain ⟨v1, v2, rfl, i1, i2⟩ := h3.two
      cases i1
      cases i2
      exact q p H2 ⟨x, y, h2, hx, hy⟩
    refine ⟨_, rfl, _, rfl, a, _, rfl, .inl hS, 0, ((ns.map V.int).length : Nat), rfl, rfl, _, rfl, ?_⟩
    by_cases hl : (0 : Int) < ((ns.map V.int).length : Nat)
    · rw [decide_eq_true hl]
      have hn : ∃ i ns', ns = i :: ns' := by
        cases ns with
        | nil => simp at hl
        | cons i ns' => exact ⟨i, ns', rfl⟩
      obtain ⟨i, ns', rfl⟩ := hn
      refine ⟨_, rfl, _, rfl, a, _, 0, .int i, rfl, rfl, hS, (show atI ((i :: ns').map V.int) ((0 : Nat) : Int) = _ from atI_n rfl), i, rfl, ?_⟩
      exact rest _ _ H (by split <;> omega) R0
    · rw [decide_eq_false hl]
      refine (ev_add (A := A) (i := 607 * 0) (j := 491) (ev_mul 31 31 (i := 607) (j := 0) ev_int (ev_v (d := .int 0) 1) (by decide) (by decide)) ev_int) ⟨none, fun _ => none, H⟩ _ _ H R0 _ fun v B' H' d hd s' R' iv => ?_
      subst hd
      cases iv
      exact rest 491 B' H' (by decide) R'
  obtain ⟨t, h1, h2⟩ := body
  exact ⟨t, h1, h2⟩
end
end K64
/-! The law itself. -/
namespace K64
open PySem L2
/-! ### the values that are asked -/
def ItOk (d : Dat) : Prop := KV d ∧ AtomOk d
def VOk (d : Dat) : Prop := ValOk d ∧ RepOk d
theorem vok_lst {ds : List Dat} (hl : ds.length ≤ 100) (h : ∀ d ∈ ds, ItOk d) : VOk (.lst ds) := ⟨⟨trivial, fun es he => by cases he; exact ⟨by omega, fun x hx => (h x hx).1⟩⟩, hl, fun d hd => (h d hd).2⟩
theorem vok_tup {ds : List Dat} (hl : ds.length ≤ 100) (h : ∀ d ∈ ds, ItOk d) : VOk (.tup ds) := ⟨⟨trivial, fun es he => by cases he; exact ⟨by omega, fun x hx => (h x hx).1⟩⟩, hl, fun d hd => (h d hd).2⟩
theorem ten60 {n : Nat} (h : n ≤ 1000) : n < 10 ^ 60 := Nat.lt_of_le_of_lt h (by decide)
theorem it_int {i : Int} (h : i.natAbs ≤ 2) : ItOk (.int i) := ⟨⟨trivial, fun _ => ⟨trivial, Int.one_pos, one4, by show (4 / 1 * i).natAbs ≤ 8; have : (4 : Int) / 1 = 4 := rfl; rw [this]; omega⟩⟩, ten60 (by omega)⟩
theorem it_bl (b : Bool) : ItOk (.bl b) := ⟨⟨trivial, fun h => h.elim⟩, trivial⟩
theorem it_one : ItOk (.str "1") := ⟨⟨trivial, fun h => h.elim⟩, by show (reprText "1").length ≤ 4000; decide +kernel⟩
theorem it_rat {t b : Int} (h0 : 0 < b) (h4 : b ∣ 4) (h : (wD (.rat t b)).natAbs ≤ 8) (ht : t.natAbs ≤ 1000) : ItOk (.rat t b) := ⟨⟨trivial, fun _ => ⟨trivial, h0, h4, h⟩⟩, ten60 ht, ten60 (by have := dvd4 h0 h4; omega)⟩
theorem it_drawn {d : Dat} (h : d ∈ drawnD) : ItOk d := by
  have hm : d = .int 0 ∨ d = .int 0 ∨ d = .int 1 ∨ d = .int (-1) ∨ d = .int 2 ∨ d = .rat 1 2 ∨ d = .rat (-3) 4 := by simpa [drawnD] using h
  rcases hm with e | e | e | e | e | e | e <;> subst e
  · exact it_int (by decide)
  · exact it_int (by decide)
  · exact it_int (by decide)
  · exact it_int (by decide)
  · exact it_int (by decide)
  · exact it_rat (by decide) ⟨2, rfl⟩ (by decide) (by decide)
  · exact it_rat (by decide) ⟨1, rfl⟩ (by decide) (by decide)
section
variable {n : Nat} {own : Own}
theorem told_len : (toldL n own).length = own.length := by unfold toldL; rw [List.length_map, List.length_range]
theorem told_at {i : Nat} (h : i < own.length) : (toldL n own)[i]? = some (.rat (if i ∈ lot0 n own then 1 else 0) 1) := by
  unfold toldL
  rw [List.getElem?_map, List.getElem?_range h]
  rfl
theorem it_told {d : Dat} (h : d ∈ toldL n own) : (∃ t, d = .rat t 1) ∧ ItOk d := by
  obtain ⟨i, _, rfl⟩ := List.mem_map.mp h
  refine ⟨⟨_, rfl⟩, ?_⟩
  split
  · exact it_rat (by decide) one4 (by decide) (by decide)
  · exact it_rat (by decide) one4 (by decide) (by decide)
theorem told_due (n : Nat) (own : Own) : dueB n own (.lst (toldL n own)) = true := by
  have hA : areB (.lst (toldL n own)) own.length = true := by
    show (decide ((toldL n own).length = own.length) && (toldL n own).all isNumB) = true
    rw [told_len, decide_eq_true rfl, Bool.true_and]
    refine List.all_eq_true.mpr fun d hd => ?_
    obtain ⟨⟨t, rfl⟩, _⟩ := it_told hd
    rfl
  rw [dueB_is hA rfl]
  refine decide_eq_true ?_
  have w : ∀ i, i < own.length → wL (toldL n own) i = if i ∈ lot0 n own then 4 else 0 := fun i hi => by
    rw [wL_at (told_at hi)]
    by_cases c : i ∈ lot0 n own
    · rw [if_pos c, if_pos c]; rfl
    · rw [if_neg c, if_neg c]; rfl
  have := rkT_free (c := wL (toldL n own)) (lot0_free n own) (lot0_lt n own) (fun i hi => by rw [w i (lot0_lt n own i hi), if_pos hi]; decide) (fun i hi hn => by rw [w i hi, if_neg hn])
  rw [this, lot0_len]
noncomputable def valsD (n : Nat) (own : Own) : List Dat := [.non, .int 0, .str "", .dic, .lst [], .tup [], .lst (toldL n own), .tup (toldL n own), .lst (toldL n own ++ [.int 1]), .lst (cutD (toldL n own) (some 1) none),
  .lst (List.replicate own.length (.int 0)), .lst (List.replicate own.length (.int 1)), .lst (List.replicate own.length (.bl true)), .lst (List.replicate own.length (.str "1"))]
theorem vals_ok (h5 : own.length ≤ 5) : ∀ d ∈ valsD n own, VOk d := fun d hd => by
  have tl : (toldL n own).length ≤ 100 := by rw [told_len]; omega
  have rep : ∀ {x : Dat}, ItOk x → VOk (.lst (List.replicate own.length x)) := fun {x} hx => vok_lst (by rw [List.length_replicate]; omega) fun y hy => by rw [(List.mem_replicate.mp hy).2]; exact hx
  have hm : d = .non ∨ d = .int 0 ∨ d = .str "" ∨ d = .dic ∨ d = .lst [] ∨ d = .tup [] ∨ d = .lst (toldL n own) ∨ d = .tup (toldL n own) ∨ d = .lst (toldL n own ++ [.int 1]) ∨ d = .lst (cutD (toldL n own) (some 1) none) ∨ d = .lst (List.replicate own.length (.int 0)) ∨ d = .lst (List.replicate own.length (.int 1)) ∨ d = .lst (List.replicate own.length (.bl true)) ∨ d = .lst (List.replicate own.length (.str "1")) := by simpa [valsD] using hd
  have none' : ∀ {x : Dat}, Kl x → itemsD x = none → RepOk x → VOk x := fun h1 h2 h3 => ⟨⟨h1, fun es he => by rw [h2] at he; cases he⟩, h3⟩
  rcases hm with e | e | e | e | e | e | e | e | e | e | e | e | e | e <;> subst e
  · exact none' trivial rfl trivial
  · exact none' trivial rfl (ten60 (by decide))
  · exact none' trivial rfl (by show (reprText "").length ≤ 4000; decide +kernel)
  · exact none' trivial rfl trivial
  · exact vok_lst (Nat.zero_le _) fun _ h => nomatch h
  · exact vok_tup (Nat.zero_le _) fun _ h => nomatch h
  · exact vok_lst tl fun x hx => (it_told hx).2
  · exact vok_tup tl fun x hx => (it_told hx).2
  · refine vok_lst (by rw [List.length_append, told_len]; show own.length + 1 ≤ 100; omega) fun x hx => ?_
    rcases List.mem_append.mp hx with h | h
    · exact (it_told h).2
    · rw [(by simpa using h : x = .int 1)]; exact it_int (by decide)
  · refine vok_lst (Nat.le_trans (cut_lens _ _) tl) fun x hx => ?_
    unfold cutD at hx
    exact (it_told (List.mem_of_mem_drop (List.mem_of_mem_take hx))).2
  · exact rep (it_int (by decide))
  · exact rep (it_int (by decide))
  · exact rep (it_bl true)
  · exact rep it_one
end
/-! ### pairs from what is given -/
section
variable {A : Ad} {X : Cx} {Γ : Sls} {pos p : Pos} {a b : Expr} {j : Nat} {N : Addr} (T : Txt X.K X.mg A N)
include T
theorem ev_Pr {n : Nat} {own : Own} (hr : Room j X.A) (ha : Ev A X a Γ (fun z => z = .int (n : Nat))) (hb : Ev A X b Γ (fun z => ∃ ps, z = .lst ps ∧ Fa2 PairOf own ps)) (ok : OwnOk n own) (hk : 8 ≤ j := by decide) (hg : Gl X "Pairs" := by rfl)
    (h1 : starEach [a, b] X.env = (false, eval a X.env) :: starEach [b] X.env := by rfl) (h2 : starEach [b] X.env = (false, eval b X.env) :: starEach [] X.env := by rfl) (hpl : (backTo pos (starEach [b] X.env)).any (·.1) = false := by rfl) : Ev A X (.Call (.Name "Pairs" p) [a, b] [] pos) Γ (fun z => PrsOf n own z) :=
  ev_make (c_P T) hr (ea2 ha hb h1 h2) (fun ds ⟨d, e, h1, h2, ps, h3, hps⟩ => by
    subst h1; subst h2; subst h3
    refine ⟨⟨_, _, rfl, n, own, ps, rfl, rfl, ok, hps⟩, fun fs ⟨_, _, g1, g2⟩ => ?_⟩
    cases g1
    obtain ⟨zs, rfl, hz⟩ := g2 n own ps rfl rfl hps ok
    refine ⟨.prs (.lst (own.map pairQ)) (.int (n : Nat)) (.lst zs), ⟨zs, rfl, hz⟩, fun B p dx gs q1 q2 => ?_⟩
    obtain ⟨v1, r1, rfl, i1, v2, r2, rfl, i2, v3, r3, rfl, i3, q3⟩ := q2
    cases q3
    exact ⟨p, dx, v1, v2, v3, rfl, q1, i1, i2, i3⟩) hk hg (by decide) h1 hpl
end
def sizesD : List Dat := [.int 0, .int 1, .int 2, .int 3, .int 4, .int 4, .int 5, .int 6]
def spRight : Sp := fun vs H Q _ => ∃ p : Addr, vs = [.ref p] ∧ PotAt p H ∧ ∀ H' : Hp, Q (.bl true) H'
section
variable {P : Program} {w : World} {K : PySem.W.Frag} {mg : Str → Option Value} {base : Heap} {A : Ad} {N : Addr} (T : Txt K mg A N)
include T
theorem law_right_body (f : Addr) (cdv : Value) (Ar : Around) (outer : List Env) (s : Shared) (H : Hp) (E : XK) (hgd : Ar.guards = some []) (hr : Room 9 (Ar.deeper (PyProof.Rows.envOfC "_law_right" (defScope s__law_right) s.heap.objs.size f cdv))) :
    Sb A (cxOf CX0 P w K mg base n__law_right "_law_right" (defScope s__law_right) f cdv Ar outer s H E).nox (defBody s__law_right) [some .pot, none, none, none, none, none, none, none, none, none, none, none] { nx := fun _ => False, rt := fun _ => False, fin := fun v => v = .bl true } := by
  have nd := sc__law_right.nd
  have M := m_repr (P := P) (w := w) (base := base) T
  -- the size
  refine sb_set 1 (P := fun z => z ∈ sizesD) (ev_cP1 (k := 2) (Pr := fun d => d = .lst sizesD) (R := fun d z => z ∈ sizesD) (c_law_pick T sizesD (show 0 < 8 by decide) (show 8 < 1000000 by decide)) hr (d1 := .lst sizesD) (EvN.ev (en_lst (ea_cons (ev_int (i := 0)) (ea_cons (ev_int (i := 1)) (ea_cons (ev_int (i := 2)) (ea_cons (ev_int (i := 3)) (ea_cons (ev_int (i := 4)) (ea_cons (ev_int (i := 4)) (ea_cons (ev_int (i := 5)) (ea_cons (ev_int (i := 6)) ea_nil)))))))) fun ds h => ?_) fun ds h => ?_) rfl fun z h => h) (fun d hd => ?_)
  · obtain ⟨_, _, rfl, rfl, _, _, rfl, rfl, _, _, rfl, rfl, _, _, rfl, rfl, _, _, rfl, rfl, _, _, rfl, rfl, _, _, rfl, rfl, _, _, rfl, rfl, rfl⟩ := h
    show 8 ≤ sizeLine
    decide
  · obtain ⟨_, _, rfl, rfl, _, _, rfl, rfl, _, _, rfl, rfl, _, _, rfl, rfl, _, _, rfl, rfl, _, _, rfl, rfl, _, _, rfl, rfl, _, _, rfl, rfl, rfl⟩ := h
    rfl
  have size : ∃ n : Nat, d = .int (n : Nat) ∧ n ≤ 6 := by
    have hm : d = .int 0 ∨ d = .int 1 ∨ d = .int 2 ∨ d = .int 3 ∨ d = .int 4 ∨ d = .int 4 ∨ d = .int 5 ∨ d = .int 6 := by simpa [sizesD] using hd
    rcases hm with e | e | e | e | e | e | e | e
    · exact ⟨0, e, by decide⟩
    · exact ⟨1, e, by decide⟩
    · exact ⟨2, e, by decide⟩
    · exact ⟨3, e, by decide⟩
    · exact ⟨4, e, by decide⟩
    · exact ⟨4, e, by decide⟩
    · exact ⟨5, e, by decide⟩
    · exact ⟨6, e, by decide⟩
  obtain ⟨n, rfl, n6⟩ := size
  refine (show Sb A _ _ [some .pot, some (.im (.int (n : Nat))), none, none, none, none, none, none, none, none, none, none] _ from ?_)
  -- the pairs
  refine sb_set 2 (P := fun z => ∃ own : Own, z = ownD own ∧ OwnOk n own) (ev_callP (c_law_pairs T) hr (ea2 (P2 := fun z => ∃ r, z = .int r ∧ 0 ≤ r ∧ r < 6) (ev_v (d := .int (n : Nat)) 1) (ev_cP1 (c_law_draw T) hr (d1 := .int 6) ev_int ⟨6, rfl, by decide, by decide⟩ fun z ⟨m', r, e1, e2, e3⟩ => by injection e1 with e1; subst e1; exact ⟨r, e2, e3⟩)) fun ds hds => ?_) (fun d hd => ?_)
  · obtain ⟨d, d', rfl, rfl, r, rfl, r0, r6⟩ := hds
    have er : r = ((r.toNat : Nat) : Int) := by omega
    refine ⟨⟨_, _, rfl, n, r.toNat, rfl, by rw [← er], n6, by omega⟩, fun z ⟨_, _, q1, q2⟩ => ?_⟩
    cases q1
    obtain ⟨own, e1, e2, _⟩ := q2 n r.toNat rfl (by rw [← er])
    exact ⟨own, e1, e2⟩
  obtain ⟨own, rfl, ok⟩ := hd
  have l5 := ok.l8
  refine (show Sb A _ _ [some .pot, some (.im (.int (n : Nat))), some (.im (ownD own)), none, none, none, none, none, none, none, none, none] _ from ?_)
  refine sb_par 3 4 (P1 := PrsOf n own) (P2 := fun z => z = .int (gnum n own : Nat)) (ev_Pr T hr (ev_v 1 rfl) (ev_cP1 (c_law_given T) hr (d1 := ownD own) (ev_v 2) ⟨n, own, rfl, ok⟩ fun z h => h own rfl) ok) (ev_c1 (c_law_greatest T ok) hr (d1 := ownD own) (ev_v 2) rfl fun z h => h) (fun prs d' hprs h2 => ?_)
  subst h2
  refine (show Sb A _ _ [some .pot, some (.im (.int (n : Nat))), some (.im (ownD own)), some (.im prs), some (.im (.int (gnum n own : Nat))), none, none, none, none, none, none, none] _ from ?_)
  -- the told numbers
  refine sb_setN 5 (PN := fun z => z = toldL n own) (en_c1 (c_trial_numbers T ok) hr (ev_v 3 rfl) hprs fun z h => h) (fun ds h => ?_)
  subst h
  refine sb_lend 5 3 (ds := toldL n own) (d := prs) (k := fun v p B1 B2 xs hB1 hB2 hxl => ?_)
  refine (show Sb A _ _ [some .pot, some (.im (.int (n : Nat))), some (.im (ownD own)), some (.pin v prs B1), some (.im (.int (gnum n own : Nat))), some (.pin (.ref p) (.lst (toldL n own)) B2), none, none, none, none, none, none] _ from ?_)
  have toldV : VOk (.lst (toldL n own)) := vok_lst (by rw [told_len]; omega) fun x hx => (it_told hx).2
  have hlen : ∀ z, z = ownD own → lenD z = some own.length := fun z h => by rw [h]; show some (own.map _).length = _; rw [List.length_map]
  refine sb_skip (EvW.t (ew_or (k := false) (l := false) (et_not (k := true) (et_v (ev_isLst (.lst (toldL n own)) true T.tR T.tP T.b_isinstance (ev_pin 5) T.b_list (kit_ty (by decide +kernel))))) (fun _ => ew_or (k := false) (l := false) (et_not (k := true) (et_v ((ev_all (bs := (toldL n own).map fun _ => true) T.b_all (EvN.ev (en_map [("_law_number_here", 11)] (fun _ => .bl true) (ds := toldL n own) (wk_list (ev_pin 5)) (fun x hx => ?_) (by rw [told_len]; omega) (own1 rfl)) fun ds h => by rw [h, List.map_map]; rfl)).imp fun z h => by rw [h]; simp))) (fun _ => ew_or1 (et_not (k := true) (et_v (ev_c4 (c_law_is_trial T ok) hr (d1 := ownD own) (d2 := .int (n : Nat)) (d3 := .int (gnum n own : Nat)) (d4 := .lst (toldL n own)) (ev_v 2) (ev_v 1) (ev_v 4) (ev_pin 5) ⟨rfl, rfl, rfl, toldV.1⟩ fun z h => by rw [h, told_due]))))))) ?_
  · obtain ⟨⟨t, rfl⟩, _⟩ := it_told hx
    exact ⟨_, [11], by decide, fun s H C cl fp => tg_name 11, fun s H C cl fp => ev_isC (d := .rat t 1) T.tR T.tP T.b_isinstance (ev_v 11) T.gR (kitRR T)⟩
  -- the values
  have lenE : ∀ {pn pp pos : Pos}, Ev A (cxOf CX0 P w K mg base n__law_right "_law_right" (defScope s__law_right) f cdv Ar outer s H E).nox (.Call (.Name "len" pn) [.Name "_law_own" pp] [] pos) [some .pot, some (.im (.int (n : Nat))), some (.im (ownD own)), some (.pin v prs B1), some (.im (.int (gnum n own : Nat))), some (.pin (.ref p) (.lst (toldL n own)) B2), none, none, none, none, none, none] (fun z => z = .int (own.length : Nat)) := ev_len (n := own.length) T.b_len (ev_v 2 rfl) hlen
  have one : ∀ {x : Dat} {e : Expr} {pp : Pos}, Ev A (cxOf CX0 P w K mg base n__law_right "_law_right" (defScope s__law_right) f cdv Ar outer s H E).nox e [some .pot, some (.im (.int (n : Nat))), some (.im (ownD own)), some (.pin v prs B1), some (.im (.int (gnum n own : Nat))), some (.pin (.ref p) (.lst (toldL n own)) B2), none, none, none, none, none, none] (fun z => z = x) →
      starEach [e] (cxOf CX0 P w K mg base n__law_right "_law_right" (defScope s__law_right) f cdv Ar outer s H E).nox.env = (false, eval e (cxOf CX0 P w K mg base n__law_right "_law_right" (defScope s__law_right) f cdv Ar outer s H E).nox.env) :: starEach [] (cxOf CX0 P w K mg base n__law_right "_law_right" (defScope s__law_right) f cdv Ar outer s H E).nox.env →
      Ev A (cxOf CX0 P w K mg base n__law_right "_law_right" (defScope s__law_right) f cdv Ar outer s H E).nox (.List [e] pp) [some .pot, some (.im (.int (n : Nat))), some (.im (ownD own)), some (.pin v prs B1), some (.im (.int (gnum n own : Nat))), some (.pin (.ref p) (.lst (toldL n own)) B2), none, none, none, none, none, none] (fun z => z = .lst [x]) := fun {x e pp} he hs => EvN.ev (en_lst (ea1 he hs) fun ds h => by obtain ⟨d, rfl, _⟩ := h; show 1 ≤ sizeLine; decide) fun ds h => by obtain ⟨d, rfl, rfl⟩ := h; rfl
  have told_le : (toldL n own).length ≤ 5 := by rw [told_len]; exact l5
  refine sb_setN 6 (PN := fun z => z = valsD n own) ((en_lst (ea_cons (P := fun z => z = .non) ev_non (ea_cons (P := fun z => z = .int 0) ev_int (ea_cons (P := fun z => z = .str "") ev_str (ea_cons (P := fun z => z = .dic) ev_dic
    (ea_cons (P := fun z => z = .lst []) (EvN.ev (en_lst ea_nil fun ds h => by rw [h]; exact Nat.zero_le _) fun ds h => by rw [h]) (ea_cons (P := fun z => z = .tup []) ((ev_tup ea_nil fun ds h => by rw [h]; exact Nat.zero_le _).imp fun z ⟨ds, h1, h2⟩ => by rw [h2, h1])
    (ea_cons (P := fun z => z = .lst (toldL n own)) (ev_pin 5) (ea_cons (P := fun z => z = .tup (toldL n own)) (ev_tuple (d := .lst (toldL n own)) T.b_tuple (ev_pin 5) rfl)
    (ea_cons (P := fun z => z = .lst (toldL n own ++ [.int 1])) (EvN.ev (en_cat (ds := toldL n own) (es' := [.int 1]) (ev_pin 5) (one ev_int rfl) (Nat.le_trans (show _ ≤ 6 by show (toldL n own).length + 1 ≤ 6; omega) (by decide))) fun ds h => by rw [h])
    (ea_cons (P := fun z => z = .lst (cutD (toldL n own) (some 1) none)) (EvN.ev (en_slice (ds := toldL n own) (ev_pin 5) (eo_some ev_int) eo_none) fun ds h => by rw [h])
    (ea_cons (P := fun z => z = .lst (List.replicate own.length (.int 0))) (EvN.ev (en_rep (one ev_int rfl) lenE (by omega)) fun ds h => by rw [h])
    (ea_cons (P := fun z => z = .lst (List.replicate own.length (.int 1))) (EvN.ev (en_rep (one ev_int rfl) lenE (by omega)) fun ds h => by rw [h])
    (ea_cons (P := fun z => z = .lst (List.replicate own.length (.bl true))) (EvN.ev (en_rep (one ev_bl rfl) lenE (by omega)) fun ds h => by rw [h])
    (ea_cons (P := fun z => z = .lst (List.replicate own.length (.str "1"))) (EvN.ev (en_rep (one ev_str rfl) lenE (by omega)) fun ds h => by rw [h]) ea_nil)))))))))))))) fun ds h => ?_).imp fun ds h => ?_) (fun ds h => ?_)
  · obtain ⟨_, _, rfl, rfl, _, _, rfl, rfl, _, _, rfl, rfl, _, _, rfl, rfl, _, _, rfl, rfl, _, _, rfl, rfl, _, _, rfl, rfl, _, _, rfl, rfl, _, _, rfl, rfl, _, _, rfl, rfl, _, _, rfl, rfl, _, _, rfl, rfl, _, _, rfl, rfl, _, _, rfl, rfl, rfl⟩ := h
    show 14 ≤ sizeLine
    decide
  · obtain ⟨_, _, rfl, rfl, _, _, rfl, rfl, _, _, rfl, rfl, _, _, rfl, rfl, _, _, rfl, rfl, _, _, rfl, rfl, _, _, rfl, rfl, _, _, rfl, rfl, _, _, rfl, rfl, _, _, rfl, rfl, _, _, rfl, rfl, _, _, rfl, rfl, _, _, rfl, rfl, _, _, rfl, rfl, rfl⟩ := h
    rfl
  subst h
  have vok := vals_ok (n := n) (own := own) l5
  refine (show Sb A _ _ [some .pot, some (.im (.int (n : Nat))), some (.im (ownD own)), some (.pin v prs B1), some (.im (.int (gnum n own : Nat))), some (.pin (.ref p) (.lst (toldL n own)) B2), some (.mu (valsD n own)), none, none, none, none, none] _ from ?_)
  refine sb_for (ds := rng 0 2) (wk_range1 (j := 2) ev_int (by decide) (by decide) T.b_range) (fun k Γ' => ∃ (vs : List Dat) (x : Option Sl), Γ' = [some .pot, some (.im (.int (n : Nat))), some (.im (ownD own)), some (.pin v prs B1), some (.im (.int (gnum n own : Nat))), some (.pin (.ref p) (.lst (toldL n own)) B2), some (.mu vs), x, none, none, none, none] ∧ (∀ d ∈ vs, VOk d) ∧ vs.length = 14 + k) ⟨valsD n own, none, rfl, vok, rfl⟩ ?_ ?_
  · rintro k d _ hd ⟨vs, x, rfl, h1, h2⟩
    have hk := (rng_at hd).1
    refine ⟨_, _, tg_name 7, ?_⟩
    refine sb_append 6 (ds := vs) (P := VOk) (ev_cP1 (c_law_drawn T) hr (d1 := .int (own.length : Nat)) (ev_len (n := own.length) T.b_len (ev_v (d := ownD own) 2) hlen) ⟨_, rfl, by omega⟩ fun z h => ?_) (fun z h => ?_) (by omega)
    · obtain ⟨ds, rfl, q1, q2⟩ := h own.length rfl
      exact vok_lst (by omega) fun y hy => it_drawn (q2 y hy)
    · refine sb_nil ⟨vs ++ [z], some (.im d), rfl, fun y hy => ?_, ?_⟩
      · rcases List.mem_append.mp hy with q | q
        · exact h1 y q
        · rw [(by simpa using q : y = z)]; exact h
      · rw [List.length_append, h2]; rfl
  rintro _ ⟨vs, x7, rfl, h1, _⟩
  refine sb_freeze 6 (ds := vs) (k := ?_)
  refine sb_for (ds := vs) (wk_list (ev_v 6)) (fun k Γ' => ∃ x8 x9 x10 : Option Sl, Γ' = [some .pot, some (.im (.int (n : Nat))), some (.im (ownD own)), some (.pin v prs B1), some (.im (.int (gnum n own : Nat))), some (.pin (.ref p) (.lst (toldL n own)) B2), some (.im (.lst vs)), x7, x8, x9, x10, none]) ⟨none, none, none, rfl⟩ ?_ ?_
  · rintro k d _ hd ⟨x8, x9, x10, rfl⟩
    have hv := h1 d (List.mem_of_getElem? hd)
    refine ⟨_, _, tg_name 8, ?_⟩
    refine sb_par 9 10 (P1 := fun z => z = .str (reprS d)) (P2 := fun z => z = .bl (dueB n own d)) (ev_repr M hr hgd T.b_repr (ev_v (d := d) 8) hv.2) (ev_c4 (c_law_is_trial T ok) hr (d1 := ownD own) (d2 := .int (n : Nat)) (d3 := .int (gnum n own : Nat)) (d4 := d) (ev_v 2) (ev_v 1) (ev_v 4) (ev_v 8) ⟨rfl, rfl, rfl, hv.1⟩ fun z h => h) (fun d1 d2 e1 e2 => ?_)
    subst e1 e2
    refine (show Sb A _ _ [some .pot, some (.im (.int (n : Nat))), some (.im (ownD own)), some (.pin v prs B1), some (.im (.int (gnum n own : Nat))), some (.pin (.ref p) (.lst (toldL n own)) B2), some (.im (.lst vs)), x7, some (.im d), some (.im (.str (reprS d))), some (.im (.bl (dueB n own d))), none] _ from ?_)
    have two : RepOk (.lst [.bl (dueB n own d), .bl (dueB n own d)]) := ⟨show 2 ≤ 100 by decide, fun y hy => by
      have : y = .bl (dueB n own d) := by simpa using hy
      rw [this]; trivial⟩
    refine sb_skip (EvW.t (ew_or (k := false) (l := false) ((et_neS (s := reprS (.lst [.bl (dueB n own d), .bl (dueB n own d)])) (t := reprS (.lst [.bl (dueB n own d), .bl (dueB n own d)])) (ev_repr M hr hgd T.b_repr (EvN.ev (en_lst (ea2 (P1 := fun z => z = .bl (dueB n own d)) (P2 := fun z => z = .bl (dueB n own d)) (ev_c2 (c_is_trial T ok) hr (d1 := prs) (d2 := d) (ev_pin 3) (ev_v 8) ⟨hprs, hv.1⟩ fun z h => h) (ev_is_trialK T ok (v := d) (d := prs) hr (ev_v 8) (ev_pin 3) hprs hv.1)) fun ds h => by obtain ⟨d, d', rfl, _⟩ := h; show 2 ≤ sizeLine; decide) fun ds h => by obtain ⟨d, d', rfl, rfl, rfl⟩ := h; rfl) two)
      (ev_repr M hr hgd T.b_repr (EvN.ev (en_rep (d := .bl (dueB n own d)) (n := 2) (EvN.ev (en_lst (ea1 (P1 := fun z => z = .bl (dueB n own d)) (ev_v 10)) fun ds h => by obtain ⟨d, rfl, _⟩ := h; show 1 ≤ sizeLine; decide) fun ds h => by obtain ⟨d, rfl, rfl⟩ := h; rfl) (ev_int (i := 2)) (by decide)) fun ds h => by rw [h]; rfl) two)).imp fun z h => by rw [h, decide_eq_true rfl]; rfl) (fun _ => ew_or1 ((et_neS (s := reprS d) (t := reprS d) (ev_repr M hr hgd T.b_repr (ev_v 8) hv.2) (ev_v 9)).imp fun z h => by rw [h, decide_eq_true rfl]; rfl)))) ?_
    exact sb_nil ⟨_, _, _, rfl⟩
  rintro _ ⟨x8, x9, x10, rfl⟩
  -- the told list is changed; new ones are told
  refine sb_set 9 (P := fun z => z = .str (reprS (.lst (toldL n own)))) (ev_repr M hr hgd T.b_repr (ev_pin 5) toldV.2) (fun d hd => ?_)
  subst hd
  refine sb_giveBack 5 3 (Γ' := [none, none, none, some (.im prs), none, none, none, none, none, some (.im (.str (reprS (.lst (toldL n own))))), none, none]) (v := v) (d := prs) (p := p) (ds := toldL n own) hB1 hB2 (by omega) (hΓ := fun k s' hs => ?_) (hlen := rfl) (k := ?_)
  · match k, hs with
    | 3, hs => cases hs; exact .inl ⟨rfl, rfl⟩
    | 9, hs => cases hs; exact .inr ⟨_, rfl, rfl⟩
    | k + 12, hs => simp at hs
  · refine sb_fin (v := .bl true) (d := .bl true) ((ev_eqS (s := reprS (.lst (toldL n own))) (t := reprS (.lst (toldL n own))) (ev_repr M hr hgd T.b_repr (EvN.ev (en_trialK T ok (d := prs) hr (ev_v 3) hprs) fun ds h => by rw [h]) toldV.2) (ev_v 9)).imp fun z h => by rw [h, decide_eq_true rfl]) (fun B u h => h) rfl
theorem f_law_right : ∃ (f : Addr) (fd : FuncData), mg "_law_right" = some (.ref f) ∧ PySem.W.keepIn K (.ref f) = true ∧ Binds K fd ["_law_pot_here"] [] ∧ FnG P w K mg base 10 f fd ["_law_pot_here"] spRight := by
  obtain ⟨f, fd, F, hm, hb⟩ := T.d_law_right.ex
  refine ⟨f, fd, hm, F.kp, hb, fng F sc__law_right (fun vs H Q E ⟨p, e, _⟩ => by rw [e]; rfl) fun cdv Ar outer s H vs Q E hgd hr ⟨p, e, hp, q⟩ => ?_⟩
  subst e
  have sb := law_right_body (P := P) (w := w) (base := base) T f cdv Ar outer s H E hgd hr
  obtain ⟨t, h1, h2⟩ := sb ⟨some p, fun _ => none, H⟩ { nx := fun _ H' => Q .non H', rt := Q } (L2.start n__law_right [.ref p]) (fun _ => none) H
    ⟨fun _ _ _ _ z => z.elim, fun _ _ _ _ z => z.elim, fun _ _ _ _ _ z => z.elim, fun _ _ _ _ z => z.elim, fun _ _ _ _ z => z.elim, fun v' H' z => by rw [z]; exact q H'⟩
    (relP (N := n__law_right) (ds := []) (us := []) (fun a o z => nomatch z) rfl hp rfl (by decide))
  exact ⟨t, h1.nox, h2⟩
def spLaw (K : PySem.W.Frag) : Sp := fun vs H Q _ => ∃ (a : Addr) (ns : List Int), vs = [.ref a] ∧ SqL K H a (ns.map V.int) ∧ ∀ H' : Hp, Q (.bl true) H'
theorem f_law : ∃ (f : Addr) (fd : FuncData), mg "law" = some (.ref f) ∧ PySem.W.keepIn K (.ref f) = true ∧ Binds K fd ["_law_script"] [] ∧ Fun K "law" "law" s_law f fd ∧ FnG P w K mg base 11 f fd ["_law_script"] (spLaw K) := by
  obtain ⟨f, fd, F, hm, hb⟩ := T.d_law.ex
  refine ⟨f, fd, hm, F.kp, hb, F, fng F sc_law (fun vs H Q E ⟨a, ns, e, _⟩ => by rw [e]; rfl) fun cdv Ar outer s H vs Q E hgd hr ⟨a, ns, e, hS, q⟩ => ?_⟩
  subst e
  obtain ⟨g, gd, gm, gk, gb, G⟩ := f_law_right (P := P) (w := w) (base := base) T
  obtain ⟨h, hd, hm', hk, hb', Hp'⟩ := f_law_pot (P := P) (w := w) (base := base) T
  refine ⟨_, PSs.nox (X := cxOf CX0 P w K mg base n_law "law" (defScope s_law) f cdv Ar outer s H E) (pss_cons (ps_ret (pe_callG G (fun vs H Q E ⟨p, e, _⟩ => by rw [e]; rfl) hgd hr rfl gm gk gb (pa_cons (pe_call Hp' (hr.mono (by decide)) rfl hm' hk hb' .nil pass0 (pa_cons (pv 0) (pa_cons pe_int pa_nil rfl) rfl) (by decide) rfl rfl) pa_nil rfl) (by decide) rfl rfl)) pss_nil), ?_⟩
  refine ⟨_, rfl, a, ns, rfl, hS, fun p H' hp => ?_⟩
  exact ⟨p, rfl, hp, fun H2 => q H2⟩
end
end K64
/-! The law called, behind the top. -/
namespace K64
open PySem L2
open PySem.Spec PyProof.Rows in
theorem law_end {P : Program} {w : World} {K : PySem.W.Frag} {mg mb : Str → Option Value} {A : Ad} {N : Addr} (T : Txt K mg A N) {fa a : Addr} {st : Shared} {us : List Value} {zs : List Int} (inK : K.In st.heap) (gl : st.heap.Ns mainGlobals mg) (bl : st.heap.Ns builtinsNs mb) (bb : ∀ x : Str, x ≠ "__name__" → mb x = bootBuiltins x)
    (nolim : st.heap.NoLimit) (gens : st.gens = #[]) (at_ : mg "law" = some (.ref fa)) (scr : st.heap.get? a = some { cls := .type "list", data := .seq us.toArray }) (are : IntsAre us zs) (fit : zs.length ≤ sizeLine) :
    codeAny (model P w) callerA (.call (.ref fa) ⟨[.ref a], []⟩) (fun r t => r = .ok (.ret (.bool true)) ∧ OldK st.heap t.heap ∧ t.os = st.os ∧ AllBare t.gens) st := by
  have rel := vals_ints are
  have same := are.length
  -- at most the script is known, and it is frozen
  have main : ∀ H : Hp, (∀ b, H b = none ∨ (b = a ∧ ∃ o xs, H b = some (.frz o (.lst xs)))) → SqL K H a (zs.map V.int) → HOk P w H st.heap → (H a ≠ none → K.lookup a = none) →
      codeAny (model P w) callerA (.call (.ref fa) ⟨[.ref a], []⟩) (fun r t => r = .ok (.ret (.bool true)) ∧ OldK st.heap t.heap ∧ t.os = st.os ∧ AllBare t.gens) st := by
    intro H only sq hok off
    have isA : ∀ {b : Addr} {u : HO}, H b = some u → b = a := fun {b u} q => by
      rcases only b with z | ⟨z, _⟩
      · rw [q] at z; cases z
      · exact z
    have seen : ∀ {b : Addr} {o : Obj}, st.heap.get? b = some o → H b = none → (hidT st.heap H).get? b = some o := fun q z => hidT_get q z
    have noDict : ∀ {b : Addr} {o : Obj} {es : Array DictEntry} {ep : Nat}, st.heap.get? b = some o → o.data = .dict es ep → H b = none := fun {b o es ep} q dq => by
      cases hq : H b with
      | none => rfl
      | some u =>
        rw [isA hq, scr] at q
        cases q
        exact (nomatch (show Data.seq us.toArray _ = Data.dict es ep from dq))
    have names : ∀ {b : Addr} {m : Str → Option Value}, st.heap.Ns b m → (hidT st.heap H).Ns b m := fun {b m} ⟨o, es, ep, q, dq, rr⟩ => ⟨o, es, ep, seen q (noDict q dq), dq, rr⟩
    have inB : K.In (hidT st.heap H) := fun b o q => seen (inK b o q) (by
      cases hq : H b with
      | none => rfl
      | some u =>
        have z := isA hq
        subst z
        rw [off (by rw [hq]; exact fun z => nomatch z)] at q
        cases q)
    have mods : Mod K mg (hidT st.heap H) := ⟨inB, names gl, ⟨mb, names bl, bb⟩, let ⟨mc, q1, q2⟩ := nolim; ⟨mc, names q1, q2⟩⟩
    have e0 : Env0 P w K mg (hidT st.heap H) callerA [] st H := ⟨rfl, mods, fun b o q => of_hidT q, Nat.le_of_eq (hidT_size _ _), trivial, fun b hb => (nomatch hb), hok, .of_eq gens⟩
    obtain ⟨f, fd, hm, hk, hb, F, G⟩ := f_law (P := P) (w := w) (base := hidT st.heap H) T
    rw [at_] at hm
    cases hm
    have bind := hb st [.ref a] inK rfl
    have room : Room 11 callerA := ⟨rfl, by decide, by decide⟩
    refine codeAny_mono (G.go callerA [] st H ⟨[.ref a], []⟩ [.ref a] [.ref a] (fun v _ => v = .bl true) E0 rfl room e0 bind (.cons rfl .nil) ⟨a, zs, rfl, sq, fun _ => rfl⟩) fun r t hr => ?_
    cases r with
    | error e => exact hr.elim
    | ok fl =>
      cases fl with
      | next => exact hr.elim
      | brk => exact hr.elim
      | cont => exact hr.elim
      | ret u =>
        obtain ⟨v, H1, os, bare, un, hok1, rv, q⟩ := hr
        obtain rfl : v = .bl true := q
        obtain rfl : u = Value.bool true := rv
        refine ⟨rfl, OldK.of_keep fun b o hbo => ?_, os, bare⟩
        cases hq : H b with
        | none => exact un.keep b o hbo hq (fun z => nomatch z) (fun z => nomatch z)
        | some v1 =>
          rcases only b with z | ⟨_, ob, xs, z⟩
          · rw [hq] at z; cases z
          · obtain ⟨g1, _⟩ := hok b _ z
            obtain ⟨g2, _⟩ := hok1 b _ (un.frzs b ob _ z)
            rw [hbo] at g1
            cases g1
            exact g2
  cases hq : K.lookup a with
  | some o =>
    have q := inK a o hq
    rw [scr] at q
    cases q
    exact main (fun _ => none) (fun _ => .inl rfl) (.inr ⟨_, us.toArray, _, hq, rfl, rfl, rfl, by rw [List.size_toArray, same]; exact fit, by simpa using rel⟩) (fun b u z => nomatch (show (none : Option HO) = some u from z)) fun z => absurd rfl z
  | none =>
    refine main (fun b => if b = a then some (.frz { cls := .type "list", data := .seq us.toArray } (.lst (zs.map V.int))) else none) (fun b => ?_) (.inl (.inr ⟨{ cls := .type "list", data := .seq us.toArray }, if_pos rfl⟩)) (fun b u z => ?_) fun _ => hq
    · by_cases c : b = a
      · exact .inr ⟨c, _, _, if_pos c⟩
      · exact .inl (if_neg c)
    · by_cases c : b = a
      · cases (if_pos c).symm.trans z
        subst c
        exact ⟨scr, by rw [List.length_map]; exact fit, us, _, rel, scr⟩
      · cases (if_neg c).symm.trans z
/-- the walk that the head asks for -/
theorem walk_law {l : PySem.W.OpenLaw} {n : Nat} {q : Program} {loose : List Str} {XP : (Str → Option Value) → Heap → Prop} {YP : World → Heap → Prop} {d : DefRec} {K : Params → PySem.W.Frag}
    (hn : l.most = some n) (hn2 : n ≤ sizeLine) (hdf : d.params.defaults = []) (hnm : d.name = "law") (hY : ∀ (w : World) (h : Heap), YP w h → (K w.params).In h)
    (F : ∀ (w : World) (mg : Str → Option Value) (fa : Addr) (h : Heap), (K w.params).In h → h.Ns mainGlobals mg → mg d.name = some (.ref fa) → ∃ A N, Txt (K w.params) mg A N) :
    PySem.W.WalkO q loose XP YP l.row.toRowW d [] (fun f vs => PySem.call f vs) := by
  refine Att.attach_call hn hdf fun w s0 s1 mg mb fa o pm cd doc a vs ns G Y _ _ _ hm hobj hints hl hg => ?_
  have KX := hY w _ Y
  obtain ⟨A, N, T⟩ := F w mg fa _ KX G.T.g hm
  rw [hnm] at hm
  exact law_end T KX G.T.g G.T.b G.T.builtins G.T.nolimit hg hm hobj hints (Nat.le_trans hl hn2)
theorem txt_of2 {K : PySem.W.Frag} {h : Heap} {mg : Str → Option Value} (X : K.In h) (G : h.Ns mainGlobals mg) {R P N : Addr} (a : PySem.W.nsIn K mainGlobals "Ratio" = some (some (.ref R))) (b : PySem.W.nsIn K mainGlobals "Pairs" = some (some (.ref P))) (c : PySem.W.nsIn K mainGlobals "Known" = some (some (.ref N))) (t : Txt K mg ⟨R, P⟩ N) : ∃ A N, Txt K mg A N := ⟨_, _, t⟩
end K64

open PySem PySem.W PyProof.Rows
set_option maxHeartbeats 0
open_top head for PySem.Challenge.rw_pairsfree_k64_whole_trials

theorem PySem.Challenge.cw_pairsfree_k64_whole_trials_holds : PySem.Challenge.rw_pairsfree_k64_whole_trials.Holds :=
  head (by
  k_fill
  refine K64.walk_law (l := PySem.Challenge.rw_pairsfree_k64_whole_trials) (n := 63) rfl (by decide) rfl rfl (fun w h Y => PySem.W.kIn_of Y) ?F
  case F =>
  intro w mg fa h KX G hmg
  refine' K64.txt_of2 KX G ?aR ?aP ?aN ?tt
  (case aR => k_is); (case aP => k_is); (case aN => k_is)
  case tt =>
    refine' K64.Txt.mk ?d_is_integer ?d_is_count ?d_is_list ?d_digits_of ?d_common_part ?d_told_pair ?d_is_number ?d_ratio_of ?d_wholes ?d_are_numbers ?d_ratios_of ?d_plain_row ?d_ints_of ?d_cleared ?d_first_at ?d_int_rank ?d_is_pair ?d_right_pairs ?d_want_pairs ?d_ints_at ?d_rank_of ?d_free_of ?d_longer_lots ?d_greatest_of ?d_numbers_in ?d_sum_at ?d_sum_of ?d_rank_by ?d_trial_numbers ?d_is_trial ?d_law_pot ?d_law_draw ?d_law_pick ?d_law_number ?d_law_row ?d_law_pairs ?d_law_given ?d_law_cleared ?d_law_rank ?d_law_turned ?d_law_lots ?d_law_lot_rows ?d_law_greatest ?d_law_is_number ?d_law_ints ?d_law_is_trial ?d_law_drawn ?d_law_right ?d_law ?m_Ratio_top ?m_Ratio_bottom ?m_Ratio_sign ?m_Ratio_add ?m_Ratio_sub ?m_Ratio_mul ?m_Ratio_neg ?m_Ratio_repr ?iR ?iP ?gR ?gP ?gN ?gGcd ?gLcm ?gPart ?gMs ?gMp ?b_isinstance ?b_int ?b_bool ?b_str ?b_list ?b_tuple ?b_len ?b_abs ?b_max ?b_divmod ?b_all ?b_any ?b_sum ?b_range ?b_zip ?b_enumerate ?b_repr ?fR ?fP ?tR ?tP ?oAdd ?oMul ?oSub ?kit
    case d_is_integer => (refine' K64.dfn_mk KX G ?a ?l ?c ?k ?b; (case a => k_is); (case l => k_is); (case c => k_is); (case k => k_is); (case b => exact fun _ _ _ _ _ _ us hl => match us, hl with | [_], _ => rfl))
    case d_is_count => (refine' K64.dfn_mk KX G ?a ?l ?c ?k ?b; (case a => k_is); (case l => k_is); (case c => k_is); (case k => k_is); (case b => exact fun _ _ _ _ _ _ us hl => match us, hl with | [_], _ => rfl))
    case d_is_list => (refine' K64.dfn_mk KX G ?a ?l ?c ?k ?b; (case a => k_is); (case l => k_is); (case c => k_is); (case k => k_is); (case b => exact fun _ _ _ _ _ _ us hl => match us, hl with | [_], _ => rfl))
    case d_digits_of => (refine' K64.dfn_mk KX G ?a ?l ?c ?k ?b; (case a => k_is); (case l => k_is); (case c => k_is); (case k => k_is); (case b => exact fun _ _ _ _ _ _ us hl => match us, hl with | [_], _ => rfl))
    case d_common_part => (refine' K64.dfn_mk KX G ?a ?l ?c ?k ?b; (case a => k_is); (case l => k_is); (case c => k_is); (case k => k_is); (case b => exact fun _ _ _ _ _ _ us hl => match us, hl with | [_, _], _ => rfl))
    case d_told_pair => (refine' K64.dfn_mk KX G ?a ?l ?c ?k ?b; (case a => k_is); (case l => k_is); (case c => k_is); (case k => k_is); (case b => exact fun _ _ _ _ _ _ us hl => match us, hl with | [_], _ => rfl))
    case d_is_number => (refine' K64.dfn_mk KX G ?a ?l ?c ?k ?b; (case a => k_is); (case l => k_is); (case c => k_is); (case k => k_is); (case b => exact fun _ _ _ _ _ _ us hl => match us, hl with | [_], _ => rfl))
    case d_ratio_of => (refine' K64.dfn_mk KX G ?a ?l ?c ?k ?b; (case a => k_is); (case l => k_is); (case c => k_is); (case k => k_is); (case b => exact fun _ _ _ _ _ _ us hl => match us, hl with | [_], _ => rfl))
    case d_wholes => (refine' K64.dfn_mk KX G ?a ?l ?c ?k ?b; (case a => k_is); (case l => k_is); (case c => k_is); (case k => k_is); (case b => exact fun _ _ _ _ _ _ us hl => match us, hl with | [_], _ => rfl))
    case d_are_numbers => (refine' K64.dfn_mk KX G ?a ?l ?c ?k ?b; (case a => k_is); (case l => k_is); (case c => k_is); (case k => k_is); (case b => exact fun _ _ _ _ _ _ us hl => match us, hl with | [_, _], _ => rfl))
    case d_ratios_of => (refine' K64.dfn_mk KX G ?a ?l ?c ?k ?b; (case a => k_is); (case l => k_is); (case c => k_is); (case k => k_is); (case b => exact fun _ _ _ _ _ _ us hl => match us, hl with | [_], _ => rfl))
    case d_plain_row => (refine' K64.dfn_mk KX G ?a ?l ?c ?k ?b; (case a => k_is); (case l => k_is); (case c => k_is); (case k => k_is); (case b => exact fun _ _ _ _ _ _ us hl => match us, hl with | [_], _ => rfl))
    case d_ints_of => (refine' K64.dfn_mk KX G ?a ?l ?c ?k ?b; (case a => k_is); (case l => k_is); (case c => k_is); (case k => k_is); (case b => exact fun _ _ _ _ _ _ us hl => match us, hl with | [_], _ => rfl))
    case d_cleared => (refine' K64.dfn_mk KX G ?a ?l ?c ?k ?b; (case a => k_is); (case l => k_is); (case c => k_is); (case k => k_is); (case b => exact fun _ _ _ _ _ _ us hl => match us, hl with | [_, _, _], _ => rfl))
    case d_first_at => (refine' K64.dfn_mk KX G ?a ?l ?c ?k ?b; (case a => k_is); (case l => k_is); (case c => k_is); (case k => k_is); (case b => exact fun _ _ _ _ _ _ us hl => match us, hl with | [_, _], _ => rfl))
    case d_int_rank => (refine' K64.dfn_mk KX G ?a ?l ?c ?k ?b; (case a => k_is); (case l => k_is); (case c => k_is); (case k => k_is); (case b => exact fun _ _ _ _ _ _ us hl => match us, hl with | [_], _ => rfl))
    case d_is_pair => (refine' K64.dfn_mk KX G ?a ?l ?c ?k ?b; (case a => k_is); (case l => k_is); (case c => k_is); (case k => k_is); (case b => exact fun _ _ _ _ _ _ us hl => match us, hl with | [_, _], _ => rfl))
    case d_right_pairs => (refine' K64.dfn_mk KX G ?a ?l ?c ?k ?b; (case a => k_is); (case l => k_is); (case c => k_is); (case k => k_is); (case b => exact fun _ _ _ _ _ _ us hl => match us, hl with | [_, _], _ => rfl))
    case d_want_pairs => (refine' K64.dfn_mk KX G ?a ?l ?c ?k ?b; (case a => k_is); (case l => k_is); (case c => k_is); (case k => k_is); (case b => exact fun _ _ _ _ _ _ us hl => match us, hl with | [_], _ => rfl))
    case d_ints_at => (refine' K64.dfn_mk KX G ?a ?l ?c ?k ?b; (case a => k_is); (case l => k_is); (case c => k_is); (case k => k_is); (case b => exact fun _ _ _ _ _ _ us hl => match us, hl with | [_, _], _ => rfl))
    case d_rank_of => (refine' K64.dfn_mk KX G ?a ?l ?c ?k ?b; (case a => k_is); (case l => k_is); (case c => k_is); (case k => k_is); (case b => exact fun _ _ _ _ _ _ us hl => match us, hl with | [_, _], _ => rfl))
    case d_free_of => (refine' K64.dfn_mk KX G ?a ?l ?c ?k ?b; (case a => k_is); (case l => k_is); (case c => k_is); (case k => k_is); (case b => exact fun _ _ _ _ _ _ us hl => match us, hl with | [_, _], _ => rfl))
    case d_longer_lots => (refine' K64.dfn_mk KX G ?a ?l ?c ?k ?b; (case a => k_is); (case l => k_is); (case c => k_is); (case k => k_is); (case b => exact fun _ _ _ _ _ _ us hl => match us, hl with | [_, _], _ => rfl))
    case d_greatest_of => (refine' K64.dfn_mk KX G ?a ?l ?c ?k ?b; (case a => k_is); (case l => k_is); (case c => k_is); (case k => k_is); (case b => exact fun _ _ _ _ _ _ us hl => match us, hl with | [_], _ => rfl))
    case d_numbers_in => (refine' K64.dfn_mk KX G ?a ?l ?c ?k ?b; (case a => k_is); (case l => k_is); (case c => k_is); (case k => k_is); (case b => exact fun _ _ _ _ _ _ us hl => match us, hl with | [_, _], _ => rfl))
    case d_sum_at => (refine' K64.dfn_mk KX G ?a ?l ?c ?k ?b; (case a => k_is); (case l => k_is); (case c => k_is); (case k => k_is); (case b => exact fun _ _ _ _ _ _ us hl => match us, hl with | [_, _, _, _], _ => rfl))
    case d_sum_of => (refine' K64.dfn_mk KX G ?a ?l ?c ?k ?b; (case a => k_is); (case l => k_is); (case c => k_is); (case k => k_is); (case b => exact fun _ _ _ _ _ _ us hl => match us, hl with | [_, _], _ => rfl))
    case d_rank_by => (refine' K64.dfn_mk KX G ?a ?l ?c ?k ?b; (case a => k_is); (case l => k_is); (case c => k_is); (case k => k_is); (case b => exact fun _ _ _ _ _ _ us hl => match us, hl with | [_, _], _ => rfl))
    case d_trial_numbers => (refine' K64.dfn_mk KX G ?a ?l ?c ?k ?b; (case a => k_is); (case l => k_is); (case c => k_is); (case k => k_is); (case b => exact fun _ _ _ _ _ _ us hl => match us, hl with | [_], _ => rfl))
    case d_is_trial => (refine' K64.dfn_mk KX G ?a ?l ?c ?k ?b; (case a => k_is); (case l => k_is); (case c => k_is); (case k => k_is); (case b => exact fun _ _ _ _ _ _ us hl => match us, hl with | [_, _], _ => rfl))
    case d_law_pot => (refine' K64.dfn_mk KX G ?a ?l ?c ?k ?b; (case a => k_is); (case l => k_is); (case c => k_is); (case k => k_is); (case b => exact fun _ _ _ _ _ _ us hl => match us, hl with | [_, _], _ => rfl))
    case d_law_draw => (refine' K64.dfn_mk KX G ?a ?l ?c ?k ?b; (case a => k_is); (case l => k_is); (case c => k_is); (case k => k_is); (case b => exact fun _ _ _ _ _ _ us hl => match us, hl with | [_, _], _ => rfl))
    case d_law_pick => (refine' K64.dfn_mk KX G ?a ?l ?c ?k ?b; (case a => k_is); (case l => k_is); (case c => k_is); (case k => k_is); (case b => exact fun _ _ _ _ _ _ us hl => match us, hl with | [_, _], _ => rfl))
    case d_law_number => (refine' K64.dfn_mk KX G ?a ?l ?c ?k ?b; (case a => k_is); (case l => k_is); (case c => k_is); (case k => k_is); (case b => exact fun _ _ _ _ _ _ us hl => match us, hl with | [_], _ => rfl))
    case d_law_row => (refine' K64.dfn_mk KX G ?a ?l ?c ?k ?b; (case a => k_is); (case l => k_is); (case c => k_is); (case k => k_is); (case b => exact fun _ _ _ _ _ _ us hl => match us, hl with | [_, _], _ => rfl))
    case d_law_pairs => (refine' K64.dfn_mk KX G ?a ?l ?c ?k ?b; (case a => k_is); (case l => k_is); (case c => k_is); (case k => k_is); (case b => exact fun _ _ _ _ _ _ us hl => match us, hl with | [_, _, _], _ => rfl))
    case d_law_given => (refine' K64.dfn_mk KX G ?a ?l ?c ?k ?b; (case a => k_is); (case l => k_is); (case c => k_is); (case k => k_is); (case b => exact fun _ _ _ _ _ _ us hl => match us, hl with | [_, _], _ => rfl))
    case d_law_cleared => (refine' K64.dfn_mk KX G ?a ?l ?c ?k ?b; (case a => k_is); (case l => k_is); (case c => k_is); (case k => k_is); (case b => exact fun _ _ _ _ _ _ us hl => match us, hl with | [_, _, _], _ => rfl))
    case d_law_rank => (refine' K64.dfn_mk KX G ?a ?l ?c ?k ?b; (case a => k_is); (case l => k_is); (case c => k_is); (case k => k_is); (case b => exact fun _ _ _ _ _ _ us hl => match us, hl with | [_], _ => rfl))
    case d_law_turned => (refine' K64.dfn_mk KX G ?a ?l ?c ?k ?b; (case a => k_is); (case l => k_is); (case c => k_is); (case k => k_is); (case b => exact fun _ _ _ _ _ _ us hl => match us, hl with | [_, _, _], _ => rfl))
    case d_law_lots => (refine' K64.dfn_mk KX G ?a ?l ?c ?k ?b; (case a => k_is); (case l => k_is); (case c => k_is); (case k => k_is); (case b => exact fun _ _ _ _ _ _ us hl => match us, hl with | [_, _], _ => rfl))
    case d_law_lot_rows => (refine' K64.dfn_mk KX G ?a ?l ?c ?k ?b; (case a => k_is); (case l => k_is); (case c => k_is); (case k => k_is); (case b => exact fun _ _ _ _ _ _ us hl => match us, hl with | [_, _], _ => rfl))
    case d_law_greatest => (refine' K64.dfn_mk KX G ?a ?l ?c ?k ?b; (case a => k_is); (case l => k_is); (case c => k_is); (case k => k_is); (case b => exact fun _ _ _ _ _ _ us hl => match us, hl with | [_], _ => rfl))
    case d_law_is_number => (refine' K64.dfn_mk KX G ?a ?l ?c ?k ?b; (case a => k_is); (case l => k_is); (case c => k_is); (case k => k_is); (case b => exact fun _ _ _ _ _ _ us hl => match us, hl with | [_], _ => rfl))
    case d_law_ints => (refine' K64.dfn_mk KX G ?a ?l ?c ?k ?b; (case a => k_is); (case l => k_is); (case c => k_is); (case k => k_is); (case b => exact fun _ _ _ _ _ _ us hl => match us, hl with | [_], _ => rfl))
    case d_law_is_trial => (refine' K64.dfn_mk KX G ?a ?l ?c ?k ?b; (case a => k_is); (case l => k_is); (case c => k_is); (case k => k_is); (case b => exact fun _ _ _ _ _ _ us hl => match us, hl with | [_, _, _, _], _ => rfl))
    case d_law_drawn => (refine' K64.dfn_mk KX G ?a ?l ?c ?k ?b; (case a => k_is); (case l => k_is); (case c => k_is); (case k => k_is); (case b => exact fun _ _ _ _ _ _ us hl => match us, hl with | [_, _], _ => rfl))
    case d_law_right => (refine' K64.dfn_mk KX G ?a ?l ?c ?k ?b; (case a => k_is); (case l => k_is); (case c => k_is); (case k => k_is); (case b => exact fun _ _ _ _ _ _ us hl => match us, hl with | [_], _ => rfl))
    case d_law => (refine' K64.dfn_mk KX G ?a ?l ?c ?k ?b; (case a => k_is); (case l => k_is); (case c => k_is); (case k => k_is); (case b => exact fun _ _ _ _ _ _ us hl => match us, hl with | [_], _ => rfl))
    case m_Ratio_top => (refine' K64.prp_mk ?a ?g ?t ?r ?l ?c ?k ?b; (case a => k_is); (case g => k_is); (case t => k_is); (case r => k_is); (case l => k_is); (case c => k_is); (case k => k_is); (case b => exact fun _ _ _ _ _ _ us hl => match us, hl with | [_], _ => rfl))
    case m_Ratio_bottom => (refine' K64.prp_mk ?a ?g ?t ?r ?l ?c ?k ?b; (case a => k_is); (case g => k_is); (case t => k_is); (case r => k_is); (case l => k_is); (case c => k_is); (case k => k_is); (case b => exact fun _ _ _ _ _ _ us hl => match us, hl with | [_], _ => rfl))
    case m_Ratio_sign => (refine' K64.prp_mk ?a ?g ?t ?r ?l ?c ?k ?b; (case a => k_is); (case g => k_is); (case t => k_is); (case r => k_is); (case l => k_is); (case c => k_is); (case k => k_is); (case b => exact fun _ _ _ _ _ _ us hl => match us, hl with | [_], _ => rfl))
    case m_Ratio_add => (refine' K64.mth_mk ?a ?i ?l ?c ?k ?b; (case a => k_is); (case i => k_is); (case l => k_is); (case c => k_is); (case k => k_is); (case b => exact fun _ _ _ _ _ _ us hl => match us, hl with | [_, _], _ => rfl))
    case m_Ratio_sub => (refine' K64.mth_mk ?a ?i ?l ?c ?k ?b; (case a => k_is); (case i => k_is); (case l => k_is); (case c => k_is); (case k => k_is); (case b => exact fun _ _ _ _ _ _ us hl => match us, hl with | [_, _], _ => rfl))
    case m_Ratio_mul => (refine' K64.mth_mk ?a ?i ?l ?c ?k ?b; (case a => k_is); (case i => k_is); (case l => k_is); (case c => k_is); (case k => k_is); (case b => exact fun _ _ _ _ _ _ us hl => match us, hl with | [_, _], _ => rfl))
    case m_Ratio_neg => (refine' K64.mth_mk ?a ?i ?l ?c ?k ?b; (case a => k_is); (case i => k_is); (case l => k_is); (case c => k_is); (case k => k_is); (case b => exact fun _ _ _ _ _ _ us hl => match us, hl with | [_], _ => rfl))
    case m_Ratio_repr => (refine' K64.mth_mk ?a ?i ?l ?c ?k ?b; (case a => k_is); (case i => k_is); (case l => k_is); (case c => k_is); (case k => k_is); (case b => exact fun _ _ _ _ _ _ us hl => match us, hl with | [_], _ => rfl))
    case iR => (refine' K64.ini_mk ?a ?i ?l ?c ?k ?t ?r ?m ?kc; (case a => k_is); (case i => k_is); (case l => k_is); (case c => k_is); (case k => k_is); (case t => k_is); (case r => exact ⟨_, rfl⟩); (case m => k_is); (case kc => k_is))
    case iP => (refine' ⟨_, K64.ini_mk ?a ?i ?l ?c ?k ?t ?r ?m ?kc⟩; (case a => k_is); (case i => k_is); (case l => k_is); (case c => k_is); (case k => k_is); (case t => k_is); (case r => exact rfl); (case m => k_is); (case kc => k_is))
    case gR => (refine' PySem.W.mg_of KX G ?a; (case a => k_is))
    case gP => (refine' PySem.W.mg_of KX G ?a; (case a => k_is))
    case gN => (refine' PySem.W.mg_of KX G ?a; (case a => k_is))
    case gGcd => (refine' PySem.W.mg_of KX G ?a; (case a => k_is))
    case gLcm => (refine' PySem.W.mg_of KX G ?a; (case a => k_is))
    case gPart => (refine' K64.mgx_mk KX G ?a ?e; (case a => k_is); (case e => exact ⟨_, rfl⟩))
    case gMs => (refine' K64.mgx_mk KX G ?a ?e; (case a => k_is); (case e => exact ⟨_, rfl⟩))
    case gMp => (refine' K64.mgx_mk KX G ?a ?e; (case a => k_is); (case e => exact ⟨_, rfl⟩))
    case b_isinstance => (refine' PySem.W.mg_none_of KX G ?a; (case a => k_is))
    case b_int => (refine' PySem.W.mg_none_of KX G ?a; (case a => k_is))
    case b_bool => (refine' PySem.W.mg_none_of KX G ?a; (case a => k_is))
    case b_str => (refine' PySem.W.mg_none_of KX G ?a; (case a => k_is))
    case b_list => (refine' PySem.W.mg_none_of KX G ?a; (case a => k_is))
    case b_tuple => (refine' PySem.W.mg_none_of KX G ?a; (case a => k_is))
    case b_len => (refine' PySem.W.mg_none_of KX G ?a; (case a => k_is))
    case b_abs => (refine' PySem.W.mg_none_of KX G ?a; (case a => k_is))
    case b_max => (refine' PySem.W.mg_none_of KX G ?a; (case a => k_is))
    case b_divmod => (refine' PySem.W.mg_none_of KX G ?a; (case a => k_is))
    case b_all => (refine' PySem.W.mg_none_of KX G ?a; (case a => k_is))
    case b_any => (refine' PySem.W.mg_none_of KX G ?a; (case a => k_is))
    case b_sum => (refine' PySem.W.mg_none_of KX G ?a; (case a => k_is))
    case b_range => (refine' PySem.W.mg_none_of KX G ?a; (case a => k_is))
    case b_zip => (refine' PySem.W.mg_none_of KX G ?a; (case a => k_is))
    case b_enumerate => (refine' PySem.W.mg_none_of KX G ?a; (case a => k_is))
    case b_repr => (refine' PySem.W.mg_none_of KX G ?a; (case a => k_is))
    case fR => (refine' K64.fldR_mk ?a ?b ?c ?d ?e ?f; (case a => k_is); (case b => k_is); (case c => k_is); (case d => k_is); (case e => k_is); (case f => k_is))
    case fP => (refine' K64.fldP_mk ?a ?b ?c ?d ?e ?f ?g; (case a => k_is); (case b => k_is); (case c => k_is); (case d => k_is); (case e => k_is); (case f => k_is); (case g => k_is))
    case tR => (refine' K64.tyc_mk ?a ?b ?c ?d ?e ?f ?g ?m; (case a => k_is); (case b => k_is); (case c => k_is); (case d => k_is); (case e => k_is); (case f => k_is); (case g => k_is); (case m => k_is))
    case tP => (refine' K64.tyc_mk ?a ?b ?c ?d ?e ?f ?g ?m; (case a => k_is); (case b => k_is); (case c => k_is); (case d => k_is); (case e => k_is); (case f => k_is); (case g => k_is); (case m => k_is))
    case oAdd => (refine' K64.opc_mk ?a ?b ?c ?d ?e ?f; (case a => k_is); (case b => k_is); (case c => first | exact .inl rfl | exact .inr ⟨_, rfl⟩); (case d => k_is); (case e => k_is); (case f => k_is))
    case oMul => (refine' K64.opc_mk ?a ?b ?c ?d ?e ?f; (case a => k_is); (case b => k_is); (case c => first | exact .inl rfl | exact .inr ⟨_, rfl⟩); (case d => k_is); (case e => k_is); (case f => k_is))
    case oSub => (refine' K64.opc_mk ?a ?b ?c ?d ?e ?f; (case a => k_is); (case b => k_is); (case c => first | exact .inl rfl | exact .inr ⟨_, rfl⟩); (case d => k_is); (case e => k_is); (case f => k_is))
    case kit => (refine' K64.Kit.mk ?a ?b ?c ?d ?e; (case a => kit_is); (case b => kit_is); (case c => kit_is); (case d => kit_is); (case e => kit_is))
  )
