import PyProof.Rows.All
import Wide.All
import OpenK.AllK
import Wide.FinOn
import HandS.ForMost
import HandS.ForExc
import HandS.ExcSuper
import HandS.ExcField
import HandS.ExcIs
import HandS.IsInst
import HandS.Wide
import HandS.Conv
import HandS.Flow
import HandS.Walk
import HandS.Style
import KE.KRevSl
import PyProof.Draws
import KE.GoesEnum
import KE.KSuper
import KE.KExcIs
import PySem.Challenge.RW_mendvault_k09_whole_corrected_rows
set_option Elab.async false
set_option linter.all false
set_option maxRecDepth 100000
/-! The field of 128 elements and polynomials over it, in plain Lean. -/
namespace MV

/-- a symbol -/
structure F where
  v : Nat
  lt : v < 128
deriving DecidableEq
theorem F.ext' {a b : F} (h : a.v = b.v) : a = b := by
  cases a; cases b; cases h; rfl

/-- doubling, on numbers -/
def dblN (a : Nat) : Nat := if 127 < a * 2 then (a * 2) ^^^ 131 else a * 2
/-- the product's loop, on numbers -/
def tlN : Nat → Nat → Nat → Nat → Nat
  | 0, t, _, _ => t
  | n + 1, t, a, b => tlN n (if b % 2 = 1 then t ^^^ a else t) (dblN a) (b / 2)
def all2 (p : Nat → Nat → Bool) : Bool := (List.range 128).all fun a => (List.range 128).all fun b => p a b
def all1 (p : Nat → Bool) : Bool := (List.range 128).all p
theorem all1_at {p : Nat → Bool} (h : all1 p = true) {a : Nat} (ha : a < 128) : p a = true :=
  List.all_eq_true.mp h a (List.mem_range.mpr ha)
theorem all2_at {p : Nat → Nat → Bool} (h : all2 p = true) {a b : Nat} (ha : a < 128) (hb : b < 128) : p a b = true :=
  List.all_eq_true.mp (List.all_eq_true.mp h a (List.mem_range.mpr ha)) b (List.mem_range.mpr hb)

theorem dbl_lt_c : all1 (fun a => Nat.blt (dblN a) 128) = true := by decide +kernel
theorem dbl_lin_c : all2 (fun a b => Nat.beq (dblN (a ^^^ b)) (dblN a ^^^ dblN b)) = true := by decide +kernel
theorem tl_comm_c : all2 (fun a b => Nat.beq (tlN 7 0 a b) (tlN 7 0 b a)) = true := by decide +kernel

theorem dblN_lt {a : Nat} (h : a < 128) : dblN a < 128 := by
  have := all1_at dbl_lt_c h
  exact Nat.le_of_ble_eq_true this

instance : Zero F := ⟨⟨0, by decide⟩⟩
instance : One F := ⟨⟨1, by decide⟩⟩
instance : Add F := ⟨fun a b => ⟨a.v ^^^ b.v, Nat.xor_lt_two_pow (n := 7) a.lt b.lt⟩⟩
def F.dbl (a : F) : F := ⟨dblN a.v, dblN_lt a.lt⟩
def F.tl : Nat → F → F → Nat → F
  | 0, t, _, _ => t
  | n + 1, t, a, b => F.tl n (if b % 2 = 1 then t + a else t) a.dbl (b / 2)
instance : Mul F := ⟨fun a b => F.tl 7 0 a b.v⟩
theorem add_v (a b : F) : (a + b).v = a.v ^^^ b.v := rfl
theorem zero_v : (0 : F).v = 0 := rfl
theorem one_v : (1 : F).v = 1 := rfl
theorem mul_def (a b : F) : a * b = F.tl 7 0 a b.v := rfl
theorem tl_v : ∀ (n : Nat) (t a : F) (b : Nat), (F.tl n t a b).v = tlN n t.v a.v b
  | 0, _, _, _ => rfl
  | n + 1, t, a, b => by
    unfold F.tl tlN
    rw [tl_v n]
    split <;> rfl
theorem mul_v (a b : F) : (a * b).v = tlN 7 0 a.v b.v := by rw [mul_def, tl_v, zero_v]

/-! ### sums -/
theorem add_comm (a b : F) : a + b = b + a := F.ext' (by rw [add_v, add_v, Nat.xor_comm])
theorem add_assoc (a b c : F) : a + b + c = a + (b + c) := F.ext' (by rw [add_v, add_v, add_v, add_v, Nat.xor_assoc])
theorem add_zero (a : F) : a + 0 = a := F.ext' (by rw [add_v, zero_v, Nat.xor_zero])
theorem zero_add (a : F) : 0 + a = a := by rw [add_comm, add_zero]
theorem add_self (a : F) : a + a = 0 := F.ext' (by rw [add_v, zero_v, Nat.xor_self])
theorem add_left_comm (a b c : F) : a + (b + c) = b + (a + c) := by rw [← add_assoc, add_comm a b, add_assoc]
theorem add_add_self (a b : F) : a + (a + b) = b := by rw [← add_assoc, add_self, zero_add]
theorem eq_of_add_zero {a b : F} (h : a + b = 0) : a = b := by
  have e := add_add_self b a
  rw [add_comm b a, h, add_zero] at e
  exact e.symm
theorem add_eq_zero_iff {a b : F} : a + b = 0 ↔ a = b := ⟨eq_of_add_zero, fun e => by rw [e, add_self]⟩
instance : Std.Associative (α := F) (· + ·) := ⟨add_assoc⟩
instance : Std.Commutative (α := F) (· + ·) := ⟨add_comm⟩

/-! ### products -/
theorem dbl_add (a b : F) : (a + b).dbl = a.dbl + b.dbl := F.ext' (Nat.eq_of_beq_eq_true (all2_at dbl_lin_c a.lt b.lt))
theorem mul_comm (a b : F) : a * b = b * a := F.ext' (by
  rw [mul_v, mul_v]
  exact Nat.eq_of_beq_eq_true (all2_at tl_comm_c a.lt b.lt))
theorem tl_add : ∀ (n : Nat) (t t' a a' : F) (b : Nat), F.tl n (t + t') (a + a') b = F.tl n t a b + F.tl n t' a' b
  | 0, _, _, _, _, _ => rfl
  | n + 1, t, t', a, a', b => by
    unfold F.tl
    rw [← tl_add n, dbl_add]
    split
    · have e : t + t' + (a + a') = t + a + (t' + a') := by ac_rfl
      rw [e]
    · rfl
theorem add_mul (a b c : F) : (a + b) * c = a * c + b * c := by
  rw [mul_def, mul_def, mul_def, ← tl_add, add_zero]
theorem mul_add (a b c : F) : c * (a + b) = c * a + c * b := by
  rw [mul_comm, add_mul, mul_comm a, mul_comm b]
theorem tl_dbl : ∀ (n : Nat) (t a : F) (b : Nat), F.tl n t.dbl a.dbl b = (F.tl n t a b).dbl
  | 0, _, _, _ => rfl
  | n + 1, t, a, b => by
    unfold F.tl
    rw [← tl_dbl n]
    split
    · rw [dbl_add]
    · rfl
theorem zero_dbl : (0 : F).dbl = 0 := F.ext' (by decide)
theorem dbl_mul (a b : F) : a.dbl * b = (a * b).dbl := by
  rw [mul_def, mul_def, ← tl_dbl, zero_dbl]
theorem mul_dbl (a b : F) : a * b.dbl = (a * b).dbl := by rw [mul_comm, dbl_mul, mul_comm b]
theorem zero_mul (a : F) : 0 * a = 0 := by
  have h : (0 + 0) * a = 0 * a + 0 * a := add_mul 0 0 a
  rw [add_zero, add_self] at h
  exact h
theorem mul_zero (a : F) : a * 0 = 0 := by rw [mul_comm, zero_mul]
theorem tl_mul (x : F) : ∀ (n : Nat) (t a : F) (b : Nat), F.tl n (x * t) (x * a) b = x * F.tl n t a b
  | 0, _, _, _ => rfl
  | n + 1, t, a, b => by
    unfold F.tl
    rw [← tl_mul x n, mul_dbl]
    split
    · rw [mul_add]
    · rfl
theorem mul_assoc (a b c : F) : a * b * c = a * (b * c) := by
  rw [mul_def (a * b), mul_def b c, ← tl_mul, mul_zero]
instance : Std.Associative (α := F) (· * ·) := ⟨mul_assoc⟩
instance : Std.Commutative (α := F) (· * ·) := ⟨mul_comm⟩
theorem mul_one_c : all1 (fun a => Nat.beq (tlN 7 0 a 1) a) = true := by decide +kernel
theorem mul_one (a : F) : a * 1 = a := F.ext' (by
  rw [mul_v]
  exact Nat.eq_of_beq_eq_true (all1_at mul_one_c a.lt))
theorem one_mul (a : F) : 1 * a = a := by rw [mul_comm, mul_one]
theorem mul_left_comm (a b c : F) : a * (b * c) = b * (a * c) := by rw [← mul_assoc, mul_comm a b, mul_assoc]

/-! ### powers, inverses -/
def F.pw (a : F) : Nat → F
  | 0 => 1
  | n + 1 => F.pw a n * a
theorem pw_zero (a : F) : a.pw 0 = 1 := rfl
theorem pw_succ (a : F) (n : Nat) : a.pw (n + 1) = a.pw n * a := rfl
theorem pw_one (a : F) : a.pw 1 = a := by rw [pw_succ, pw_zero, one_mul]
theorem pw_add (a : F) (m : Nat) : ∀ n, a.pw (m + n) = a.pw m * a.pw n
  | 0 => by rw [Nat.add_zero, pw_zero, mul_one]
  | n + 1 => by rw [← Nat.add_assoc, pw_succ, pw_succ, pw_add a m n, mul_assoc]
theorem pw_sq (a : F) : ∀ n, (a * a).pw n = a.pw (2 * n)
  | 0 => rfl
  | n + 1 => by rw [pw_succ, pw_sq a n, Nat.mul_add, pw_add]; show _ = _ * (1 * a * a); rw [one_mul]
theorem one_pw : ∀ n, (1 : F).pw n = 1
  | 0 => rfl
  | n + 1 => by rw [pw_succ, one_pw n, mul_one]
theorem pw_pw (a : F) (m : Nat) : ∀ n, (a.pw m).pw n = a.pw (m * n)
  | 0 => rfl
  | n + 1 => by rw [pw_succ, pw_pw a m n, Nat.mul_succ, pw_add]
def pwN (a : Nat) : Nat → Nat
  | 0 => 1
  | n + 1 => tlN 7 0 (pwN a n) a
theorem pw_v (a : F) : ∀ n, (a.pw n).v = pwN a.v n
  | 0 => rfl
  | n + 1 => by rw [pw_succ, mul_v, pw_v a n]; rfl
theorem inv_c : all1 (fun a => Nat.beq a 0 || Nat.beq (tlN 7 0 a (pwN a 126)) 1) = true := by decide +kernel
def F.inv (a : F) : F := a.pw 126
theorem mul_inv {a : F} (h : a ≠ 0) : a * a.inv = 1 := F.ext' (by
  have q := all1_at inv_c a.lt
  rw [Bool.or_eq_true] at q
  rcases q with q | q
  · exact absurd (F.ext' (Nat.eq_of_beq_eq_true q)) h
  · rw [mul_v]
    unfold F.inv
    rw [pw_v]
    exact Nat.eq_of_beq_eq_true q)
theorem one_ne_zero : (1 : F) ≠ 0 := fun e => absurd (congrArg F.v e) (by decide)
theorem mul_eq_zero {a b : F} (h : a * b = 0) : a = 0 ∨ b = 0 := by
  by_cases e : a = 0
  · exact .inl e
  · right
    have q : a.inv * (a * b) = b := by rw [← mul_assoc, mul_comm a.inv, mul_inv e, one_mul]
    rw [h, mul_zero] at q
    exact q.symm
theorem mul_ne_zero {a b : F} (ha : a ≠ 0) (hb : b ≠ 0) : a * b ≠ 0 := fun e => (mul_eq_zero e).elim ha hb
theorem mul_cancel {a b c : F} (ha : a ≠ 0) (h : a * b = a * c) : b = c := by
  have q : a * (b + c) = 0 := by rw [mul_add, h, add_self]
  rcases mul_eq_zero q with e | e
  · exact absurd e ha
  · exact eq_of_add_zero e

/-! ### the powers of two -/
def two : F := ⟨2, by decide⟩
theorem two_c : all1 (fun a => Nat.beq (tlN 7 0 a 2) (dblN a)) = true := by decide +kernel
theorem two_mul (a : F) : a * two = a.dbl := F.ext' (by
  rw [mul_v]
  exact Nat.eq_of_beq_eq_true (all1_at two_c a.lt))
def exN (n : Nat) : Nat := pwN 2 n
theorem two_cyc : two.pw 127 = 1 := F.ext' (by rw [pw_v]; decide +kernel)
def lgN (a : Nat) : Nat := (List.range 127).findIdx fun k => Nat.beq (exN k) a
theorem lg_c : all1 (fun a => Nat.beq a 0 || (List.range 127).any fun k => Nat.beq (exN k) a) = true := by decide +kernel
theorem lg_ex {a : F} (h : a ≠ 0) : ∃ k, k < 127 ∧ two.pw k = a := by
  have q := all1_at lg_c a.lt
  rw [Bool.or_eq_true] at q
  rcases q with q | q
  · exact absurd (F.ext' (Nat.eq_of_beq_eq_true q)) h
  · rw [List.any_eq_true] at q
    obtain ⟨k, hk, e⟩ := q
    exact ⟨k, List.mem_range.mp hk, F.ext' (by rw [pw_v]; exact Nat.eq_of_beq_eq_true e)⟩
theorem pw_mod (n : Nat) : two.pw n = two.pw (n % 127) := by
  have e := Nat.div_add_mod n 127
  have h : two.pw (127 * (n / 127) + n % 127) = two.pw (n % 127) := by
    rw [pw_add, ← pw_pw, two_cyc, one_pw, one_mul]
  rw [e] at h
  exact h
/-- two to a whole number -/
def gz (z : Int) : F := two.pw (z % 127).toNat
theorem gz_nat (n : Nat) : gz (n : Int) = two.pw n := by
  unfold gz
  rw [pw_mod n]
  congr 1
theorem gz_add (y z : Int) : gz (y + z) = gz y * gz z := by
  unfold gz
  rw [← pw_add, pw_mod ((y % 127).toNat + (z % 127).toNat)]
  congr 1
  omega
theorem gz_zero : gz 0 = 1 := rfl
theorem gz_neg (z : Int) : gz z * gz (-z) = 1 := by rw [← gz_add, Int.add_right_neg, gz_zero]
end MV
/-! Polynomials as lists of coefficients. -/
namespace MV

def ev : List F → F → F
  | [], _ => 0
  | a :: p, x => a + x * ev p x
theorem ev_nil (x : F) : ev [] x = 0 := rfl
theorem ev_cons (a : F) (p : List F) (x : F) : ev (a :: p) x = a + x * ev p x := rfl
theorem ev_one (a x : F) : ev [a] x = a := by rw [ev_cons, ev_nil, mul_zero, add_zero]
theorem ev_lin (a x : F) : ev [a, 1] x = a + x := by rw [ev_cons, ev_one, mul_one]
theorem ev_append : ∀ (p q : List F) (x : F), ev (p ++ q) x = ev p x + x.pw p.length * ev q x
  | [], q, x => by rw [ev_nil, zero_add]; show ev q x = 1 * ev q x; rw [one_mul]
  | a :: p, q, x => by
    show a + x * ev (p ++ q) x = a + x * ev p x + x.pw (p.length + 1) * ev q x
    rw [ev_append p q x, pw_succ, mul_add, add_assoc]
    congr 2
    ac_rfl
theorem ev_zeros : ∀ {p : List F} (x : F), (∀ c ∈ p, c = 0) → ev p x = 0
  | [], _, _ => rfl
  | a :: p, x, h => by
    rw [ev_cons, h a List.mem_cons_self, ev_zeros x fun c hc => h c (List.mem_cons_of_mem _ hc), mul_zero, add_zero]
/-- coefficients -/
def co (p : List F) (i : Nat) : F := p[i]?.getD 0
theorem co_lt {p : List F} {i : Nat} (h : i < p.length) : co p i = p[i] := by unfold co; rw [List.getElem?_eq_getElem h]; rfl
theorem co_ge {p : List F} {i : Nat} (h : p.length ≤ i) : co p i = 0 := by unfold co; rw [List.getElem?_eq_none h]; rfl
theorem co_get {p : List F} {i : Nat} {a : F} (h : p[i]? = some a) : co p i = a := by unfold co; rw [h]; rfl
theorem co_cons_zero (a : F) (p : List F) : co (a :: p) 0 = a := rfl
theorem co_cons_succ (a : F) (p : List F) (i : Nat) : co (a :: p) (i + 1) = co p i := rfl
theorem ev_set : ∀ {p : List F} {n : Nat} (d x : F), n < p.length → ev (p.set n (co p n + d)) x = ev p x + d * x.pw n
  | a :: p, 0, d, x, _ => by
    show a + d + x * ev p x = a + x * ev p x + d * 1
    rw [mul_one]
    ac_rfl
  | a :: p, n + 1, d, x, h => by
    show a + x * ev (p.set n (co p n + d)) x = a + x * ev p x + d * (x.pw n * x)
    rw [ev_set d x (Nat.lt_of_succ_lt_succ h), mul_add, add_assoc]
    congr 2
    ac_rfl
theorem ev_set0 {p : List F} {n : Nat} {d x : F} (h : n < p.length) (h0 : co p n = 0) : ev (p.set n d) x = ev p x + d * x.pw n := by
  have e := ev_set d x h
  rw [h0, zero_add] at e
  exact e
/-- the sum's coefficients -/
def padd (p q : List F) : List F := (List.range (max p.length q.length)).map fun i => co p i + co q i
theorem ev_range : ∀ (n : Nat) (f : Nat → F) (x : F), ev ((List.range n).map f) x = (List.range n).foldl (fun t i => t + f i * x.pw i) 0
  | 0, _, _ => rfl
  | n + 1, f, x => by
    rw [List.range_succ, List.map_append, ev_append, List.foldl_append, ev_range n f x, List.length_map, List.length_range]
    show _ + _ * ev [f n] x = _ + _
    rw [ev_one, mul_comm]
theorem foldl_add (x : F) (f g : Nat → F) : ∀ n : Nat, (List.range n).foldl (fun t i => t + (f i + g i) * x.pw i) 0 =
    (List.range n).foldl (fun t i => t + f i * x.pw i) 0 + (List.range n).foldl (fun t i => t + g i * x.pw i) 0
  | 0 => by simp only [List.range_zero, List.foldl_nil, add_zero]
  | n + 1 => by
    simp only [List.range_succ, List.foldl_append, List.foldl_cons, List.foldl_nil]
    rw [foldl_add x f g n, add_mul]
    ac_rfl
theorem ev_co : ∀ (p : List F) (n : Nat) (x : F), p.length ≤ n → ev ((List.range n).map (co p)) x = ev p x
  | [], n, x, _ => ev_zeros x (by
    intro c hc
    obtain ⟨i, _, rfl⟩ := List.mem_map.mp hc
    exact co_ge (Nat.zero_le _))
  | a :: p, n + 1, x, h => by
    rw [List.range_succ_eq_map, List.map_cons, List.map_map, ev_cons, ev_cons]
    have e : (co (a :: p) ∘ Nat.succ) = co p := rfl
    rw [e, ev_co p n x (Nat.le_of_succ_le_succ h)]
    rfl
theorem ev_padd (p q : List F) (x : F) : ev (padd p q) x = ev p x + ev q x := by
  unfold padd
  rw [ev_range, foldl_add, ← ev_range, ← ev_range, ev_co p _ x (Nat.le_max_left _ _), ev_co q _ x (Nat.le_max_right _ _)]
theorem padd_length (p q : List F) : (padd p q).length = max p.length q.length := by
  unfold padd
  rw [List.length_map, List.length_range]

/-! ### roots -/
def quo (r : F) : List F → List F
  | [] => []
  | [_] => []
  | _ :: b :: t => ev (b :: t) r :: quo r (b :: t)
theorem quo_length (r : F) : ∀ p : List F, (quo r p).length = p.length - 1
  | [] => rfl
  | [_] => rfl
  | a :: b :: t => by
    show (quo r (b :: t)).length + 1 = t.length + 2 - 1
    rw [quo_length r (b :: t)]
    show t.length + 1 - 1 + 1 = t.length + 2 - 1
    omega
theorem quo_ev (r x : F) : ∀ p : List F, ev p x = ev p r + (x + r) * ev (quo r p) x
  | [] => by rw [ev_nil, ev_nil]; show _ = _ + _ * ev [] x; rw [ev_nil, mul_zero, add_zero]
  | [a] => by rw [ev_one, ev_one]; show _ = _ + _ * ev [] x; rw [ev_nil, mul_zero, add_zero]
  | a :: b :: t => by
    have ih := quo_ev r x (b :: t)
    show a + x * ev (b :: t) x = a + r * ev (b :: t) r + (x + r) * (ev (b :: t) r + x * ev (quo r (b :: t)) x)
    rw [ih]
    generalize ev (b :: t) r = u
    generalize ev (quo r (b :: t)) x = w
    have e : x * (u + (x + r) * w) = x * u + (x + r) * (x * w) := by rw [mul_add]; congr 1; ac_rfl
    rw [e, mul_add, add_mul x r u]
    have e2 : a + r * u + (x * u + r * u + (x + r) * (x * w)) = (r * u + r * u) + (a + (x * u + (x + r) * (x * w))) := by ac_rfl
    rw [e2, add_self, zero_add]
theorem quo_zero (r : F) : ∀ p : List F, ev p r = 0 → (∀ c ∈ quo r p, c = 0) → ∀ c ∈ p, c = 0
  | [], _, _ => fun c hc => nomatch hc
  | [a], h, _ => fun c hc => by
    rw [ev_one] at h
    rw [List.mem_singleton.mp hc, h]
  | a :: b :: t, h, hq => by
    have e : ev (b :: t) r = 0 := hq _ List.mem_cons_self
    have ih := quo_zero r (b :: t) e fun c hc => hq c (List.mem_cons_of_mem _ hc)
    intro c hc
    rcases List.mem_cons.mp hc with rfl | hc
    · rw [ev_cons, e, mul_zero, add_zero] at h
      exact h
    · exact ih c hc
theorem few_roots : ∀ (rs : List F) (p : List F), rs.Nodup → p.length ≤ rs.length → (∀ r ∈ rs, ev p r = 0) → ∀ c ∈ p, c = 0
  | [], p, _, hl, _ => by
    cases p with
    | nil => exact fun c hc => nomatch hc
    | cons a p => exact absurd hl (by simp)
  | r :: rs, p, hn, hl, h => by
    have hr := h r List.mem_cons_self
    rw [List.nodup_cons] at hn
    refine quo_zero r p hr (few_roots rs (quo r p) hn.2 ?_ fun s hs => ?_)
    · rw [quo_length]
      have : p.length ≤ rs.length + 1 := hl
      omega
    · have e := quo_ev r s p
      rw [hr, h s (List.mem_cons_of_mem _ hs), zero_add] at e
      rcases mul_eq_zero e.symm with z | z
      · exact absurd (eq_of_add_zero z ▸ hs) hn.1
      · exact z
/-- every symbol, once -/
def allF : List F := (List.range 128).map fun i => ⟨i % 128, Nat.mod_lt _ (by decide)⟩
theorem allF_length : allF.length = 128 := by unfold allF; rw [List.length_map, List.length_range]
theorem allF_nodup : allF.Nodup := by
  unfold allF
  refine List.Pairwise.map _ (fun a b h => h) ?_ |> fun h => h
  refine List.Pairwise.imp_of_mem (fun {a b} ha hb hne e => hne ?_) List.nodup_range
  have ha := List.mem_range.mp ha
  have hb := List.mem_range.mp hb
  have q : a % 128 = b % 128 := congrArg F.v e
  omega
theorem zero_of_ev {p : List F} (hl : p.length ≤ 128) (h : ∀ x, ev p x = 0) : ∀ c ∈ p, c = 0 :=
  few_roots allF p allF_nodup (by rw [allF_length]; exact hl) fun r _ => h r

/-! ### without noughts at the end -/
def Tr (p : List F) : Prop := p.getLast? ≠ some 0
theorem Tr.nil : Tr [] := by intro h; cases h
theorem Tr.last {p : List F} (h : Tr p) (hn : p ≠ []) : co p (p.length - 1) ≠ 0 := by
  intro e
  apply h
  rw [List.getLast?_eq_getElem?]
  have hl : p.length - 1 < p.length := by
    cases p with
    | nil => exact absurd rfl hn
    | cons a p => simp
  rw [List.getElem?_eq_getElem hl]
  rw [co_lt hl] at e
  rw [e]
theorem Tr.of {p : List F} (h : co p (p.length - 1) ≠ 0) : Tr p := by
  intro e
  apply h
  rw [List.getLast?_eq_getElem?] at e
  exact co_get e
theorem Tr.zero {p : List F} (h : Tr p) (hz : ∀ c ∈ p, c = 0) : p = [] := by
  cases p with
  | nil => rfl
  | cons a t =>
    exact absurd (hz _ (by rw [co_lt (by simp)]; exact List.getElem_mem _)) (h.last (by simp))
theorem Tr.lt_of {p : List F} {n : Nat} (h : Tr p) (hz : ∀ i, n ≤ i → co p i = 0) : p.length ≤ n := by
  apply Nat.le_of_not_lt
  intro hl
  exact h.last (by intro e; rw [e] at hl; simp at hl) (hz _ (by omega))
theorem ext_co {p q : List F} (hl : p.length = q.length) (h : ∀ i, co p i = co q i) : p = q := by
  apply List.ext_getElem hl
  intro i h1 h2
  rw [← co_lt h1, ← co_lt h2, h i]
theorem padd_co (p q : List F) (i : Nat) : co (padd p q) i = co p i + co q i := by
  by_cases h : i < max p.length q.length
  · unfold padd
    have e : ((List.range (max p.length q.length)).map fun i => co p i + co q i)[i]? = some (co p i + co q i) := by
      rw [List.getElem?_map, List.getElem?_range h]
      rfl
    exact co_get e
  · have h := Nat.le_of_not_lt h
    rw [co_ge (by rw [padd_length]; exact h), co_ge (Nat.le_trans (Nat.le_max_left _ _) h), co_ge (Nat.le_trans (Nat.le_max_right _ _) h), add_zero]
/-- the same values, the same coefficients -/
theorem co_eq_of_ev {p q : List F} (hp : p.length ≤ 128) (hq : q.length ≤ 128) (h : ∀ x, ev p x = ev q x) (i : Nat) : co p i = co q i := by
  have z := zero_of_ev (p := padd p q) (by rw [padd_length]; omega) fun x => by rw [ev_padd, h x, add_self]
  have c := padd_co p q i
  by_cases hi : i < (padd p q).length
  · rw [co_lt hi, z _ (List.getElem_mem _)] at c
    exact eq_of_add_zero c.symm
  · rw [co_ge (Nat.le_of_not_lt hi)] at c
    exact eq_of_add_zero c.symm
theorem Tr.unique {p q : List F} (tp : Tr p) (tq : Tr q) (hp : p.length ≤ 128) (hq : q.length ≤ 128) (h : ∀ x, ev p x = ev q x) : p = q := by
  have c := co_eq_of_ev hp hq h
  refine ext_co (Nat.le_antisymm (tp.lt_of fun i hi => ?_) (tq.lt_of fun i hi => ?_)) c
  · rw [c, co_ge hi]
  · rw [← c, co_ge hi]

/-! ### polynomial functions -/
/-- a polynomial of at most n coefficients -/
def PL (n : Nat) (f : F → F) : Prop := ∃ c : List F, c.length = n ∧ ∀ x, f x = ev c x
theorem PL.of (p : List F) : PL p.length (ev p) := ⟨p, rfl, fun _ => rfl⟩
theorem PL.congr {n : Nat} {f g : F → F} (h : PL n f) (e : ∀ x, g x = f x) : PL n g := by
  obtain ⟨c, hl, hc⟩ := h
  exact ⟨c, hl, fun x => (e x).trans (hc x)⟩
theorem PL.mono {m n : Nat} {f : F → F} (h : PL m f) (hmn : m ≤ n) : PL n f := by
  obtain ⟨c, hl, hc⟩ := h
  refine ⟨c ++ List.replicate (n - m) 0, by rw [List.length_append, List.length_replicate, hl]; omega, fun x => ?_⟩
  rw [ev_append, ev_zeros (p := List.replicate (n - m) 0) x (fun c hc => List.eq_of_mem_replicate hc), mul_zero, add_zero, hc]
theorem PL.zero (n : Nat) : PL n fun _ => 0 := (PL.of []).congr (fun _ => rfl) |>.mono (Nat.zero_le _)
theorem PL.add {n : Nat} {f g : F → F} (hf : PL n f) (hg : PL n g) : PL n fun x => f x + g x := by
  obtain ⟨c, hl, hc⟩ := hf
  obtain ⟨d, hm, hd⟩ := hg
  exact ⟨padd c d, by rw [padd_length, hl, hm, Nat.max_self], fun x => by show f x + g x = _; rw [ev_padd, hc, hd]⟩
theorem PL.add_max {m n : Nat} {f g : F → F} (hf : PL m f) (hg : PL n g) : PL (max m n) fun x => f x + g x := (hf.mono (Nat.le_max_left _ _)).add (hg.mono (Nat.le_max_right _ _))
theorem ev_smul (a x : F) : ∀ p : List F, ev (p.map (a * ·)) x = a * ev p x
  | [] => by rw [ev_nil, mul_zero]; rfl
  | b :: p => by
    show a * b + x * ev (p.map (a * ·)) x = a * (b + x * ev p x)
    rw [ev_smul a x p, mul_add]
    congr 1
    ac_rfl
theorem PL.smul {n : Nat} {f : F → F} (a : F) (hf : PL n f) : PL n fun x => a * f x := by
  obtain ⟨c, hl, hc⟩ := hf
  exact ⟨c.map (a * ·), by rw [List.length_map, hl], fun x => by show a * f x = _; rw [ev_smul, hc]⟩
theorem PL.shift {n : Nat} {f : F → F} (hf : PL n f) : PL (n + 1) fun x => x * f x := by
  obtain ⟨c, hl, hc⟩ := hf
  exact ⟨0 :: c, by rw [List.length_cons, hl], fun x => by show x * f x = _; rw [ev_cons, zero_add, hc]⟩
theorem PL.lin {n : Nat} {f : F → F} (a : F) (hf : PL n f) : PL (n + 1) fun x => (x + a) * f x :=
  (hf.shift.add ((hf.smul a).mono (Nat.le_succ _))).congr fun x => add_mul _ _ _
theorem PL.mulE {n : Nat} {g : F → F} (hg : PL n g) : ∀ p : List F, PL (p.length + n) fun x => ev p x * g x
  | [] => (PL.zero _).congr fun x => by rw [ev_nil, zero_mul]
  | a :: p => by
    have e : (a :: p).length + n = p.length + n + 1 := by rw [List.length_cons]; omega
    rw [e]
    refine (((hg.smul a).mono (by omega)).add (PL.mulE hg p).shift).congr fun x => ?_
    rw [ev_cons, add_mul, mul_assoc]
theorem PL.mul {m n : Nat} {f g : F → F} (hf : PL m f) (hg : PL n g) : PL (m + n) fun x => f x * g x := by
  obtain ⟨c, hl, hc⟩ := hf
  have h := PL.mulE hg c
  rw [hl] at h
  exact h.congr fun x => by rw [hc]
theorem PL.pw : ∀ n : Nat, PL (n + 1) fun x => x.pw n
  | 0 => ⟨[1], rfl, fun x => by rw [ev_one]; rfl⟩
  | n + 1 => (PL.pw n).shift.congr fun x => by rw [pw_succ, mul_comm]
/-- of degree n, a at the power n -/
def PD (n : Nat) (a : F) (f : F → F) : Prop := ∃ g, PL n g ∧ ∀ x, f x = g x + a * x.pw n
theorem PD.pl {n : Nat} {a : F} {f : F → F} (h : PD n a f) : PL (n + 1) f := by
  obtain ⟨g, hg, e⟩ := h
  exact ((hg.mono (Nat.le_succ _)).add ((PL.pw n).smul a)).congr e
theorem PD.of {p : List F} (hn : p ≠ []) : PD (p.length - 1) (co p (p.length - 1)) (ev p) := by
  have hl : p.length - 1 < p.length := by
    cases p with
    | nil => exact absurd rfl hn
    | cons a p => simp
  have e := List.dropLast_concat_getLast hn
  refine ⟨ev p.dropLast, ⟨p.dropLast, List.length_dropLast, fun _ => rfl⟩, fun x => ?_⟩
  conv => lhs; rw [← e]
  rw [ev_append, ev_one, List.length_dropLast, co_lt hl, List.getLast_eq_getElem, mul_comm]
theorem PD.add {n : Nat} {a : F} {f g : F → F} (hf : PD n a f) (hg : PL n g) : PD n a fun x => f x + g x := by
  obtain ⟨h, hh, e⟩ := hf
  refine ⟨_, hh.add hg, fun x => ?_⟩
  show f x + g x = h x + g x + _
  rw [e]
  ac_rfl
theorem PD.mul {m n : Nat} {a b : F} {f g : F → F} (hf : PD m a f) (hg : PD n b g) : PD (m + n) (a * b) fun x => f x * g x := by
  obtain ⟨f', hf', ef⟩ := id hf
  obtain ⟨g', hg', eg⟩ := id hg
  have xp : PL (n) (fun x => g' x) := hg'
  refine ⟨fun x => f' x * g' x + f' x * (b * x.pw n) + a * (x.pw m * g' x), ?_, fun x => ?_⟩
  · have p1 : PL (m + n) fun x => f' x * g' x := hf'.mul hg'
    have sh : ∀ (k : Nat) {l : Nat} {f : F → F}, PL l f → PL (l + k) fun x => x.pw k * f x := fun k => by
      induction k with
      | zero => intro l f h; exact h.congr fun x => by rw [pw_zero, one_mul]
      | succ k ih => intro l f h; exact (ih h).shift.congr fun x => by rw [pw_succ]; ac_rfl
    have p2 : PL (m + n) fun x => f' x * (b * x.pw n) := ((sh n hf').smul b).congr fun x => by ac_rfl
    have p3 : PL (m + n) fun x => a * (x.pw m * g' x) := by
      have := (sh m hg').smul a
      rw [Nat.add_comm n m] at this
      exact this
    exact (p1.add p2).add p3
  · show f x * g x = _
    rw [ef, eg, add_mul, mul_add, mul_add, pw_add]
    have e1 : a * x.pw m * g' x = a * (x.pw m * g' x) := by ac_rfl
    have e2 : a * x.pw m * (b * x.pw n) = a * b * (x.pw m * x.pw n) := by ac_rfl
    rw [e1, e2]
    ac_rfl
theorem PD.length {n : Nat} {a : F} {f : F → F} {p : List F} (h : PD n a f) (ha : a ≠ 0) (tp : Tr p) (hp : p.length ≤ 128) (hn : n < 128) (e : ∀ x, ev p x = f x) : p.length = n + 1 := by
  obtain ⟨g, ⟨c, hl, hc⟩, hf⟩ := h
  have el : (c ++ [a]).length = n + 1 := by rw [List.length_append, hl]; rfl
  have tc : Tr (c ++ [a]) := Tr.of (by
    rw [el]
    have : (c ++ [a])[n + 1 - 1]? = some a := by
      rw [Nat.add_sub_cancel, ← hl, List.getElem?_append_right (Nat.le_refl _), Nat.sub_self]
      rfl
    rw [co_get this]
    exact ha)
  have := tp.unique tc hp (by rw [el]; omega) fun x => by
    rw [e, hf, hc, ev_append, ev_one, hl, mul_comm]
  rw [this, el]
theorem PL.length {n : Nat} {f : F → F} {p : List F} (h : PL n f) (tp : Tr p) (hp : p.length ≤ 128) (hn : n ≤ 128) (e : ∀ x, ev p x = f x) : p.length ≤ n := by
  obtain ⟨c, hl, hc⟩ := h
  have := co_eq_of_ev hp (by rw [hl]; exact hn) fun x => (e x).trans (hc x)
  exact tp.lt_of fun i hi => by rw [this, co_ge (by rw [hl]; exact hi)]
end MV
/-! Cutting noughts, lengths, the partial Euclid, the Lagrange word. -/
namespace MV

/-! ### cutting noughts -/
theorem co_take {p : List F} {s i : Nat} (h : i < s) : co (p.take s) i = co p i := by
  unfold co
  rw [List.getElem?_take, if_pos h]
theorem ev_take {p : List F} {s : Nat} (h : ∀ i, s ≤ i → co p i = 0) (x : F) : ev (p.take s) x = ev p x := by
  conv => rhs; rw [← List.take_append_drop s p]
  rw [ev_append, ev_zeros (p := p.drop s) x, mul_zero, add_zero]
  intro c hc
  obtain ⟨i, hi, rfl⟩ := List.mem_iff_getElem.mp hc
  rw [List.getElem_drop]
  rw [← co_lt]
  exact h _ (Nat.le_add_right _ _)
theorem Tr.take {p : List F} {s : Nat} (hs : s ≤ p.length) (h : 0 < s → co p (s - 1) ≠ 0) : Tr (p.take s) := by
  cases s with
  | zero => rw [List.take_zero]; exact Tr.nil
  | succ s =>
    refine Tr.of ?_
    rw [List.length_take, Nat.min_eq_left hs, co_take (by omega)]
    exact h (by omega)
theorem trim_ex (p : List F) : ∀ s, s ≤ p.length → (∀ i, s ≤ i → co p i = 0) → ∃ r : List F, Tr r ∧ r.length ≤ s ∧ ∀ x, ev r x = ev p x
  | 0, _, h => ⟨p.take 0, by rw [List.take_zero]; exact Tr.nil, by simp, ev_take h⟩
  | s + 1, hs, h => by
    by_cases e : co p s = 0
    · obtain ⟨r, t, l, v⟩ := trim_ex p s (by omega) fun i hi => by
        by_cases q : i = s
        · rw [q, e]
        · exact h i (by omega)
      exact ⟨r, t, by omega, v⟩
    · exact ⟨p.take (s + 1), Tr.take hs fun _ => e, by rw [List.length_take]; omega, ev_take h⟩
theorem trimmed_ex (p : List F) : ∃ r : List F, Tr r ∧ r.length ≤ p.length ∧ ∀ x, ev r x = ev p x :=
  trim_ex p p.length (Nat.le_refl _) fun _ h => co_ge h

/-! ### lengths -/
theorem ne_nil_of {p : List F} (h : 0 < p.length) : p ≠ [] := fun e => by rw [e] at h; cases h
theorem PL.mulE1 {n : Nat} {g : F → F} (hg : PL n g) : ∀ p : List F, p ≠ [] → PL (p.length - 1 + n) fun x => ev p x * g x
  | [], h => absurd rfl h
  | [a], _ => by
    have e : [a].length - 1 + n = n := by simp
    rw [e]
    exact (hg.smul a).congr fun x => by rw [ev_one]
  | a :: b :: t, _ => by
    have ih := PL.mulE1 hg (b :: t) (by simp)
    have e : (a :: b :: t).length - 1 + n = (b :: t).length - 1 + n + 1 := by simp only [List.length_cons]; omega
    rw [e]
    refine (((hg.smul a).mono (by omega)).add ih.shift).congr fun x => ?_
    rw [ev_cons, add_mul, mul_assoc]
theorem mul_length {p q r : List F} (tp : Tr p) (tq : Tr q) (tr : Tr r) (hp : p ≠ []) (hq : q ≠ []) (hl : p.length + q.length ≤ 128) (hr : r.length ≤ 128) (e : ∀ x, ev r x = ev p x * ev q x) :
    r.length + 1 = p.length + q.length := by
  have h1 := List.length_pos_iff.mpr hp
  have h2 := List.length_pos_iff.mpr hq
  have := ((PD.of hp).mul (PD.of hq)).length (mul_ne_zero (tp.last hp) (tq.last hq)) tr hr (by omega) e
  omega
theorem nil_of_ev {p : List F} (tp : Tr p) (hl : p.length ≤ 128) (h : ∀ x, ev p x = 0) : p = [] := tp.zero (zero_of_ev hl h)
/-- the quotient's length -/
theorem div_length {p q u r : List F} (tp : Tr p) (tq : Tr q) (tu : Tr u) (hq : q ≠ []) (hle : q.length ≤ p.length) (hr : r.length < q.length) (tr : Tr r) (hp : p.length ≤ 64) (hu : u.length ≤ 64)
    (e : ∀ x, ev p x = ev q x * ev u x + ev r x) : u.length + q.length = p.length + 1 := by
  have hun : u ≠ [] := by
    intro z
    have := tp.unique tr (by omega) (by omega) fun x => by rw [e, z, ev_nil, mul_zero, zero_add]
    rw [this] at hle
    omega
  have h1 := List.length_pos_iff.mpr hun
  have h2 := List.length_pos_iff.mpr hq
  have d := ((PD.of hq).mul (PD.of hun)).add (g := ev r) ((PL.of r).mono (by omega))
  have := d.length (mul_ne_zero (tq.last hq) (tu.last hun)) tp (by omega) (by omega) e
  omega
/-- what goes without a rest: the quotient is the factor -/
theorem div_exact {p q u r c : List F} (tq : Tr q) (tu : Tr u) (tr : Tr r) (hq : q ≠ []) (hr : r.length < q.length) (hql : q.length ≤ 32) (hu : u.length ≤ 32) (hc : c.length ≤ 32)
    (e : ∀ x, ev p x = ev q x * ev u x + ev r x) (ec : ∀ x, ev p x = ev q x * ev c x) : r = [] ∧ ∀ x, ev u x = ev c x := by
  obtain ⟨d, td, ld, vd⟩ := trimmed_ex (padd u c)
  rw [padd_length] at ld
  have vr : ∀ x, ev r x = ev q x * ev d x := fun x => by
    have h := e x
    rw [ec x] at h
    rw [vd, ev_padd, mul_add, h, ← add_assoc, add_self, zero_add]
  by_cases hd : d = []
  · have : ∀ x, ev u x = ev c x := fun x => by
      have := vd x
      rw [hd, ev_nil, ev_padd] at this
      exact eq_of_add_zero this.symm
    exact ⟨nil_of_ev tr (by omega) fun x => by rw [vr, hd, ev_nil, mul_zero], this⟩
  · have := mul_length tq td tr hq hd (by omega) (by omega) vr
    have := List.length_pos_iff.mpr hd
    omega

/-! ### the partial Euclid -/
structure GaoI (pts : List (F × F)) (n k : Nat) (ahead rest fa f : List F) : Prop where
  ta : Tr ahead
  tr : Tr rest
  tfa : Tr fa
  tf : Tr f
  va : ∀ q ∈ pts, ev ahead q.1 = ev fa q.1 * q.2
  vr : ∀ q ∈ pts, ev rest q.1 = ev f q.1 * q.2
  ln : f.length + ahead.length = n + 2
  lf : fa.length < f.length
  lr : rest.length < ahead.length
  lk : n + k + 2 ≤ 2 * ahead.length
theorem GaoI.start {pts : List (F × F)} {n k : Nat} {ahead rest : List F} (ta : Tr ahead) (tr : Tr rest) (hl : ahead.length = n + 1) (hr : rest.length ≤ n) (hk : k ≤ n)
    (va : ∀ q ∈ pts, ev ahead q.1 = 0) (vr : ∀ q ∈ pts, ev rest q.1 = q.2) : GaoI pts n k ahead rest [] [1] where
  ta := ta
  tr := tr
  tfa := Tr.nil
  tf := Tr.of (by show (1 : F) ≠ 0; exact one_ne_zero)
  va := fun q hq => by rw [va q hq, ev_nil, zero_mul]
  vr := fun q hq => by rw [vr q hq, ev_one, one_mul]
  ln := by rw [hl]; show 1 + (n + 1) = n + 2; omega
  lf := by show 0 < 1; omega
  lr := by omega
  lk := by omega
theorem GaoI.step {pts : List (F × F)} {n k : Nat} {ahead rest fa f u r g : List F} (I : GaoI pts n k ahead rest fa f) (hn : n ≤ 16) (hc : n + k + 2 ≤ 2 * rest.length)
    (tu : Tr u) (tr : Tr r) (hr : r.length < rest.length) (hu : u.length ≤ 64) (e : ∀ x, ev ahead x = ev rest x * ev u x + ev r x) (tg : Tr g) (hg : g.length ≤ 64) (eg : ∀ x, ev g x = ev fa x + ev u x * ev f x) :
    GaoI pts n k rest r f g := by
  have h1 := I.ln
  have h2 := I.lf
  have h3 := I.lr
  have nr : rest ≠ [] := ne_nil_of (by omega)
  have nf : f ≠ [] := ne_nil_of (by omega)
  have lu := div_length I.ta I.tr tu nr (by omega) hr tr (by omega) hu e
  have nu : u ≠ [] := ne_nil_of (by omega)
  have d := ((PD.of nu).mul (PD.of nf)).add (g := ev fa) ((PL.of fa).mono (by omega))
  have lg := d.length (mul_ne_zero (tu.last nu) (I.tf.last nf)) tg (by omega) (by omega) fun x => by rw [eg, add_comm]
  refine ⟨I.tr, tr, I.tf, tg, I.vr, fun q hq => ?_, by omega, by omega, hr, hc⟩
  have e1 := e q.1
  rw [I.va q hq, I.vr q hq] at e1
  rw [eg, add_mul]
  have e2 : ev u q.1 * ev f q.1 * q.2 = ev f q.1 * q.2 * ev u q.1 := by ac_rfl
  rw [e2, e1]
  generalize ev f q.1 * q.2 * ev u q.1 = z
  generalize ev r q.1 = y
  rw [add_comm z y, add_assoc, add_self, add_zero]
/-- the symbols that are as the word has them -/
def good (c : List F) (pts : List (F × F)) : List (F × F) := pts.filter fun q => decide (ev c q.1 = q.2)
def bad (c : List F) (pts : List (F × F)) : List (F × F) := pts.filter fun q => !decide (ev c q.1 = q.2)
theorem good_bad (c : List F) (pts : List (F × F)) : (good c pts).length + (bad c pts).length = pts.length := by
  unfold good bad
  induction pts with
  | nil => rfl
  | cons q t ih =>
    rw [List.filter_cons, List.filter_cons]
    cases decide (ev c q.1 = q.2) with
    | true => simp only [if_true, Bool.not_true, Bool.false_eq_true, if_false, List.length_cons]; omega
    | false => simp only [Bool.false_eq_true, if_false, Bool.not_false, if_true, List.length_cons]; omega
theorem GaoI.end {pts : List (F × F)} {n k : Nat} {ahead rest fa f c : List F} (I : GaoI pts n k ahead rest fa f) (hn : n ≤ 16) (hk : 1 ≤ k) (hkn : k ≤ n) (hc : ¬ n + k + 2 ≤ 2 * rest.length) (hl : pts.length = n)
    (hnd : (pts.map (·.1)).Nodup) (lc : c.length ≤ k) (hb : 2 * (bad c pts).length + k ≤ n) : ∀ x, ev rest x = ev f x * ev c x := by
  have h1 := I.ln
  have h2 := I.lf
  have h4 := I.lk
  have nf : f ≠ [] := ne_nil_of (by omega)
  have d : PL (max rest.length (f.length - 1 + c.length)) fun x => ev rest x + ev f x * ev c x := (PL.of rest).add_max ((PL.of c).mulE1 f nf)
  obtain ⟨z, lz, vz⟩ := d
  have gl := good_bad c pts
  have hz := few_roots ((good c pts).map (·.1)) z ?_ ?_ ?_
  · intro x
    have := vz x
    rw [ev_zeros x hz] at this
    exact eq_of_add_zero this
  · exact List.Nodup.sublist (List.Sublist.map _ List.filter_sublist) hnd
  · rw [List.length_map, lz]
    omega
  · intro r hr
    obtain ⟨q, hq, rfl⟩ := List.mem_map.mp hr
    obtain ⟨hq, e⟩ := List.mem_filter.mp hq
    rw [← vz]
    show ev rest q.1 + ev f q.1 * ev c q.1 = 0
    rw [I.vr q hq, of_decide_eq_true e, add_self]

/-! ### what goes through points, what is nought at them -/
/-- the product of x + b -/
def nou : List F → F → F
  | [], _ => 1
  | b :: t, x => (x + b) * nou t x
theorem nou_append (x : F) : ∀ s t : List F, nou (s ++ t) x = nou s x * nou t x
  | [], t => by show _ = 1 * _; rw [one_mul]; rfl
  | b :: s, t => by show (x + b) * nou (s ++ t) x = (x + b) * nou s x * nou t x; rw [nou_append x s t, mul_assoc]
theorem nou_zero {x : F} : ∀ {s : List F}, x ∈ s → nou s x = 0
  | b :: s, h => by
    show (x + b) * nou s x = 0
    rcases List.mem_cons.mp h with e | h
    · rw [e, add_self, zero_mul]
    · rw [nou_zero h, mul_zero]
theorem nou_ne {x : F} : ∀ {s : List F}, x ∉ s → nou s x ≠ 0
  | [], _ => one_ne_zero
  | b :: s, h => mul_ne_zero (fun e => h (eq_of_add_zero e ▸ List.mem_cons_self)) (nou_ne fun q => h (List.mem_cons_of_mem _ q))
theorem nou_pl : ∀ s : List F, PL (s.length + 1) (nou s)
  | [] => ⟨[1], rfl, fun x => by rw [ev_one]; rfl⟩
  | b :: s => (nou_pl s).lin b
theorem nou_pd : ∀ s : List F, PD s.length 1 (nou s)
  | [] => ⟨fun _ => 0, PL.zero 0, fun x => by show (1 : F) = 0 + 1 * 1; rw [zero_add, mul_one]⟩
  | b :: s => by
    have h : PD 1 1 fun x => x + b := ⟨fun _ => b, ⟨[b], rfl, fun x => (ev_one b x).symm⟩, fun x => by rw [one_mul, pw_one, add_comm]⟩
    have := h.mul (nou_pd s)
    rw [mul_one, Nat.add_comm] at this
    exact this

/-! ### the law's word -/
section
variable (lg : F → Int)
def slg (x : F) (s : List F) : Int := (s.map fun b => lg (x + b)).sum
theorem slg_gz (hl : ∀ a : F, a ≠ 0 → gz (lg a) = a) {x : F} : ∀ {s : List F}, x ∉ s → gz (slg lg x s) = nou s x
  | [], _ => rfl
  | b :: s, h => by
    show gz (lg (x + b) + slg lg x s) = (x + b) * nou s x
    have hne : x + b ≠ 0 := fun e => h (by rw [eq_of_add_zero e]; exact List.mem_cons_self)
    rw [gz_add, slg_gz hl (fun q => h (List.mem_cons_of_mem _ q)), hl _ hne]
/-- all of s but a -/
def but (s : List F) (a : F) : List F := s.filter fun b => !decide (b = a)
theorem not_mem_but (s : List F) (a : F) : a ∉ but s a := fun h => by
  have := (List.mem_filter.mp h).2
  simp at this
theorem mem_but {s : List F} {a b : F} (h : b ∈ s) (hn : b ≠ a) : b ∈ but s a := List.mem_filter.mpr ⟨h, by simp [hn]⟩
theorem but_length {a : F} : ∀ {s : List F}, a ∈ s → (but s a).length + 1 ≤ s.length
  | b :: s, h => by
    unfold but
    rw [List.filter_cons]
    by_cases e : b = a
    · simp only [e, decide_true, Bool.not_true, Bool.false_eq_true, if_false, List.length_cons]
      exact Nat.succ_le_succ (List.length_filter_le _ _)
    · simp only [e, decide_false, Bool.not_false, if_true, List.length_cons]
      have := but_length (s := s) (by
        rcases List.mem_cons.mp h with z | z
        · exact absurd z.symm e
        · exact z)
      unfold but at this
      omega
theorem nou_but {a x : F} : ∀ {s : List F}, s.Nodup → a ∈ s → nou s x = (x + a) * nou (but s a) x
  | b :: s, hn, h => by
    rw [List.nodup_cons] at hn
    unfold but
    rw [List.filter_cons]
    by_cases e : b = a
    · subst e
      simp only [decide_true, Bool.not_true, Bool.false_eq_true, if_false]
      show (x + b) * nou s x = _
      have : s.filter (fun c => !decide (c = b)) = s := List.filter_eq_self.mpr fun c hc => by
        have : c ≠ b := fun z => hn.1 (z ▸ hc)
        simp [this]
      rw [this]
    · simp only [e, decide_false, Bool.not_false, if_true]
      show (x + b) * nou s x = (x + a) * ((x + b) * nou (but s a) x)
      rw [nou_but hn.2 (by
        rcases List.mem_cons.mp h with z | z
        · exact absurd z.symm e
        · exact z)]
      ac_rfl
/-- one point's part of the polynomial -/
def part (s : List F) (q : F × F) (x : F) : F := q.2 * gz (- slg lg q.1 (but s q.1)) * nou (but s q.1) x
def lagr (s : List F) : List (F × F) → F → F
  | [], _ => 0
  | q :: t, x => lagr s t x + part lg s q x
theorem part_pl {s : List F} {q : F × F} (h : q.1 ∈ s) : PL s.length (part lg s q) :=
  (((nou_pl (but s q.1)).mono (but_length h)).smul (q.2 * gz (- slg lg q.1 (but s q.1)))).congr fun _ => rfl
theorem lagr_pl {s : List F} : ∀ {t : List (F × F)}, (∀ q ∈ t, q.1 ∈ s) → PL s.length (lagr lg s t)
  | [], _ => PL.zero _
  | q :: t, h => (lagr_pl fun q hq => h q (List.mem_cons_of_mem _ hq)).add (part_pl lg (h q List.mem_cons_self))
theorem part_other {s : List F} {q : F × F} {x : F} (h : x ∈ s) (hn : x ≠ q.1) : part lg s q x = 0 := by
  unfold part
  rw [nou_zero (mem_but h hn), mul_zero]
theorem part_own (hl : ∀ a : F, a ≠ 0 → gz (lg a) = a) (s : List F) (q : F × F) : part lg s q q.1 = q.2 := by
  unfold part
  rw [← slg_gz lg hl (not_mem_but s q.1), mul_assoc, mul_comm (gz _), gz_neg, mul_one]
theorem lagr_at (hl : ∀ a : F, a ≠ 0 → gz (lg a) = a) {s : List F} {x : F} (hx : x ∈ s) : ∀ {t : List (F × F)}, (t.map (·.1)).Nodup →
    (∀ y, (x, y) ∈ t → lagr lg s t x = y) ∧ (x ∉ t.map (·.1) → lagr lg s t x = 0)
  | [], _ => ⟨fun y h => (nomatch h), fun _ => rfl⟩
  | q :: t, hn => by
    rw [List.map_cons, List.nodup_cons] at hn
    obtain ⟨i1, i2⟩ := lagr_at hl hx hn.2
    refine ⟨fun y h => ?_, fun h => ?_⟩
    · show lagr lg s t x + part lg s q x = y
      rcases List.mem_cons.mp h with e | h
      · subst e
        rw [i2 hn.1, zero_add]
        exact part_own lg hl s (x, y)
      · have ne : x ≠ q.1 := fun z => hn.1 (z ▸ List.mem_map.mpr ⟨_, h, rfl⟩)
        rw [i1 y h, part_other lg hx ne, add_zero]
    · show lagr lg s t x + part lg s q x = 0
      rw [i2 fun z => h (List.mem_cons_of_mem _ z), part_other lg hx fun z => h (z ▸ List.mem_cons_self), zero_add]
theorem part_log (hl : ∀ a : F, a ≠ 0 → gz (lg a) = a) {s : List F} {q : F × F} {x : F} (hn : s.Nodup) (hq : q.1 ∈ s) (hx : x ∉ s) (hy : q.2 ≠ 0) :
    gz (lg q.2 + slg lg x s - lg (x + q.1) - slg lg q.1 (but s q.1)) = part lg s q x := by
  have hne : x + q.1 ≠ 0 := fun e => hx (eq_of_add_zero e ▸ hq)
  have e1 : gz (slg lg x s - lg (x + q.1)) = nou (but s q.1) x := by
    apply mul_cancel hne
    rw [← nou_but hn hq, ← slg_gz lg hl hx]
    conv => lhs; lhs; rw [← hl _ hne]
    rw [← gz_add]
    congr 1
    omega
  have e2 : lg q.2 + slg lg x s - lg (x + q.1) - slg lg q.1 (but s q.1) = lg q.2 + (- slg lg q.1 (but s q.1)) + (slg lg x s - lg (x + q.1)) := by omega
  rw [e2, gz_add, gz_add, hl _ hy, e1]
  rfl
end
end MV
/-! The text by places; symbols as values; small facts. -/
namespace Mv
open PySem PySem.Spec PyProof.Rows L2 MV

def topS (i : Nat) : Stmt := PySem.Challenge.pw_mendvault_k09_whole_corrected_rows.main.body.getD i (.Pass ⟨0, 0, 0, 0⟩)
abbrev sAdded : Stmt := topS 6
abbrev sTimes : Stmt := topS 7
abbrev sPower : Stmt := topS 8
abbrev sInverse : Stmt := topS 9
abbrev sOver : Stmt := topS 10
abbrev sTrimmed : Stmt := topS 12
abbrev sCoef : Stmt := topS 13
abbrev sPAdd : Stmt := topS 14
abbrev sPMul : Stmt := topS 15
abbrev sPVal : Stmt := topS 16
abbrev sPDiv : Stmt := topS 17
abbrev sPThru : Stmt := topS 18
abbrev sWordOf : Stmt := topS 20
abbrev sGiven : Stmt := topS 21
abbrev sUnlike : Stmt := topS 22
abbrev sNear : Stmt := topS 23
abbrev sCorr : Stmt := topS 24
abbrev sMixed : Stmt := topS 26
abbrev sPool : Stmt := topS 27
abbrev sTake : Stmt := topS 28
abbrev sField : Stmt := topS 29
abbrev sThru : Stmt := topS 30
abbrev sSymbol : Stmt := topS 31
abbrev sShape : Stmt := topS 32
abbrev sIsRow : Stmt := topS 33
abbrev sSome : Stmt := topS 34
abbrev sTold : Stmt := topS 35
abbrev sIsTold : Stmt := topS 36
abbrev sAgrees : Stmt := topS 37
abbrev sLaw : Stmt := topS 38

/-- a symbol as a value -/
def eI (a : F) : Int := (a.v : Int)
def e1 (a : F) : V := .int (eI a)
abbrev eL (p : List F) : List V := p.map e1
theorem eI_nonneg (a : F) : 0 ≤ eI a := Int.natCast_nonneg _
theorem eI_lt (a : F) : eI a < 128 := by
  unfold eI
  have := a.lt
  omega
theorem eI_inj {a b : F} (h : eI a = eI b) : a = b := F.ext' (Int.ofNat.inj h)
theorem eI_zero : eI 0 = 0 := rfl
theorem eI_one : eI 1 = 1 := rfl
theorem eI_eq_zero {a : F} : eI a = 0 ↔ a = 0 := ⟨fun h => eI_inj (h.trans eI_zero.symm), fun h => by rw [h, eI_zero]⟩

theorem same_upd {H : Hp} {p : Addr} {o : HO} (h : H p = none) : Same H (upd H p o) := fun b x e => by
  rw [upd_ne (ne_of_none e h)]
  exact e
theorem same_tup {K : PySem.W.Frag} {H H' : Hp} {a : Addr} {xs : List V} (e : Same H H') (h : SqT K H a xs) : SqT K H' a xs := by
  rcases h with (h | ⟨o, h⟩) | h
  · exact .inl (.inl (e _ _ h))
  · exact .inl (.inr ⟨o, e _ _ h⟩)
  · exact .inr h
theorem xor_eI (a b : F) : Builtin.bitXor (eI a) (eI b) = eI (a + b) := by
  rw [Bits.bitXor_pp (eI_nonneg a) (eI_nonneg b)]
  rfl
theorem dec_true {p : Prop} [Decidable p] {A B : Prop} (h : p) (a : A) : if decide p = true then A else B := by
  rw [if_pos (decide_eq_true h)]
  exact a
theorem dec_false {p : Prop} [Decidable p] {A B : Prop} (h : ¬ p) (b : B) : if decide p = true then A else B := by
  rw [if_neg (by rw [decide_eq_false h]; exact Bool.false_ne_true)]
  exact b
theorem dec_case {p : Prop} [Decidable p] {A B : Prop} (a : p → A) (b : ¬ p → B) : if decide p = true then A else B := by
  by_cases h : p
  · exact dec_true h (a h)
  · exact dec_false h (b h)

/-- a def of the module that keeps a promise and lets nothing out -/
structure Df (P : Program) (w : World) (K : PySem.W.Frag) (mg : Str → Option Value) (base : Heap) (CX : CXT) (k : Nat) (x : Str) (ps : List Str) (sp : Sp) (f : Addr) (fd : FuncData) : Prop where
  ok : FnOk P w K mg base CX k f fd ps sp
  mg : mg x = some (.ref f)
  kp : PySem.W.keepIn K (.ref f) = true
  bd : Binds K fd ps []
/-- its call -/
theorem pcall {X : Cx} {k : Nat} {x : Str} {ps : List Str} {sp : Sp} {f : Addr} {fd : FuncData} {p pos : Pos} {e : Expr} {es : List Expr} {t : TA} (D : Df X.prog X.w X.K X.mg X.base CX0 k x ps sp f fd) (hr : Room k X.A) (ha : PA X (e :: es) t) (hg : Gl X x := by rfl)
    (hdb : (x == ("__debug__" : Str)) = false := by decide) (he : starEach (e :: es) X.env = (false, eval e X.env) :: starEach es X.env := by rfl) (hpl : (backTo pos (starEach es X.env)).any (·.1) = false := by rfl) :
    PE X (.Call (.Name x p) (e :: es) [] pos) (tCall sp [] E0 t) := pe_call D.ok hr hg D.mg D.kp D.bd .nil pass0 ha hdb he hpl
end Mv
/-! The field's defs. -/
namespace Mv
open PySem PySem.Spec PyProof.Rows L2 MV
section
variable {P : Program} {w : World} {K : PySem.W.Frag} {mg : Str → Option Value} {base : Heap}

/-! ### added -/
def spAdded : Sp := fun vs H Q _ => ∃ a b : F, vs = [e1 a, e1 b] ∧ Q (e1 (a + b)) H
theorem scAdded : FnScope ["a", "b"] ["a", "b"] (defScope sAdded) := ⟨rfl, rfl, rfl, by decide +kernel, rfl, by decide +kernel, by decide +kernel⟩
theorem ok_added {f : Addr} {fd : FuncData} (F0 : Fun K "added" "added" sAdded f fd) : FnOk P w K mg base CX0 1 f fd ["a", "b"] spAdded := by
  refine F0.ok scAdded (fun vs H Q E h => ?_) (fun cdv A outer s H vs Q E hr h => ?_)
  · obtain ⟨a, b, rfl, _⟩ := h
    rfl
  · obtain ⟨a, b, rfl, k⟩ := h
    refine ⟨_, pss_one (ps_ret (pe_op op_xor (pv 0) (pv 1))), ?_⟩
    refine ⟨_, rfl, _, rfl, eI a, eI b, rfl, rfl, ?_⟩
    show Q (.int (Builtin.bitXor (eI a) (eI b))) H
    rw [xor_eI]
    exact k

/-! ### times -/
theorem tl_zero (T A : F) : ∀ n, F.tl n T A 0 = T
  | 0 => rfl
  | n + 1 => tl_zero T A.dbl n
theorem nn1 : (0 : Int) ≤ 1 := by decide
theorem st3 {x x' y y' z z' : Int} (hx : x = x') (hy : y = y') (hz : z = z') : ([some (.int x), some (.int y), some (.int z)] : L2.St) = [some (.int x'), some (.int y'), some (.int z')] := by rw [hx, hy, hz]
def spTimes : Sp := fun vs H Q _ => ∃ a b : F, vs = [e1 a, e1 b] ∧ Q (e1 (a * b)) H
theorem scTimes : FnScope ["a", "b", "total"] ["a", "b"] (defScope sTimes) := ⟨rfl, rfl, rfl, by decide +kernel, rfl, by decide +kernel, by decide +kernel⟩
theorem and_one (n : Nat) : Builtin.bitAnd (n : Int) 1 = ((n % 2 : Nat) : Int) := by
  rw [bitAnd_pp (by omega) (by omega)]
  show ((n &&& 1 : Nat) : Int) = _
  rw [Nat.and_one_is_mod]
theorem ok_times {f : Addr} {fd : FuncData} {tm : Tok} (F0 : Fun K "times" "times" sTimes f fd) (gm : mg "MODULUS" = some (.int 131 tm)) : FnOk P w K mg base CX0 1 f fd ["a", "b"] spTimes := by
  refine F0.ok scTimes (fun vs H Q E h => ?_) (fun cdv A outer s H vs Q E hr h => ?_)
  · obtain ⟨a, b, rfl, _⟩ := h
    rfl
  · obtain ⟨a, b, rfl, k⟩ := h
    refine ⟨_, pss_cons (ps_set (i := 2) scTimes.nd rfl (.inl rfl) pe_int)
      (pss_cons (ps_while PassesOwn.never (pt_cmpR op_gt (pv 1) pe_int (nomark _))
        (pss_cons (ps_if (pt_cmpR op_eq (pe_op op_and (pv 1) pe_int) pe_int (nomark _)) (pss_one (ps_set (i := 2) scTimes.nd rfl (.inl rfl) (pe_op op_xor (pv 2) (pv 0)))) pss_nil)
        (pss_cons (ps_set (i := 0) scTimes.nd rfl (.inl rfl) (pe_op op_shl (pv 0) pe_int))
        (pss_cons (ps_if (pt_cmpR op_gt (pv 0) pe_int (nomark _)) (pss_one (ps_set (i := 0) scTimes.nd rfl (.inl rfl) (pe_op op_xor (pv 0) (pe_glob rfl gm (show RelV (.int 131) _ from ⟨_, rfl⟩))))) pss_nil)
        (pss_one (ps_set (i := 1) scTimes.nd rfl (.inl rfl) (pe_op op_shr (pv 1) pe_int)))))))
      (pss_one (ps_ret (pv 2)))), ?_⟩
    refine ⟨fun m σ H' => ∃ (A : F) (B n : Nat) (T : F), σ = [some (e1 A), some (.int B), some (e1 T)] ∧ m = B ∧ B < 2 ^ n ∧ F.tl n T A B = a * b ∧ H' = H,
      ⟨_, a, b.v, 7, 0, rfl, rfl, b.lt, rfl, rfl⟩, ?_⟩
    rintro m σ H' ⟨A, B, n, T, rfl, em, hB, ht, rfl⟩
    subst em
    refine ⟨_, rfl, _, _, rfl, rfl, _, rfl, dec_case (fun h0 => ?_) (fun h0 => ?_)⟩
    · cases n with
      | zero => exact absurd hB (by omega)
      | succ n =>
        refine ⟨_, fun _ _ z => z, ?_⟩
        have hB2 : m / 2 < 2 ^ n := by rw [Nat.pow_succ] at hB; omega
        have hb := and_one m
        refine ⟨_, rfl, _, _, rfl, rfl, rfl, _, rfl, ?_⟩
        show if decide (V.int (Builtin.bitAnd (m : Int) 1) = V.int 1) = true then _ else _
        rw [hb]
        have ht1 : F.tl n (if m % 2 = 1 then T + A else T) A.dbl (m / 2) = a * b := ht
        have hsh : CPow (eI A) 1 := ⟨by decide, by decide, by have := eI_nonneg A; have := eI_lt A; omega⟩
        have hsr : (m : Int) / 2 ^ (1 : Int).toNat = ((m / 2 : Nat) : Int) := by show (m : Int) / 2 = _; omega
        have hdl : eI A * 2 ^ (1 : Int).toNat = ((A.v * 2 : Nat) : Int) := by show (A.v : Int) * 2 = _; omega
        have hd1 : 127 < eI A * 2 ^ (1 : Int).toNat → Builtin.bitXor (eI A * 2 ^ (1 : Int).toNat) 131 = eI A.dbl := fun h => by
          rw [hdl] at h ⊢
          rw [Bits.bitXor_pp (by omega) (by decide)]
          show (((A.v * 2) ^^^ 131 : Nat) : Int) = ((if 127 < A.v * 2 then (A.v * 2) ^^^ 131 else A.v * 2 : Nat) : Int)
          rw [if_pos (by omega)]
        have hd2 : ¬ 127 < eI A * 2 ^ (1 : Int).toNat → eI A * 2 ^ (1 : Int).toNat = eI A.dbl := fun h => by
          rw [hdl] at h ⊢
          show _ = ((if 127 < A.v * 2 then (A.v * 2) ^^^ 131 else A.v * 2 : Nat) : Int)
          rw [if_neg (by omega)]
        refine dec_case (fun hq => ?_) (fun hq => ?_)
        · have hq : m % 2 = 1 := by
            have := V.int.inj hq
            omega
          rw [if_pos hq] at ht1
          refine ⟨_, rfl, _, rfl, _, _, rfl, rfl, _, rfl, _, _, rfl, rfl, hsh, _, rfl, _, _, rfl, rfl, _, rfl, dec_case (fun hc => ?_) (fun hc => ?_)⟩
          · exact ⟨_, rfl, _, _, rfl, rfl, _, rfl, _, _, rfl, rfl, nn1, m / 2, by omega, A.dbl, m / 2, n, T + A, st3 (hd1 hc) hsr (xor_eI T A), rfl, hB2, ht1, rfl⟩
          · exact ⟨_, rfl, _, _, rfl, rfl, nn1, m / 2, by omega, A.dbl, m / 2, n, T + A, st3 (hd2 hc) hsr (xor_eI T A), rfl, hB2, ht1, rfl⟩
        · have hq : ¬ m % 2 = 1 := fun z => hq (by rw [z]; rfl)
          rw [if_neg hq] at ht1
          refine ⟨_, rfl, _, _, rfl, rfl, hsh, _, rfl, _, _, rfl, rfl, _, rfl, dec_case (fun hc => ?_) (fun hc => ?_)⟩
          · exact ⟨_, rfl, _, _, rfl, rfl, _, rfl, _, _, rfl, rfl, nn1, m / 2, by omega, A.dbl, m / 2, n, T, st3 (hd1 hc) hsr rfl, rfl, hB2, ht1, rfl⟩
          · exact ⟨_, rfl, _, _, rfl, rfl, nn1, m / 2, by omega, A.dbl, m / 2, n, T, st3 (hd2 hc) hsr rfl, rfl, hB2, ht1, rfl⟩
    · have e0 : m = 0 := by omega
      subst e0
      rw [tl_zero] at ht
      exact ⟨_, rfl, by rw [ht]; exact k⟩

/-! ### power, inverse, over -/
def spPower : Sp := fun vs H Q _ => ∃ (a : F) (n : Nat), vs = [e1 a, .int n] ∧ Q (e1 (a.pw n)) H
theorem scPower : FnScope ["a", "n", "total"] ["a", "n"] (defScope sPower) := ⟨rfl, rfl, rfl, by decide +kernel, rfl, by decide +kernel, by decide +kernel⟩
theorem pw_half (A : F) (n : Nat) : A.pw n = (if n % 2 = 1 then A else 1) * (A * A).pw (n / 2) := by
  rw [pw_sq]
  have e := Nat.div_add_mod n 2
  by_cases h : n % 2 = 1
  · rw [if_pos h, MV.mul_comm, ← pw_succ]
    congr 1
    omega
  · rw [if_neg h, MV.one_mul]
    congr 1
    omega
theorem ok_power {f fT : Addr} {fd fdT : FuncData} (F0 : Fun K "power" "power" sPower f fd) (DT : Df P w K mg base CX0 1 "times" ["a", "b"] spTimes fT fdT) : FnOk P w K mg base CX0 2 f fd ["a", "n"] spPower := by
  refine F0.ok scPower (fun vs H Q E h => ?_) (fun cdv A outer s H vs Q E hr h => ?_)
  · obtain ⟨a, n, rfl, _⟩ := h
    rfl
  · obtain ⟨a, n, rfl, k⟩ := h
    refine ⟨_, pss_cons (ps_set (i := 2) scPower.nd rfl (.inl rfl) pe_int)
      (pss_cons (ps_while PassesOwn.never (pt_cmpR op_gt (pv 1) pe_int (nomark _))
        (pss_cons (ps_if (pt_cmpR op_eq (pe_op op_and (pv 1) pe_int) pe_int (nomark _)) (pss_one (ps_set (i := 2) scPower.nd rfl (.inl rfl) (pcall DT hr (pa_cons (pv 2) (pa_cons (pv 0) pa_nil))))) pss_nil)
        (pss_cons (ps_set (i := 0) scPower.nd rfl (.inl rfl) (pcall DT hr (pa_cons (pv 0) (pa_cons (pv 0) pa_nil))))
        (pss_one (ps_set (i := 1) scPower.nd rfl (.inl rfl) (pe_op op_shr (pv 1) pe_int))))))
      (pss_one (ps_ret (pv 2)))), ?_⟩
    refine ⟨fun m σ H' => ∃ (A : F) (N : Nat) (T : F), σ = [some (e1 A), some (.int N), some (e1 T)] ∧ m = N ∧ T * A.pw N = a.pw n ∧ H' = H,
      ⟨_, a, n, 1, rfl, rfl, MV.one_mul _, rfl⟩, ?_⟩
    rintro m σ H' ⟨A, N, T, rfl, em, ht, rfl⟩
    subst em
    refine ⟨_, rfl, _, _, rfl, rfl, _, rfl, dec_case (fun h0 => ?_) (fun h0 => ?_)⟩
    · refine ⟨_, fun _ _ z => z, ?_⟩
      have hb := and_one m
      refine ⟨_, rfl, _, _, rfl, rfl, rfl, _, rfl, ?_⟩
      show if decide (V.int (Builtin.bitAnd (m : Int) 1) = V.int 1) = true then _ else _
      rw [hb]
      have hsr : (m : Int) / 2 ^ (1 : Int).toNat = ((m / 2 : Nat) : Int) := by show (m : Int) / 2 = _; omega
      rw [pw_half] at ht
      refine dec_case (fun hq => ?_) (fun hq => ?_)
      · have hq : m % 2 = 1 := by
          have := V.int.inj hq
          omega
        rw [if_pos hq, ← MV.mul_assoc] at ht
        exact ⟨_, rfl, _, rfl, T, A, rfl, _, rfl, _, rfl, A, A, rfl, _, rfl, _, _, rfl, rfl, nn1, m / 2, by omega, A * A, m / 2, T * A, st3 rfl hsr rfl, rfl, ht, rfl⟩
      · have hq : ¬ m % 2 = 1 := fun z => hq (by rw [z]; rfl)
        rw [if_neg hq, MV.one_mul] at ht
        exact ⟨_, rfl, _, rfl, A, A, rfl, _, rfl, _, _, rfl, rfl, nn1, m / 2, by omega, A * A, m / 2, T, st3 rfl hsr rfl, rfl, ht, rfl⟩
    · have e0 : m = 0 := by omega
      subst e0
      rw [pw_zero, MV.mul_one] at ht
      exact ⟨_, rfl, by rw [ht]; exact k⟩

def spInverse : Sp := fun vs H Q _ => ∃ a : F, vs = [e1 a] ∧ a ≠ 0 ∧ Q (e1 a.inv) H
theorem scInverse : FnScope ["a"] ["a"] (defScope sInverse) := ⟨rfl, rfl, rfl, by decide +kernel, rfl, by decide +kernel, by decide +kernel⟩
theorem e1_zero {a : F} : e1 a = V.int 0 ↔ a = 0 := ⟨fun h => eI_eq_zero.mp (V.int.inj h), fun h => by rw [h]; rfl⟩
theorem ok_inverse {f fP : Addr} {fd fdP : FuncData} (F0 : Fun K "inverse" "inverse" sInverse f fd) (DP : Df P w K mg base CX0 2 "power" ["a", "n"] spPower fP fdP) : FnOk P w K mg base CX0 3 f fd ["a"] spInverse := by
  refine F0.ok scInverse (fun vs H Q E h => ?_) (fun cdv A outer s H vs Q E hr h => ?_)
  · obtain ⟨a, rfl, _⟩ := h
    rfl
  · obtain ⟨a, rfl, ha, k⟩ := h
    refine ⟨_, pss_cons (ps_if (pt_cmpR op_eq (pv 0) pe_int (nomark _)) (pss_one ps_never) pss_nil) (pss_one (ps_ret (pcall DP hr (pa_cons (pv 0) (pa_cons pe_int pa_nil))))), ?_⟩
    refine ⟨_, rfl, rfl, _, rfl, dec_false (fun h => ha (e1_zero.mp h)) ?_⟩
    exact ⟨_, rfl, a, 126, rfl, k⟩

def spOver : Sp := fun vs H Q _ => ∃ a b : F, vs = [e1 a, e1 b] ∧ b ≠ 0 ∧ Q (e1 (a * b.inv)) H
theorem scOver : FnScope ["a", "b"] ["a", "b"] (defScope sOver) := ⟨rfl, rfl, rfl, by decide +kernel, rfl, by decide +kernel, by decide +kernel⟩
theorem ok_over {f fT fI : Addr} {fd fdT fdI : FuncData} (F0 : Fun K "over" "over" sOver f fd) (DT : Df P w K mg base CX0 1 "times" ["a", "b"] spTimes fT fdT) (DI : Df P w K mg base CX0 3 "inverse" ["a"] spInverse fI fdI) : FnOk P w K mg base CX0 4 f fd ["a", "b"] spOver := by
  refine F0.ok scOver (fun vs H Q E h => ?_) (fun cdv A outer s H vs Q E hr h => ?_)
  · obtain ⟨a, b, rfl, _⟩ := h
    rfl
  · obtain ⟨a, b, rfl, hb, k⟩ := h
    refine ⟨_, pss_cons (ps_if (pt_cmpR op_eq (pv 1) pe_int (nomark _)) (pss_one ps_never) pss_nil) (pss_one (ps_ret (pcall DT (hr.mono (by decide)) (pa_cons (pv 0) (pa_cons (pcall DI hr (pa_cons (pv 1) pa_nil)) pa_nil))))), ?_⟩
    refine ⟨_, rfl, rfl, _, rfl, dec_false (fun h => hb (e1_zero.mp h)) ?_⟩
    exact ⟨_, rfl, _, rfl, b, rfl, hb, a, b.inv, rfl, k⟩
end
end Mv
/-! Rules that the layer lacks: t[::-1] of a tuple; enumerate of a tuple. -/
namespace Mv
open PySem PySem.Spec PyProof.Rows L2 MV HT

section
variable {prog : Program} {w : World} {A : Around} {E : Value → Shared → Prop} {s : Shared}
theorem back_bounds (n : Nat) : Builtin.Slice.sliceAdjust none none (-1) (n : Int) = ((n : Int) - 1, -1) := by
  unfold Builtin.Slice.sliceAdjust
  simp only [show ((-1 : Int) < 0) from by decide, if_true]
theorem back_places (n : Nat) : Builtin.Slice.slicePlaces ((n : Int) - 1) (-1) (-1) = n := by
  unfold Builtin.Slice.slicePlaces
  simp only [show ¬ ((-1 : Int) > 0) from by decide, if_false, Int.neg_neg, Int.ediv_one]
  split <;> omega
theorem back_items (xs : Array Value) : ((List.range xs.size).filterMap fun (k : Nat) => xs[(((xs.size : Int) - 1) + (k : Int) * (-1)).toNat]?).toArray = xs.toList.reverse.toArray := by
  have e : ∀ k, k ∈ List.range xs.size → xs[(((xs.size : Int) - 1) + (k : Int) * (-1)).toNat]? = xs[xs.size - 1 - k]? := fun k _ => by
    congr 1
    omega
  have e2 : (List.range xs.size).filterMap (fun (k : Nat) => xs[(((xs.size : Int) - 1) + (k : Int) * (-1)).toNat]?) = (List.range xs.size).filterMap (fun k => xs[xs.size - 1 - k]?) := by
    rw [show (fun (k : Nat) => xs[(((xs.size : Int) - 1) + (k : Int) * (-1)).toNat]?) = fun k => xs[xs.size - 1 - k]? from by
      funext k
      congr 1
      omega]
  rw [e2]
  have e3 : (List.range xs.size).filterMap (fun k => xs[xs.size - 1 - k]?) = ((List.range xs.size).map (fun k => xs.size - 1 - k)).filterMap (xs[·]?) := by
    rw [List.filterMap_map]
    rfl
  rw [e3, PySem.W.krv_range, List.filterMap_reverse, PySem.W.krv_all]
theorem sliceApplied_back {sl : Addr} {vs : Value} {n : Nat} {R : Int × Int × Nat → Shared → Prop} (hs : s.heap.IsSliceOf sl .none .none vs) (ps : IsPart vs (some (-1)))
    (hR : R ((n : Int) - 1, -1, n) s) : wpAny (model prog w) A (Builtin.Slice.sliceApplied (.ref sl) (pure (n : Int))) R E s := by
  obtain ⟨os, hos, hcs, hds⟩ := id hs
  unfold Builtin.Slice.sliceApplied Builtin.Slice.sliceFields
  refine wpAny_bind (wpAny_bind (wpAny_field hos hds (x := .none) rfl (wpAny_bind (wpAny_field hos hds (x := .none) rfl (wpAny_bind (wpAny_field hos hds (x := vs) rfl (wpAny_pure ?_)))))))
  refine wpAny_bind (slicePart_ ps ?_)
  show wpAny _ _ (if ((-1 : Int) == 0) = true then _ else _) _ _ s
  rw [if_neg (by decide)]
  refine wpAny_bind (slicePart_none (wpAny_bind (slicePart_none (wpAny_bind (wpAny_pure ?_)))))
  show wpAny _ _ (match Builtin.Slice.sliceAdjust none none (-1) (n : Int) with | (lo, hi) => pure (lo, (-1 : Int), Builtin.Slice.slicePlaces lo hi (-1))) _ _ s
  rw [back_bounds]
  show wpAny _ _ (pure ((n : Int) - 1, (-1 : Int), Builtin.Slice.slicePlaces ((n : Int) - 1) (-1) (-1))) _ _ s
  rw [back_places]
  exact wpAny_pure hR
theorem getItem_tuple_back {t sl : Addr} {items : Array Value} {vs : Value} {Q : Value → Shared → Prop} (ht : IsTup s.heap t items) (hs : s.heap.IsSliceOf sl .none .none vs) (ps : IsPart vs (some (-1)))
    (h : Q (.ref s.heap.objs.size) { s with heap := s.heap.push { cls := .type "tuple", data := .seq items.toList.reverse.toArray } })
    (hsz : items.size ≤ sizeLine) : wpAny (model prog w) A (getItem (.ref t) (.ref sl)) Q E s := by
  have htake : sizeOk (.seq items.toList.reverse.toArray) := by
    show items.toList.reverse.toArray.size ≤ sizeLine
    rw [List.size_toArray, List.length_reverse, Array.length_toList]
    exact hsz
  obtain ⟨os, hos, hcs, hds⟩ := id hs
  have hTs : s.TypeIs (.ref sl) "slice" := ⟨os, hos, hcs⟩
  unfold getItem
  try with_reducible refine wpAny_holding ?_
  first | refine wpAny_bind (wpAny_pure ?_) | skip
  refine wpAny_bind (wpAny_sequenceKey ht.typeIs (by decide) ?_)
  refine wpAny_bind (wpAny_callSpecial?_slot (name := Str.ofString "__getitem__") ht.typeIs PyProof.Rows.slot_tuple_getitem
    (wpAny_call_entry PyProof.Rows.slot_tuple_getitem ht.typeIs entry_tuple_getitem ?_ (args_tuple_getitem _ _)))
  show wpAny _ _ (Builtin.Tuple.tupleItemsOf (.ref t) >>= _) _ _ s
  refine wpAny_bind (tupleItemsOf_ ht ?_)
  refine wpAny_bind (wpAny_typeOf hTs ?_)
  rw [if_pos (by decide)]
  refine wpAny_bind (sliceApplied_back hs ps ?_)
  have hno : ¬ ((((items.size : Int) - 1) == 0 && (-1 : Int) == 1 && items.size == items.size) = true) := by
    intro q
    rw [Bool.and_eq_true, Bool.and_eq_true] at q
    exact absurd q.1.2 (by decide)
  show wpAny _ _ (if (((items.size : Int) - 1) == 0 && (-1 : Int) == 1 && items.size == items.size) = true then _ else _) _ _ s
  rw [if_neg hno, back_items]
  first
    | exact wpAny_bind (m := Builtin.Tuple.tupleExact _) (wpAny_newObj_type (wpAny_pure ⟨_, rfl, wpAny_pure h⟩) htake)
    | exact wpAny_bind (m := Builtin.Tuple.tupleExact _) (wpAny_newObj_type (wpAny_bind (wpAny_pure (wpAny_pure ⟨_, rfl, wpAny_pure h⟩))) htake)
    | exact wpAny_bind (wpAny_bind (m := Builtin.Tuple.tupleExact _) (wpAny_newObj_type (wpAny_pure (wpAny_pure ⟨_, rfl, wpAny_pure h⟩)) htake))
    | exact wpAny_bind (wpAny_bind (m := Builtin.Tuple.tupleExact _) (wpAny_newObj_type (wpAny_pure ⟨_, rfl, wpAny_pure h⟩) htake))
end
def tRevT (K : PySem.W.Frag) (te : TE) : TE := fun σ H Q => te σ H fun x H1 => ∃ a xs, x = .ref a ∧ SqT K H1 a xs ∧ ∀ p, H1 p = none → Q (.ref p) (upd H1 p (.tup xs.reverse))
theorem pe_revT {X : Cx} {e : Expr} {te : TE} {k : Nat} {p1 p2 p3 pos : Pos} (he : PE X e te) : PE X (.Subscript e (.Slice none none (some (.UnaryOp .USub (.Constant (.int 1) k p1) p2)) p3) pos) (tRevT X.K te) := by
  refine ⟨fun pins s σ H Q I h => ?_⟩
  refine Subscript_ (thn (he.run pins s σ H _ I h) fun v s1 ⟨x, H1, I1, r1, q1⟩ => ?_)
  obtain ⟨a, xs, ex, hx, q⟩ := q1
  subst ex
  cases r1
  have hst : PO X (some (.UnaryOp .USub (.Constant (.int 1) k p1) p2)) (tPart (tUn (rU fun i => .int (-i)) (tC (.int 1)))) := po_some (pe_un un_neg pe_int)
  refine wpAny_Slice (thn (po_none.run pins s1 σ H1 (fun o H2 => o = none ∧ H2 = H1) I1 ⟨rfl, rfl⟩) fun vl s2 ⟨l, H2, I2, pl, el, e2⟩ => ?_)
  subst el e2
  refine thn (po_none.run pins s2 σ H2 (fun o H3 => o = none ∧ H3 = H2) I2 ⟨rfl, rfl⟩) fun vu s3 ⟨u, H3, I3, pu, eu, e3⟩ => ?_
  subst eu e3
  refine thn (hst.run pins s3 σ H3 (fun o H4 => o = some (-1) ∧ H4 = H3) I3 ⟨1, rfl, -1, rfl, rfl, rfl⟩) fun vs s4 ⟨o, H4, I4, ps, eo, e4⟩ => ?_
  subst eo e4
  cases pl
  cases pu
  have I5 : Inv X pins σ H4 { s4 with heap := s4.heap.push { cls := .type "slice", data := .fields #[.none, .none, vs] } } := I4.kept (t' := s4.toks) fun b ob q => Heap.get?_push_of_some _ q
  obtain ⟨its, r, ht, hz⟩ := I5.tuple hx
  have hlen := r.length
  show wpAny (model X.prog X.w) X.A (subscriptTail e (.Slice none none (some (.UnaryOp .USub (.Constant (.int 1) k p1) p2)) p3) (.ref a) (.ref s4.heap.objs.size)) (EP X pins σ Q) X.xe { s4 with heap := s4.heap.push { cls := .type "slice", data := .fields #[.none, .none, vs] } }
  refine tail_any (ops := [.ref a, .ref s4.heap.objs.size]) ht.typeIs PyProof.Rows.slot_tuple_getitem.lookup ?_ (by with_unfolding_all rfl)
  refine getItem_tuple_back ht (Heap.IsSliceOf.new _ .none .none vs) ps ?_ (by rw [List.size_toArray]; omega)
  refine ⟨.ref _, _, I5.laid (t' := s4.toks) (o := .tup xs.reverse) (fun b ob q => Heap.get?_push_of_some _ q) (Nat.le_refl _) ?_, rfl, q _ (I5.hok.fresh (Nat.le_refl _))⟩
  exact ⟨by rw [List.length_reverse]; exact hz, its.reverse, r.reverse, IsTup.new _ _⟩

/-! ### enumerate of a tuple -/
set_option maxHeartbeats 1000000 in
theorem meets_enum_tup (t : Addr) (items : Array Value) :
    Meets (Builtin.«enumerate.__new__» ⟨[.type "enumerate", .ref t], []⟩) (fun _ R s => s.heap.IsTuple t items ∧
      R (.ok (.ret (.ref (s.heap.push { cls := .type "tuple_iterator", data := .fields #[.ref t, .int 0 0] }).objs.size)))
        { s with heap := (s.heap.push { cls := .type "tuple_iterator", data := .fields #[.ref t, .int 0 0] }).push { cls := .type "enumerate", data := .fields #[.none, .bool false, .ref s.heap.objs.size, rawInt 0, .none, .none] } }) :=
  .of_wp fun prog w A R s h => by
    obtain ⟨hp, g, d, tk, os⟩ := s
    obtain ⟨h1, h⟩ := h
    have hsub := sub_enumerate
    have q1 : ∀ {A' : Around} {E : Value → Shared → Prop} {Q : Value → Shared → Prop}, Q (.ref hp.objs.size) ⟨hp.push { cls := .type "tuple_iterator", data := .fields #[.ref t, .int 0 0] }, g, d, tk, os⟩ → wpAny (model prog w) A' (pyIter (.ref t)) Q E ⟨hp, g, d, tk, os⟩ :=
      fun q => (begins_tuple t items).iter prog w _ _ ⟨hp, g, d, tk, os⟩ _ h1 q
    wp_walk using q1
    refine wpAny_stack_any fun st => wpAny_pure ?_
    split
    · rename_i c _ _ _ _ _
      cases (c == Value.type "enumerate")
      · wp_walk using q1
        exact ⟨_, rfl, h⟩
      · wp_walk using q1
        exact ⟨_, rfl, h⟩
    · wp_walk using q1
      exact ⟨_, rfl, h⟩
section
variable {prog : Program} {w : World} {A : Around} {E : Value → Shared → Prop} {s : Shared}
theorem call_enum_tup {t : Addr} {items : Array Value} {Q : Value → Shared → Prop} (hT : s.heap.IsTuple t items)
    (h : ∀ h', IsEnum h' (s.heap.objs.size + 1) s.heap.objs.size 0 .none → h'.IsTupleIter s.heap.objs.size t 0 → (∀ b o, s.heap.get? b = some o → h'.get? b = some o) → Q (.ref (s.heap.objs.size + 1)) { s with heap := h' }) :
    wpAny (model prog w) A (call (.type "enumerate") [.ref t]) Q E s := by
  refine callType_new F.called_enumerate (by decide) (F.typeCall_enumerate_1 _) (F.newCall_enumerate_1 _) (fun obj => F.args_object_init_2 obj _) F.entry_enumerate_new (meets_enum_tup t items) ⟨hT, ?_⟩
  have hz : (s.heap.push { cls := .type "tuple_iterator", data := .fields #[.ref t, .int 0 0] }).objs.size = s.heap.objs.size + 1 := Heap.size_push ..
  show _ ∧ _
  rw [hz]
  have he : IsEnum ((s.heap.push { cls := .type "tuple_iterator", data := .fields #[.ref t, .int 0 0] }).push { cls := .type "enumerate", data := .fields #[.none, .bool false, .ref s.heap.objs.size, rawInt 0, .none, .none] }) (s.heap.objs.size + 1) s.heap.objs.size 0 .none := by
    have q := Heap.get?_push_size (s.heap.push { cls := .type "tuple_iterator", data := .fields #[.ref t, .int 0 0] }) (o := { cls := .type "enumerate", data := .fields #[.none, .bool false, .ref s.heap.objs.size, rawInt 0, .none, .none] }) rfl
    rw [hz] at q
    exact q
  exact ⟨⟨_, he, rfl⟩, h _ he ⟨_, Heap.get?_push_of_some _ (Heap.get?_push_size _ rfl), rfl, rfl⟩ fun b o x => Heap.get?_push_of_some _ (Heap.get?_push_of_some _ x)⟩
end
/-- the tuple at a as it stands at each turn, each item in a new pair -/
def IteT (K : PySem.W.Frag) (a : Addr) : It :=
  ⟨fun i H => ∃ (xs : List V) (x : V), SqT K H a xs ∧ xs[i]? = some x, fun i H v H' => ∃ T x, v = .ref T ∧ H T = none ∧ H' = upd H T (.tup [.int (i : Nat), x]) ∧ ∀ xs, SqT K H a xs → xs[i]? = some x, fun i H => ∃ xs : List V, SqT K H a xs ∧ xs.length = i⟩
theorem apart_cls {h : Heap} {a b : Addr} {oa ob : Obj} (ha : h.get? a = some oa) (hb : h.get? b = some ob) (hn : oa.cls ≠ ob.cls) : a ≠ b := fun e => by
  subst e
  rw [ha] at hb
  cases hb
  exact hn rfl
theorem turn_enumT {P : Program} {w : World} {K : PySem.W.Frag} {elts : List Expr} {kk : Nat} {tpos : Pos} (a e it : Addr) :
    Turn P w K (.Tuple elts kk tpos) (IteT K a) [e, it] e (fun i h => (∃ old, IsEnum h e it ((i : Nat) : Int) old) ∧ h.IsTupleIter it a i ∧ e ≠ it) where
  mem := by simp
  obj := fun i h st b hb => by
    obtain ⟨⟨old, he⟩, ⟨o, ho, hc, hd⟩, _⟩ := st
    have e' : b = e ∨ b = it := by simpa using hb
    rcases e' with z | z
    · rw [z]; exact ⟨_, he, fun v q => nomatch q⟩
    · rw [z]; exact ⟨o, ho, fun v q => by rw [hd] at q; cases q⟩
  keep := fun i h h' st k => let ⟨⟨old, he⟩, hi, hne⟩ := st; ⟨⟨old, k e (by simp) _ he⟩, hi.at fun o q => k it (by simp) o q, hne⟩
  item := by
    intro X hP hw hK hc i pins s σ H E I hf st hg
    subst hP hw hK
    obtain ⟨⟨old, he⟩, hit, hne⟩ := st
    obtain ⟨xs, x, hq, hx⟩ := hg
    obtain ⟨its, rv, p, hz⟩ := I.tuple hq
    have p' : s.heap.IsTuple a its.toArray := p
    obtain ⟨u, hu, ru⟩ := rv.get hx
    have hel : e < s.heap.objs.size := Heap.lt_size he
    have hil : it < s.heap.objs.size := by obtain ⟨_, q, _⟩ := hit; exact Heap.lt_size q
    have hai : a ≠ it := by
      obtain ⟨oa, ga, ca, _⟩ := p'
      obtain ⟨oi, gi, ci, _⟩ := hit
      exact apart_cls ga gi (by rw [ca, ci]; decide)
    have hae : a ≠ e := by
      obtain ⟨oa, ga, ca, _⟩ := p'
      refine apart_cls ga he ?_
      rw [ca]
      show Value.type "tuple" ≠ Value.type "enumerate"
      decide
    have hlt : i < its.toArray.size := by
      rw [List.size_toArray]
      exact (List.getElem?_eq_some_iff.mp hu).1
    refine wpAny_pyNext_enum_itemD (Draws.tuple (prog := X.prog) (w := X.w) (A := X.A.in1) (show X.A.in1.handled = none from I.ok.hd hc) it a hai its.toArray) he ⟨hit, p'⟩ hlt hne (by simp only [List.mem_cons, List.not_mem_nil, or_false, not_or]; exact ⟨hne, hae.symm⟩) fun u' h' tk hu' ho hst' hT hsz hk => ?_
    obtain ⟨hit', _⟩ := hst'
    have eu : u' = u := by
      have q : its[i]? = some u' := by simpa using hu'
      rw [hu] at q
      exact (Option.some.inj q).symm
    subst eu
    refine ⟨_, rfl, wpAny_letOwnedTupleGo_enum (s := { s with heap := h', toks := tk + 1 }) ho fun h'' he' sb => ?_⟩
    have hT2 : h''.get? s.heap.objs.size = some { cls := .type "tuple", data := .seq #[.int i tk, u'] } := (sb.2 _ (Nat.ne_of_gt hel)).trans hT
    have new : ObjOk X.prog X.w (upd H s.heap.objs.size (.tup [.int (i : Nat), x])) h'' s.heap.objs.size (.tup [.int (i : Nat), x]) :=
      ⟨by show 2 ≤ sizeLine; decide, [.int i tk, u'], .cons ⟨_, rfl⟩ (.cons ru .nil), ⟨_, hT2, rfl, _, rfl⟩⟩
    have I1 : Inv X pins σ (upd H s.heap.objs.size (.tup [.int (i : Nat), x])) { s with heap := h'', toks := tk + 1 } :=
      I.turnedNew (ch := [e, it]) (fun b ob hb q => (sb.2 b (fun z => hb (by simp [z]))).trans (hk b ob (fun z => hb (by simp [z])) (fun z => hb (by simp [z])) q)) hf (Nat.le_refl _) new
    refine ⟨.ref s.heap.objs.size, _, I1, rfl, ⟨_, x, rfl, I.hok.fresh (Nat.le_refl _), rfl, fun ys hy => by rw [I.tuple_inj hy hq]; exact hx⟩, ⟨⟨u', ?_⟩, hit'.at fun o q => (sb.2 it (Ne.symm hne)).trans q, hne⟩, fun b hb => ?_⟩
    · have e1 : ((i + 1 : Nat) : Int) = (i : Int) + 1 := by omega
      rw [e1]; exact he'
    · have hb' : b < s.heap.objs.size := by
        have e' : b = e ∨ b = it := by simpa using hb
        rcases e' with z | z
        · rw [z]; exact hel
        · rw [z]; exact hil
      rw [upd_ne (Nat.ne_of_lt hb')]
      exact (hf b hb).1
  done := by
    intro X hP hw hK hc i pins s σ H E I hf st hg
    subst hP hw hK
    obtain ⟨⟨old, he⟩, hit, hne⟩ := st
    obtain ⟨xs, hq, hx⟩ := hg
    obtain ⟨its, rv, p, hz⟩ := I.tuple hq
    have p' : s.heap.IsTuple a its.toArray := p
    have hai : a ≠ it := by
      obtain ⟨oa, ga, ca, _⟩ := p'
      obtain ⟨oi, gi, ci, _⟩ := hit
      exact apart_cls ga gi (by rw [ca, ci]; decide)
    obtain ⟨f0, f1, f2, f3, f4, f5⟩ := hf it (by simp)
    have hl := rv.length
    have en : i = its.toArray.size := by rw [List.size_toArray]; omega
    rw [en] at hit
    exact wpAny_pyNext_enum_endD (Draws.tuple (prog := X.prog) (w := X.w) (A := X.A.in1) (show X.A.in1.handled = none from I.ok.hd hc) it a hai its.toArray) he ⟨hit, p'⟩ fun h' eb => ⟨rfl, I.turned (t' := s.toks) (fun b o hb q => eb b o hb q) f0 f1 f3 f4 f5⟩
  self := fun A i s Q E st h => let ⟨⟨_, he⟩, _⟩ := st; wpAny_pyIter_enum he h
/-- enumerate of a list or a tuple -/
def iEnumA (K : PySem.W.Frag) (ta : TA) : TI := fun σ H R => ta σ H fun vs H1 => ∃ a xs, vs = [.ref a] ∧ ((SqL K H1 a xs ∧ R (Ite K a) H1) ∨ (SqT K H1 a xs ∧ R (IteT K a) H1))
theorem pi_enumA {X : Cx} {e : Expr} {ta : TA} {p pos tpos : Pos} {elts : List Expr} {kk : Nat} (hg : Gl X "enumerate") (hm : X.mg "enumerate" = none) (ha : PA X [e] ta) (hs : starEach [e] X.env = [(false, eval e X.env)] := by rfl) :
    PI X (.Tuple elts kk tpos) (.Call (.Name "enumerate" p) [e] [] pos) (iEnumA X.K ta) := by
  refine ⟨fun pins s σ H R I h => ?_⟩
  refine Call_ (ld_blt I hg hm boot_enumerate (PyProof.Rows.callWith_type1 (thn (ha.run pos pins s σ H _ I h) fun us s1 ⟨vs, H1, I1, r1, q1⟩ => ?_) hs rfl))
  obtain ⟨a, xs, ex, q⟩ := q1
  subst ex
  cases r1 with
  | cons r rr =>
    cases rr
    cases r
    have fpk : ∀ b, b ∈ [s1.heap.objs.size + 1, s1.heap.objs.size] → s1.heap.objs.size ≤ b := fun b hb => by
      have e' : b = s1.heap.objs.size + 1 ∨ b = s1.heap.objs.size := by simpa using hb
      rcases e' with z | z
      · rw [z]; exact Nat.le_add_right _ _
      · rw [z]; exact Nat.le_refl _
    rcases q with ⟨hq, q⟩ | ⟨hq, q⟩
    · obtain ⟨its, rv, p', hz⟩ := I1.list hq
      refine call_enumerate_list p'.isList fun h' he hit hsz hk => wpAny_pyIter_enum he ?_
      have I2 : Inv X pins σ H1 { s1 with heap := h' } := I1.kept (t' := s1.toks) hk
      exact ⟨s1.heap.objs.size + 1, [s1.heap.objs.size + 1, s1.heap.objs.size], _, _, H1, rfl, I2, turn_enum a (s1.heap.objs.size + 1) s1.heap.objs.size, ⟨⟨.none, he⟩, hit, Nat.succ_ne_self _⟩, fun b hb => I1.fpOk (fpk b hb) (I1.hok.fresh (fpk b hb)), q⟩
    · obtain ⟨its, rv, p', hz⟩ := I1.tuple hq
      refine call_enum_tup (items := its.toArray) p' fun h' he hit hk => wpAny_pyIter_enum he ?_
      have I2 : Inv X pins σ H1 { s1 with heap := h' } := I1.kept (t' := s1.toks) hk
      exact ⟨s1.heap.objs.size + 1, [s1.heap.objs.size + 1, s1.heap.objs.size], _, _, H1, rfl, I2, turn_enumT a (s1.heap.objs.size + 1) s1.heap.objs.size, ⟨⟨.none, he⟩, hit, Nat.succ_ne_self _⟩, fun b hb => I1.fpOk (fpk b hb) (I1.hok.fresh (fpk b hb)), q⟩
theorem walk_enumT {K : PySem.W.Frag} {a : Addr} {xs : List V} : Walk (IteT K a) xs.length (fun H => SqT K H a xs) (YPair (fun i => some (.int (i : Nat))) (fun i => xs[i]?)) := by
  refine ⟨fun i _ hi q => ⟨xs, xs[i], q, by simp [hi]⟩, fun _ q => ⟨xs, q, rfl⟩, fun i H v H' _ q y => ?_⟩
  obtain ⟨T, x, h1, h2, h3, h4⟩ := y
  exact ⟨T, .int (i : Nat), x, h1, h2, h3, rfl, h4 xs q⟩
end Mv
/-! The defs of polys. -/
namespace Mv
open PySem PySem.Spec PyProof.Rows L2 MV

theorem eL_get {p : List F} {j : Nat} (h : j < p.length) : (eL p)[j]? = some (e1 (co p j)) := by
  rw [List.getElem?_map, List.getElem?_eq_getElem h, co_lt h]
  rfl
theorem at_eL {p : List F} {z : Int} {j : Nat} (e : z = (j : Int)) (h : j < p.length) : atI (eL p) z = some (e1 (co p j)) := at_of e (eL_get h)
theorem eL_length (p : List F) : (eL p).length = p.length := List.length_map _
theorem eL_take (p : List F) (s : Nat) : (eL p).take s = eL (p.take s) := List.map_take.symm
theorem cut_to (xs : List V) (s : Nat) : cutV xs none (some (s : Int)) = xs.take s := by
  unfold cutV
  rw [HT.sIx_none, HT.sIx_nat]
  show (xs.take (min s xs.length - 0)) = _
  rw [Nat.sub_zero]
  by_cases h : s ≤ xs.length
  · rw [Nat.min_eq_left h]
  · rw [Nat.min_eq_right (by omega), List.take_length, List.take_of_length_le (by omega)]
theorem line_of {n : Nat} (h : n ≤ 1000) : n ≤ sizeLine := Nat.le_of_lt (small1000 h)

section
variable {P : Program} {w : World} {K : PySem.W.Frag} {mg : Str → Option Value} {base : Heap}

/-! ### trimmed -/
def spTrimmed (K : PySem.W.Frag) : Sp := fun vs H Q _ => ∃ (p : Addr) (r : List F), vs = [.ref p] ∧ SqL K H p (eL r) ∧
  ∀ (q : List F) (a : Addr) (H' : Hp), Same H H' → SqT K H' a (eL q) → Tr q → (∀ x, ev q x = ev r x) → q.length ≤ r.length → Q (.ref a) H'
theorem scTrimmed : FnScope ["row", "size"] ["row"] (defScope sTrimmed) := ⟨rfl, rfl, rfl, by decide +kernel, rfl, by decide +kernel, by decide +kernel⟩
theorem ok_trimmed {f : Addr} {fd : FuncData} (F0 : Fun K "trimmed" "trimmed" sTrimmed f fd) (ml : mg "len" = none) (mt : mg "tuple" = none) : FnOk P w K mg base CX0 1 f fd ["row"] (spTrimmed K) := by
  refine F0.ok scTrimmed (fun vs H Q E h => ?_) (fun cdv A outer s H vs Q E hr h => ?_)
  · obtain ⟨p, r, rfl, _⟩ := h
    rfl
  · obtain ⟨p, r, rfl, hS, k⟩ := h
    refine ⟨_, pss_cons (ps_set (i := 1) scTrimmed.nd rfl (.inl rfl) (pe_callB call_len_seq (by rfl) ml PySem.boot_len (pa_cons (pv 0) pa_nil)))
      (pss_cons (ps_while PassesOwn.never (PW.pt (pw_and (pt_cmpR op_gt (pv 1) pe_int (nomark _)) (pw_and1 (pt_cmpR op_eq (pe_ix ix_list (pv 0) (pe_op op_sub (pv 1) pe_int) (fun _ _ => rfl)) pe_int (nomark _)))))
        (pss_one (ps_set (i := 1) scTrimmed.nd rfl (.inl rfl) (pe_op op_sub (pv 1) pe_int))))
      (pss_one (ps_ret (pe_callTy call_tuple_of (by rfl) mt (by decide +kernel) (pa_cons (pe_slice sl_list (pv 0) po_none (po_some (pv 1))) pa_nil))))), ?_⟩
    refine ⟨_, rfl, p, _, rfl, .inl hS, ?_⟩
    refine ⟨fun m σ H' => ∃ n : Nat, σ = [some (.ref p), some (.int n)] ∧ m = n ∧ n ≤ r.length ∧ (∀ i, n ≤ i → co r i = 0) ∧ H' = H, ⟨_, r.length, by rw [eL_length]; rfl, rfl, Nat.le_refl _, fun i hi => co_ge hi, rfl⟩, ?_⟩
    rintro m σ H' ⟨n, rfl, em, hn, hz, rfl⟩
    subst em
    have done : (0 < m → co r (m - 1) ≠ 0) → ∀ c l : Addr, H' c = none → (upd H' c (.lst (cutV (eL r) none (some (m : Int))))) l = none → Q (.ref l) (upd (upd H' c (.lst (cutV (eL r) none (some (m : Int))))) l (.tup (cutV (eL r) none (some (m : Int))))) := fun hq c l hc hl => by
      refine k (r.take m) l _ (Same.trans (same_upd hc) (same_upd hl)) ?_ (Tr.take hn hq) (ev_take hz) (by rw [List.length_take]; omega)
      rw [cut_to, eL_take]
      exact SqT.of upd_same
    refine ⟨_, rfl, _, _, rfl, rfl, _, rfl, dec_case (fun h0 => ?_) (fun h0 => ?_)⟩
    · have hm : m - 1 < r.length := by omega
      refine ⟨_, rfl, _, rfl, _, _, rfl, rfl, p, _, _, _, rfl, rfl, hS, at_eL (j := m - 1) (by omega) hm, rfl, _, rfl, dec_case (fun h1 => ?_) (fun h1 => ?_)⟩
      · have hc : co r (m - 1) = 0 := e1_zero.mp h1
        refine ⟨_, fun _ _ z => z, _, rfl, _, _, rfl, rfl, m - 1, by omega, m - 1, ?_, rfl, by omega, fun i hi => ?_, rfl⟩
        · rw [show ((m - 1 : Nat) : Int) = (m : Int) - 1 by omega]
          rfl
        · by_cases hi' : i = m - 1
          · rw [hi', hc]
          · exact hz i (by omega)
      · exact ⟨_, rfl, _, rfl, _, rfl, p, _, rfl, hS, fun c hc => ⟨c, _, rfl, .inl ⟨SqL.of upd_same, fun l hl => done (fun _ z => h1 (e1_zero.mpr z)) c l hc hl⟩⟩⟩
    · exact ⟨_, rfl, _, rfl, _, rfl, p, _, rfl, hS, fun c hc => ⟨c, _, rfl, .inl ⟨SqL.of upd_same, fun l hl => done (fun z => absurd z (by omega)) c l hc hl⟩⟩⟩

/-! ### coefficient_at -/
def spCoef (K : PySem.W.Frag) : Sp := fun vs H Q _ => ∃ (p : Addr) (r : List F) (i : Nat), vs = [.ref p, .int i] ∧ SqT K H p (eL r) ∧ Q (e1 (co r i)) H
theorem scCoef : FnScope ["p", "k"] ["p", "k"] (defScope sCoef) := ⟨rfl, rfl, rfl, by decide +kernel, rfl, by decide +kernel, by decide +kernel⟩
theorem ok_coef {f : Addr} {fd : FuncData} (F0 : Fun K "coefficient_at" "coefficient_at" sCoef f fd) (ml : mg "len" = none) : FnOk P w K mg base CX0 1 f fd ["p", "k"] (spCoef K) := by
  refine F0.ok scCoef (fun vs H Q E h => ?_) (fun cdv A outer s H vs Q E hr h => ?_)
  · obtain ⟨p, r, i, rfl, _⟩ := h
    rfl
  · obtain ⟨p, r, i, rfl, hT, k⟩ := h
    refine ⟨_, pss_one (ps_ret (pe_ifExp (pt_cmpR op_lt (pv 1) (pe_callB call_len_seq (by rfl) ml PySem.boot_len (pa_cons (pv 0) pa_nil)) (nomark _)) (pe_ix ix_tup (pv 0) (pv 1) (fun _ _ => rfl)) pe_int)), ?_⟩
    refine ⟨_, rfl, _, rfl, p, _, rfl, .inr hT, _, _, rfl, rfl, _, rfl, dec_case (fun h0 => ?_) (fun h0 => ?_)⟩
    · rw [eL_length] at h0
      exact ⟨_, rfl, _, rfl, p, _, _, _, rfl, rfl, hT, at_eL (j := i) rfl (by omega), k⟩
    · rw [eL_length] at h0
      rw [co_ge (by omega)] at k
      exact k

/-! ### poly_added -/
def spPAdd (K : PySem.W.Frag) : Sp := fun vs H Q _ => ∃ (p q : Addr) (r s : List F), vs = [.ref p, .ref q] ∧ SqT K H p (eL r) ∧ SqT K H q (eL s) ∧ r.length ≤ 100 ∧ s.length ≤ 100 ∧
  ∀ (t : List F) (a : Addr) (H' : Hp), Same H H' → SqT K H' a (eL t) → Tr t → (∀ x, ev t x = ev r x + ev s x) → t.length ≤ max r.length s.length → Q (.ref a) H'
theorem scPAdd : FnScope ["p", "q", "k"] ["p", "q"] (defScope sPAdd) := ⟨rfl, rfl, rfl, by decide +kernel, rfl, by decide +kernel, by decide +kernel⟩
theorem int0 (n : Nat) : V.int (0 + (n : Int)) = V.int n := congrArg V.int (Int.zero_add _)
theorem max_if (m n : Nat) : (if (n : Int) > (m : Int) then (n : Int) else (m : Int)) = ((max m n : Nat) : Int) := by
  split <;> omega
theorem ok_padd {f fT fA fC : Addr} {fd fdT fdA fdC : FuncData} (F0 : Fun K "poly_added" "poly_added" sPAdd f fd) (DT : Df P w K mg base CX0 1 "trimmed" ["row"] (spTrimmed K) fT fdT) (DA : Df P w K mg base CX0 1 "added" ["a", "b"] spAdded fA fdA)
    (DC : Df P w K mg base CX0 1 "coefficient_at" ["p", "k"] (spCoef K) fC fdC) (ml : mg "len" = none) (mr : mg "range" = none) (mm : mg "max" = none) : FnOk P w K mg base CX0 2 f fd ["p", "q"] (spPAdd K) := by
  refine F0.ok scPAdd (fun vs H Q E h => ?_) (fun cdv A outer s H vs Q E hr h => ?_)
  · obtain ⟨p, q, r, s, rfl, _⟩ := h
    rfl
  · obtain ⟨p, q, r, s, rfl, hp, hq, lr, ls, k⟩ := h
    refine ⟨_, pss_one (ps_ret (pcall DT hr (pa_cons (pe_lc (own := [("k", 2)]) (g := gName 2) (tt := tYes) rfl scPAdd.nd
      (pi_range1 rfl mr (pa_cons (pe_callB (call_max2 rfl) (by rfl) mm (by decide +kernel) (pa_cons (pe_callB call_len_seq (by rfl) ml PySem.boot_len (pa_cons (pv 0) pa_nil)) (pa_cons (pe_callB call_len_seq (by rfl) ml PySem.boot_len (pa_cons (pv 1) pa_nil)) pa_nil))) pa_nil))
      (blkOk_by (N := ["p", "q", "k"]) (sc := defScope sPAdd) (by decide +kernel)) (fun _ _ _ _ _ => pg_name (i := 2) scPAdd.nd rfl (Or.inl rfl)) (fun _ _ _ _ _ => pts_nil)
      (fun _ _ _ _ _ => pcall DA hr (pa_cons (pcall DC hr (pa_cons (pv 0) (pa_cons (pv 2) pa_nil))) (pa_cons (pcall DC hr (pa_cons (pv 1) (pa_cons (pv 2) pa_nil))) pa_nil)))) pa_nil))), ?_⟩
    refine ⟨_, rfl, p, _, rfl, .inr hp, _, rfl, q, _, rfl, .inr hq, _, _, rfl, ?_⟩
    rw [eL_length, eL_length, max_if]
    refine ⟨_, rfl, by omega, by omega, fun D hD => ?_⟩
    refine lc_range (lo := 0) (n := ((max r.length s.length : Nat) : Int).toNat) (fun i H' => Same H H' ∧ H' D = some (.lst (eL ((List.range i).map fun j => co r j + co s j))))
      ⟨same_upd hD, upd_same⟩ (fun i H' hi hP => ?_) (fun H' hP => ?_)
    · obtain ⟨sm, hd⟩ := hP
      refine ⟨rfl, ?_⟩
      refine ⟨_, rfl, _, rfl, p, r, i, congrArg (fun z => [V.ref p, z]) (int0 i), same_tup sm hp, _, rfl, _, rfl, q, s, i, congrArg (fun z => [V.ref q, z]) (int0 i), same_tup sm hq, _, _, rfl, ?_⟩
      refine ⟨_, hd, ?_, fun b o e => ?_, ?_⟩
      · rw [eL_length, List.length_map, List.length_range]
        exact small1000 (by omega)
      · rw [upd_ne (ne_of_none e hD)]
        exact sm b o e
      · rw [upd_same, List.range_succ, List.map_append]
        show _ = some (HO.lst (eL (_ ++ _)))
        rw [show eL (_ ++ _) = _ from List.map_append]
        rfl
    · obtain ⟨sm, hd⟩ := hP
      refine ⟨D, _, rfl, SqL.of hd, fun t a H2 sm2 ht tr et lt => k t a H2 (sm.trans sm2) ht tr (fun x => ?_) ?_⟩
      · rw [et, Int.toNat_natCast]
        exact ev_padd r s x
      · rw [Int.toNat_natCast] at lt
        exact Nat.le_trans lt (Nat.le_of_eq (padd_length r s))

/-! ### poly_value -/
def hz (x : F) (l : List F) : F := l.foldl (fun t c => t * x + c) 0
theorem hz_rev (x : F) (r : List F) : hz x r.reverse = ev r x := by
  unfold hz
  rw [List.foldl_reverse]
  induction r with
  | nil => rfl
  | cons a r ih => rw [List.foldr_cons, ih, ev_cons, MV.add_comm, MV.mul_comm]
theorem hz_snoc (x : F) (l : List F) (c : F) : hz x (l ++ [c]) = hz x l * x + c := by
  unfold hz
  rw [List.foldl_append]
  rfl
theorem take_snoc {α : Type} {l : List α} {i : Nat} {a : α} (h : l[i]? = some a) : l.take (i + 1) = l.take i ++ [a] := by
  rw [List.take_add_one, h]
  rfl
def spPVal (K : PySem.W.Frag) : Sp := fun vs H Q _ => ∃ (p : Addr) (r : List F) (x : F), vs = [.ref p, e1 x] ∧ SqT K H p (eL r) ∧ ∀ H', Same H H' → Q (e1 (ev r x)) H'
theorem scPVal : FnScope ["p", "x", "total", "c"] ["p", "x"] (defScope sPVal) := ⟨rfl, rfl, rfl, by decide +kernel, rfl, by decide +kernel, by decide +kernel⟩
theorem ok_pval {f fA fT : Addr} {fd fdA fdT : FuncData} (F0 : Fun K "poly_value" "poly_value" sPVal f fd) (DA : Df P w K mg base CX0 1 "added" ["a", "b"] spAdded fA fdA) (DT : Df P w K mg base CX0 1 "times" ["a", "b"] spTimes fT fdT) :
    FnOk P w K mg base CX0 2 f fd ["p", "x"] (spPVal K) := by
  refine F0.ok scPVal (fun vs H Q E h => ?_) (fun cdv A outer s H vs Q E hr h => ?_)
  · obtain ⟨p, r, x, rfl, _⟩ := h
    rfl
  · obtain ⟨p, r, x, rfl, hp, k⟩ := h
    refine ⟨_, pss_cons (ps_set (i := 2) scPVal.nd rfl (.inl rfl) pe_int)
      (pss_cons (ps_for PassesOwn.never rfl (pi_tup (pe_revT (pv 0))) (pg_name (i := 3) scPVal.nd rfl (Or.inl rfl))
        (pss_one (ps_set (i := 2) scPVal.nd rfl (.inl rfl) (pcall DA hr (pa_cons (pcall DT hr (pa_cons (pv 2) (pa_cons (pv 1) pa_nil))) (pa_cons (pv 3) pa_nil))))))
      (pss_one (ps_ret (pv 2)))), ?_⟩
    refine ⟨_, rfl, p, _, rfl, hp, fun q hq => ?_⟩
    have sm := same_upd (o := .tup (eL r).reverse) hq
    have hS : SqT K (upd H q (.tup (eL r).reverse)) q (eL r.reverse) := by
      rw [show eL r.reverse = (eL r).reverse from List.map_reverse]
      exact SqT.of upd_same
    refine ⟨q, rfl, ⟨_, hS⟩, for_tup (xs := eL r.reverse) (fun i σ H' => ∃ v, σ = [some (.ref p), some (e1 x), some (e1 (hz x (r.reverse.take i))), v] ∧ H' = upd H q (.tup (eL r).reverse))
      ⟨_, rfl, rfl⟩ (fun i σ H' _ hP => ?_) (fun i y σ H' hy hP => ?_) (fun σ H' hP => ?_)⟩
    · obtain ⟨v, _, rfl⟩ := hP
      exact hS
    · obtain ⟨v, rfl, rfl⟩ := hP
      rw [List.getElem?_map] at hy
      cases e : r.reverse[i]? with
      | none => rw [e] at hy; cases hy
      | some c =>
        rw [e] at hy
        cases hy
        refine ⟨_, rfl, _, rfl, hz x (r.reverse.take i), x, rfl, _, rfl, _, c, rfl, some (e1 c), ?_, rfl⟩
        rw [take_snoc e, hz_snoc]
        rfl
    · obtain ⟨v, rfl, rfl⟩ := hP
      rw [eL_length, List.take_length, hz_rev]
      exact ⟨_, rfl, k _ sm⟩

/-! ### poly_times -/
theorem same_mut {H H' : Hp} {D : Addr} {o : HO} (e : Same H H') (hD : H D = none) : Same H (upd H' D o) := fun b x h => by
  rw [upd_ne (ne_of_none h hD)]
  exact e b x h
theorem rep_zero : ∀ n : Nat, (List.replicate n [V.int 0]).flatten = eL (List.replicate n 0)
  | 0 => rfl
  | n + 1 => by
    rw [List.replicate_succ, List.replicate_succ, List.flatten_cons, rep_zero n]
    rfl
theorem ixN_at {n j : Nat} {z : Int} (e : z = (j : Int)) (h : j < n) : ixN n z = some j := by
  subst e
  unfold ixN
  rw [if_pos (by omega), if_pos (by omega), Int.toNat_natCast]
theorem eL_set (p : List F) (j : Nat) (a : F) : (eL p).set j (e1 a) = eL (p.set j a) := List.map_set.symm
theorem ev_take_succ {r : List F} {i : Nat} {a : F} (h : r[i]? = some a) (x : F) : ev (r.take (i + 1)) x = ev (r.take i) x + x.pw i * a := by
  rw [take_snoc h, ev_append, ev_one, List.length_take]
  have : i < r.length := (List.getElem?_eq_some_iff.mp h).1
  rw [Nat.min_eq_left (by omega)]
def spPMul (K : PySem.W.Frag) : Sp := fun vs H Q _ => ∃ (p q : Addr) (r s : List F), vs = [.ref p, .ref q] ∧ SqT K H p (eL r) ∧ SqT K H q (eL s) ∧ r.length ≤ 100 ∧ s.length ≤ 100 ∧
  ∀ (t : List F) (a : Addr) (H' : Hp), Same H H' → SqT K H' a (eL t) → Tr t → (∀ x, ev t x = ev r x * ev s x) → t.length ≤ r.length + s.length → Q (.ref a) H'
theorem scPMul : FnScope ["p", "q", "row", "i", "one", "j", "other"] ["p", "q"] (defScope sPMul) := ⟨rfl, rfl, rfl, by decide +kernel, rfl, by decide +kernel, by decide +kernel⟩
theorem eL_some {r : List F} {i : Nat} {x : V} (h : (eL r)[i]? = some x) : ∃ a, r[i]? = some a ∧ x = e1 a := by
  rw [List.getElem?_map] at h
  cases e : r[i]? with
  | none => rw [e] at h; cases h
  | some a => rw [e] at h; cases h; exact ⟨a, rfl, rfl⟩
theorem ok_pmul {f fT fA fR : Addr} {fd fdT fdA fdR : FuncData} (F0 : Fun K "poly_times" "poly_times" sPMul f fd) (DR : Df P w K mg base CX0 1 "trimmed" ["row"] (spTrimmed K) fR fdR) (DA : Df P w K mg base CX0 1 "added" ["a", "b"] spAdded fA fdA)
    (DT : Df P w K mg base CX0 1 "times" ["a", "b"] spTimes fT fdT) (ml : mg "len" = none) (me : mg "enumerate" = none) : FnOk P w K mg base CX0 2 f fd ["p", "q"] (spPMul K) := by
  refine F0.ok scPMul (fun vs H Q E h => ?_) (fun cdv A outer s H vs Q E hr h => ?_)
  · obtain ⟨p, q, r, s, rfl, _⟩ := h
    rfl
  · obtain ⟨p, q, r, s, rfl, hp, hq, lr, ls, k⟩ := h
    have nd := scPMul.nd
    refine ⟨_, pss_cons (ps_set (i := 2) nd rfl (.inl rfl) (pe_op op_rep (pe_lst (pa_cons pe_int pa_nil)) (pe_op op_add (pe_callB call_len_seq (by rfl) ml PySem.boot_len (pa_cons (pv 0) pa_nil)) (pe_callB call_len_seq (by rfl) ml PySem.boot_len (pa_cons (pv 1) pa_nil)))))
      (pss_cons (ps_for PassesOwn.never rfl (pi_enumA rfl me (pa_cons (pv 0) pa_nil)) (pg_tup rfl (pgs_cons (pg_name (i := 3) nd rfl (.inl rfl)) (pgs_cons (pg_name (i := 4) nd rfl (.inl rfl)) pgs_nil)))
        (pss_one (ps_for PassesOwn.never rfl (pi_enumA rfl me (pa_cons (pv 1) pa_nil)) (pg_tup rfl (pgs_cons (pg_name (i := 5) nd rfl (.inl rfl)) (pgs_cons (pg_name (i := 6) nd rfl (.inl rfl)) pgs_nil)))
          (pss_one (ps_asg (pcall DA hr (pa_cons (pe_ix ix_list (pv 2) (pe_op op_add (pv 3) (pv 5)) (fun _ _ => rfl)) (pa_cons (pcall DT hr (pa_cons (pv 4) (pa_cons (pv 6) pa_nil))) pa_nil)))
            (pg_sub (pv 2) (pe_op op_add (pv 3) (pv 5)) set_list))))))
      (pss_one (ps_ret (pcall DR hr (pa_cons (pv 2) pa_nil))))), ?_⟩
    refine ⟨by show 1 ≤ sizeLine; decide, fun l hl => ?_⟩
    have sl := same_upd (o := .lst [.int 0]) hl
    refine ⟨_, rfl, p, _, rfl, .inr (same_tup sl hp), _, rfl, q, _, rfl, .inr (same_tup sl hq), _, _, rfl, rfl, l, _, _, rfl, rfl, upd_same, by rw [eL_length, eL_length]; omega, by rw [eL_length, eL_length]; omega, ?_, fun D hD => ?_⟩
    · rw [eL_length, eL_length]
      show 1 * _ ≤ sizeLine
      exact line_of (by omega)
    rw [eL_length, eL_length, rep_zero]
    have hD0 : H D = none := sl.free hD
    have s1 : Same H (upd (upd H l (.lst [.int 0])) D (.lst (eL (List.replicate ((r.length : Int) + (s.length : Int)).toNat 0)))) := Same.trans sl (same_upd hD)
    have en : ((r.length : Int) + (s.length : Int)).toNat = r.length + s.length := by omega
    rw [en] at s1 ⊢
    refine ⟨_, rfl, p, _, rfl, .inr ⟨same_tup s1 hp, for_it (walk_enumT (xs := eL r)) (fun i σ H' => ∃ (u : List F) (v3 v4 v5 v6 : Option V), σ = [some (.ref p), some (.ref q), some (.ref D), v3, v4, v5, v6] ∧ Same H H' ∧ H' D = some (.lst (eL u)) ∧ u.length = r.length + s.length ∧ ∀ x, ev u x = ev (r.take i) x * ev s x)
      ⟨_, none, none, none, none, rfl, s1, upd_same, List.length_replicate, fun x => ?_⟩ (fun i σ H' _ hP => ?_) (fun i y σ H1 H2 hi hP hY => ?_) (fun σ H' hP => ?_)⟩⟩
    · rw [List.take_zero, ev_nil, MV.zero_mul]
      exact ev_zeros x fun c hc => List.eq_of_mem_replicate hc
    · obtain ⟨u, _, _, _, _, _, sm, _⟩ := hP
      exact same_tup sm hp
    · obtain ⟨u, v3, v4, v5, v6, rfl, sm, hd, hu, hev⟩ := hP
      obtain ⟨T, x1, x2, rfl, hT, rfl, ex1, ex2⟩ := hY
      cases ex1
      obtain ⟨a, ha, rfl⟩ := eL_some ex2
      have smT := same_upd (o := .tup [.int (i : Nat), e1 a]) hT
      have hir : i < r.length := by rw [eL_length] at hi; exact hi
      refine ⟨T, _, rfl, SqT.of upd_same, rfl, _, _, rfl, _, _, rfl, rfl, ?_⟩
      have sm2 := sm.trans smT
      refine ⟨_, rfl, q, _, rfl, .inr ⟨same_tup sm2 hq, for_it (walk_enumT (xs := eL s)) (fun j σ H' => ∃ (u : List F) (v5 v6 : Option V), σ = [some (.ref p), some (.ref q), some (.ref D), some (.int (i : Nat)), some (e1 a), v5, v6] ∧ Same H H' ∧ H' D = some (.lst (eL u)) ∧ u.length = r.length + s.length ∧
          ∀ x, ev u x = ev (r.take i) x * ev s x + a * x.pw i * ev (s.take j) x)
        ⟨u, v5, v6, rfl, sm2, (smT _ _ hd), hu, fun x => by rw [hev, List.take_zero, ev_nil, MV.mul_zero, MV.add_zero]⟩ (fun j σ H' _ hP => ?_) (fun j y σ H1 H2 hj hP hY => ?_) (fun σ H' hP => ?_)⟩⟩
      · obtain ⟨u, _, _, _, sm, _⟩ := hP
        exact same_tup sm hq
      · obtain ⟨u, v5, v6, rfl, sm, hd, hu, hev⟩ := hP
        obtain ⟨T, x1, x2, rfl, hT, rfl, ex1, ex2⟩ := hY
        cases ex1
        obtain ⟨b, hb, rfl⟩ := eL_some ex2
        have smT := same_upd (o := .tup [.int (j : Nat), e1 b]) hT
        have hjs : j < s.length := by rw [eL_length] at hj; exact hj
        have hij : i + j < u.length := by omega
        have hd2 := smT _ _ hd
        refine ⟨T, _, rfl, SqT.of upd_same, rfl, _, _, rfl, _, _, rfl, rfl, ?_⟩
        refine ⟨_, rfl, _, rfl, _, rfl, _, _, rfl, rfl, D, _, _, _, rfl, rfl, SqL.of hd2, at_eL (j := i + j) (by omega) hij, _, rfl, _, rfl, a, b, rfl, co u (i + j), a * b, rfl, ?_⟩
        refine ⟨_, rfl, _, rfl, _, rfl, _, _, rfl, rfl, D, _, _, i + j, rfl, rfl, hd2, ixN_at (by omega) (by rw [eL_length]; exact hij), ?_⟩
        rw [eL_set]
        refine ⟨u.set (i + j) (co u (i + j) + a * b), _, _, rfl, same_mut (sm.trans smT) hD0, upd_same, by rw [List.length_set]; exact hu, fun x => ?_⟩
        rw [ev_set _ _ hij, hev, ev_take_succ hb, MV.mul_add, MV.add_assoc, pw_add]
        congr 2
        ac_rfl
      · obtain ⟨u, v5, v6, rfl, sm, hd, hu, hev⟩ := hP
        refine ⟨u, _, _, _, _, rfl, sm, hd, hu, fun x => ?_⟩
        rw [hev, eL_length, List.take_length, ev_take_succ ha, MV.add_mul]
        congr 1
        ac_rfl
    · obtain ⟨u, v3, v4, v5, v6, rfl, sm, hd, hu, hev⟩ := hP
      refine ⟨_, rfl, D, u, rfl, SqL.of hd, fun t a H2 sm2 ht tr et lt => k t a H2 (sm.trans sm2) ht tr (fun x => ?_) (by omega)⟩
      rw [et, hev, eL_length, List.take_length]
end
end Mv
/-! The defs of polys: poly_divided, poly_through. -/
namespace Mv
open PySem PySem.Spec PyProof.Rows L2 MV
theorem co_set_self {p : List F} {n : Nat} (a : F) (h : n < p.length) : co (p.set n a) n = a := by
  unfold co
  rw [List.getElem?_set_self h]
  rfl
theorem co_set_ne {p : List F} {n i : Nat} (a : F) (h : i ≠ n) : co (p.set n a) i = co p i := by
  unfold co
  rw [List.getElem?_set_ne (Ne.symm h)]
theorem at_last {p : List F} (h : p ≠ []) : atI (eL p) (-1) = some (e1 (co p (p.length - 1))) := by
  have hl := List.length_pos_iff.mpr h
  unfold atI
  have e : ixN (eL p).length (-1) = some (p.length - 1) := by
    rw [eL_length]
    unfold ixN
    rw [if_neg (by omega), if_pos (by omega)]
    congr 1
    omega
  rw [e]
  exact eL_get (by omega)
section
variable {P : Program} {w : World} {K : PySem.W.Frag} {mg : Str → Option Value} {base : Heap}

/-! ### poly_divided -/
def spPDiv (K : PySem.W.Frag) : Sp := fun vs H Q _ => ∃ (p q : Addr) (r s : List F), vs = [.ref p, .ref q] ∧ SqT K H p (eL r) ∧ SqT K H q (eL s) ∧ Tr s ∧ s ≠ [] ∧ r.length ≤ 100 ∧ s.length ≤ 100 ∧
  ∀ (u t : List F) (a b c : Addr) (H' : Hp), Same H H' → SqT K H' c [.ref a, .ref b] → SqT K H' a (eL u) → SqT K H' b (eL t) → Tr u → Tr t → (∀ x, ev r x = ev s x * ev u x + ev t x) → u.length ≤ r.length → t.length < s.length → Q (.ref c) H'
theorem scPDiv : FnScope ["p", "q", "rest", "row", "back", "k", "j", "c"] ["p", "q"] (defScope sPDiv) := ⟨rfl, rfl, rfl, by decide +kernel, rfl, by decide +kernel, by decide +kernel⟩
theorem ok_pdiv {f fT fA fR fI : Addr} {fd fdT fdA fdR fdI : FuncData} (F0 : Fun K "poly_divided" "poly_divided" sPDiv f fd) (DR : Df P w K mg base CX0 1 "trimmed" ["row"] (spTrimmed K) fR fdR) (DA : Df P w K mg base CX0 1 "added" ["a", "b"] spAdded fA fdA)
    (DT : Df P w K mg base CX0 1 "times" ["a", "b"] spTimes fT fdT) (DI : Df P w K mg base CX0 3 "inverse" ["a"] spInverse fI fdI) (ml : mg "len" = none) (me : mg "enumerate" = none) (mli : mg "list" = none) (mr : mg "range" = none) : FnOk P w K mg base CX0 4 f fd ["p", "q"] (spPDiv K) := by
  refine F0.ok scPDiv (fun vs H Q E h => ?_) (fun cdv A outer s H vs Q E hr h => ?_)
  · obtain ⟨p, q, r, s, rfl, _⟩ := h
    rfl
  · obtain ⟨p, q, r, s, rfl, hp, hq, ts, ns, lr, ls, k⟩ := h
    have nd := scPDiv.nd
    have hr1 : Room 1 _ := hr.mono (by decide)
    refine ⟨_, pss_cons (ps_if (pt_cmpR op_eq (pe_callB call_len_seq (by rfl) ml PySem.boot_len (pa_cons (pv 1) pa_nil)) pe_int (nomark _)) (pss_one ps_never) pss_nil)
      (pss_cons (ps_set (i := 2) nd rfl (.inl rfl) (pe_callTy call_list_of (by rfl) mli (by decide +kernel) (pa_cons (pv 0) pa_nil)))
      (pss_cons (ps_set (i := 3) nd rfl (.inl rfl) (pe_op op_rep (pe_lst (pa_cons pe_int pa_nil)) (pe_callB call_len_seq (by rfl) ml PySem.boot_len (pa_cons (pv 0) pa_nil))))
      (pss_cons (ps_set (i := 4) nd rfl (.inl rfl) (pcall DI hr (pa_cons (pe_ix ix_tup (pv 1) (pe_un un_neg pe_int) (fun _ _ => rfl)) pa_nil)))
      (pss_cons (ps_for PassesOwn.never rfl (pi_range3 rfl mr (pa_cons (pe_op op_sub (pe_callB call_len_seq (by rfl) ml PySem.boot_len (pa_cons (pv 0) pa_nil)) (pe_callB call_len_seq (by rfl) ml PySem.boot_len (pa_cons (pv 1) pa_nil))) (pa_cons (pe_un un_neg pe_int) (pa_cons (pe_un un_neg pe_int) pa_nil)))) (pg_name (i := 5) nd rfl (.inl rfl))
        (pss_cons (ps_asg (pcall DT hr1 (pa_cons (pe_ix ix_list (pv 2) (pe_op op_sub (pe_op op_add (pv 5) (pe_callB call_len_seq (by rfl) ml PySem.boot_len (pa_cons (pv 1) pa_nil))) pe_int) (fun _ _ => rfl)) (pa_cons (pv 4) pa_nil))) (pg_sub (pv 3) (pv 5) set_list))
        (pss_one (ps_for PassesOwn.never rfl (pi_enumA rfl me (pa_cons (pv 1) pa_nil)) (pg_tup rfl (pgs_cons (pg_name (i := 6) nd rfl (.inl rfl)) (pgs_cons (pg_name (i := 7) nd rfl (.inl rfl)) pgs_nil)))
          (pss_one (ps_asg (pcall DA hr1 (pa_cons (pe_ix ix_list (pv 2) (pe_op op_add (pv 5) (pv 6)) (fun _ _ => rfl)) (pa_cons (pcall DT hr1 (pa_cons (pe_ix ix_list (pv 3) (pv 5) (fun _ _ => rfl)) (pa_cons (pv 7) pa_nil))) pa_nil)))
            (pg_sub (pv 2) (pe_op op_add (pv 5) (pv 6)) set_list)))))))
      (pss_one (ps_ret (pe_tup (pa_cons (pcall DR hr1 (pa_cons (pv 3) pa_nil)) (pa_cons (pcall DR hr1 (pa_cons (pv 2) pa_nil)) pa_nil))))))))), ?_⟩
    have h1s := List.length_pos_iff.mpr ns
    -- len(q) == 0
    refine ⟨_, rfl, q, _, rfl, .inr hq, rfl, _, rfl, dec_false (fun z => ?_) ?_⟩
    · rw [eL_length] at z
      have := V.int.inj z
      omega
    -- rest = list(p)
    refine ⟨_, rfl, p, _, rfl, .inr hp, fun R hR => ?_⟩
    have s1 := same_upd (o := .lst (eL r)) hR
    -- row = [0] * len(p)
    refine ⟨by show 1 ≤ sizeLine; decide, fun l hl => ?_⟩
    have s2 := s1.trans (same_upd (o := .lst [.int 0]) hl)
    have eR2 : (upd (upd H R (.lst (eL r))) l (.lst [.int 0])) R = some (.lst (eL r)) := same_upd hl _ _ upd_same
    refine ⟨_, rfl, p, _, rfl, .inr (same_tup s2 hp), l, _, _, rfl, rfl, upd_same, by rw [eL_length]; omega, by rw [eL_length]; omega, ?_, fun D hD => ?_⟩
    · rw [eL_length]
      show 1 * _ ≤ sizeLine
      exact line_of (by omega)
    rw [eL_length, Int.toNat_natCast, rep_zero]
    have s3 := s2.trans (same_upd (o := .lst (eL (List.replicate r.length 0))) hD)
    have eR3 : (upd (upd (upd H R (.lst (eL r))) l (.lst [.int 0])) D (.lst (eL (List.replicate r.length 0)))) R = some (.lst (eL r)) := same_upd hD _ _ eR2
    have hD0 : H D = none := s2.free hD
    have hRD : R ≠ D := ne_of_none eR2 hD
    generalize hH3 : (upd (upd (upd H R (.lst (eL r))) l (.lst [.int 0])) D (.lst (eL (List.replicate r.length 0)))) = H3 at s3 eR3
    have eD3 : H3 D = some (.lst (eL (List.replicate r.length 0))) := by rw [← hH3]; exact upd_same
    -- back = inverse(q[-1])
    refine ⟨_, rfl, 1, rfl, q, _, _, _, rfl, rfl, same_tup s3 hq, at_last ns, co s (s.length - 1), rfl, ts.last ns, ?_⟩
    have hd1 : co s (s.length - 1) ≠ 0 := ts.last ns
    generalize hL : co s (s.length - 1) = L at hd1
    have hB : L * L.inv = 1 := mul_inv hd1
    refine ⟨_, rfl, p, _, rfl, .inr (same_tup s3 hp), _, rfl, q, _, rfl, .inr (same_tup s3 hq), _, _, rfl, rfl, 1, rfl, 1, rfl, _, _, _, _, rfl, RgC.neg (by rw [eL_length, eL_length]; omega) (by rw [eL_length, eL_length]; omega) (by decide) (by decide), ?_⟩
    rw [eL_length, eL_length]
    generalize hn : ((r.length : Int) - (s.length : Int) - -1).toNat = n
    have hn1 : s.length ≤ r.length → n + s.length = r.length + 1 := fun z => by omega
    have hn2 : r.length < s.length → n = 0 := fun z => by omega
    refine for_it walk_rangeC (fun m σ H' => ∃ (u t : List F) (v5 v6 v7 : Option V), σ = [some (.ref p), some (.ref q), some (.ref R), some (.ref D), some (e1 L.inv), v5, v6, v7] ∧ Same H H' ∧ H' R = some (.lst (eL t)) ∧ H' D = some (.lst (eL u)) ∧
        t.length = r.length ∧ u.length = r.length ∧ (∀ i, r.length ≤ i + m → co t i = 0) ∧ (∀ i, i + m < n → co u i = 0) ∧ ∀ x, ev r x = ev s x * ev u x + ev t x)
      ⟨List.replicate r.length 0, r, none, none, none, rfl, s3, eR3, eD3, rfl, List.length_replicate, fun i hi => co_ge hi, fun i _ => ?_, fun x => ?_⟩ (fun _ _ _ _ _ => trivial) (fun m y σ H1 H2 hm hP hY => ?_) (fun σ H' hP => ?_)
    · by_cases hi : i < (List.replicate r.length (0 : F)).length
      · rw [co_lt hi, List.getElem_replicate]
      · exact co_ge (by omega)
    · rw [ev_zeros (p := List.replicate r.length 0) x fun c hc => List.eq_of_mem_replicate hc, MV.mul_zero, MV.zero_add]
    · obtain ⟨u, t, v5, v6, v7, rfl, sm, hR1, hD1, lt, lu, zt, zu, hev⟩ := hP
      obtain ⟨rfl, rfl⟩ := hY
      -- k
      have hsr : s.length ≤ r.length := by
        by_cases z : s.length ≤ r.length
        · exact z
        · have := hn2 (by omega)
          omega
      have hn3 := hn1 hsr
      obtain ⟨kk, hkk⟩ : ∃ kk : Nat, kk + m + 1 = n := ⟨n - 1 - m, by omega⟩
      have ek : (r.length : Int) - (s.length : Int) + (m : Int) * (-(1 : Int)) = (kk : Int) := by omega
      show gName 5 (V.int ((r.length : Int) - (s.length : Int) + (m : Int) * (-(1 : Int)))) _ _ _
      rw [ek]
      have hkt : kk + s.length - 1 < t.length := by omega
      have hku : kk < u.length := by omega
      generalize hc0 : co t (kk + s.length - 1) * L.inv = c0
      -- row[k] = times(rest[k + len(q) - 1], back)
      refine ⟨_, rfl, _, rfl, _, rfl, q, _, rfl, .inr (same_tup sm hq), _, _, rfl, rfl, _, _, rfl, rfl, R, _, _, _, rfl, rfl, SqL.of hR1, at_eL (j := kk + s.length - 1) (by rw [eL_length]; omega) hkt, _, rfl, _, L.inv, rfl, ?_⟩
      rw [hc0]
      refine ⟨_, rfl, _, rfl, D, _, _, kk, rfl, rfl, hD1, ixN_at rfl (by rw [eL_length]; exact hku), ?_⟩
      rw [eL_set]
      have sm2 : Same H (upd H2 D (.lst (eL (u.set kk c0)))) := same_mut sm hD0
      have hR2 : (upd H2 D (.lst (eL (u.set kk c0)))) R = some (.lst (eL t)) := by rw [upd_ne hRD]; exact hR1
      have hlu2 : (u.set kk c0).length = r.length := by rw [List.length_set]; exact lu
      have hcu2 : co (u.set kk c0) kk = c0 := co_set_self c0 hku
      have heu2 : ∀ x, ev (u.set kk c0) x = ev u x + c0 * x.pw kk := fun x => ev_set0 hku (zu kk (by omega))
      have hzu2 : ∀ i, i + (m + 1) < n → co (u.set kk c0) i = 0 := fun i hi => by
        rw [co_set_ne c0 (by omega)]
        exact zu i (by omega)
      generalize u.set kk c0 = u2 at sm2 hR2 hlu2 hcu2 heu2 hzu2
      -- for j, c in enumerate(q)
      refine ⟨_, rfl, q, _, rfl, .inr ⟨same_tup sm2 hq, for_it (walk_enumT (xs := eL s)) (fun j σ H' => ∃ (t2 : List F) (v6 v7 : Option V), σ = [some (.ref p), some (.ref q), some (.ref R), some (.ref D), some (e1 L.inv), some (.int kk), v6, v7] ∧ Same H H' ∧ H' R = some (.lst (eL t2)) ∧ H' D = some (.lst (eL u2)) ∧
            t2.length = r.length ∧ (∀ i, kk + j ≤ i → co t2 i = co t i) ∧ (j = s.length → co t2 (kk + s.length - 1) = 0) ∧ ∀ x, ev t2 x = ev t x + c0 * x.pw kk * ev (s.take j) x)
        ⟨t, v6, v7, rfl, sm2, hR2, upd_same, lt, fun _ _ => rfl, fun z => absurd z (by omega), fun x => by rw [List.take_zero, ev_nil, MV.mul_zero, MV.add_zero]⟩ (fun j σ H' _ hP => ?_) (fun j y σ H1 H3 hj hP hY => ?_) (fun σ H' hP => ?_)⟩⟩
      · obtain ⟨_, _, _, _, sm, _⟩ := hP
        exact same_tup sm hq
      · obtain ⟨t2, v6, v7, rfl, sm, hR1, hD1, lt2, zk, zl, hev2⟩ := hP
        obtain ⟨T, x1, x2, rfl, hT, rfl, ex1, ex2⟩ := hY
        cases ex1
        obtain ⟨b, hb, rfl⟩ := eL_some ex2
        have smT := same_upd (o := .tup [.int (j : Nat), e1 b]) hT
        have hjs : j < s.length := by rw [eL_length] at hj; exact hj
        have hij : kk + j < t2.length := by omega
        have hR2 := smT _ _ hR1
        have hD2 := smT _ _ hD1
        refine ⟨T, _, rfl, SqT.of upd_same, rfl, _, _, rfl, _, _, rfl, rfl, ?_⟩
        refine ⟨_, rfl, _, rfl, _, rfl, _, _, rfl, rfl, R, _, _, _, rfl, rfl, SqL.of hR2, at_eL (j := kk + j) (by omega) hij, _, rfl, _, rfl, D, _, _, _, rfl, rfl, SqL.of hD2, at_eL (j := kk) rfl (by omega), _, rfl, _, b, rfl, co t2 (kk + j), _, rfl, ?_⟩
        rw [hcu2]
        refine ⟨_, rfl, _, rfl, _, rfl, _, _, rfl, rfl, R, _, _, kk + j, rfl, rfl, hR2, ixN_at (by omega) (by rw [eL_length]; exact hij), ?_⟩
        rw [eL_set]
        refine ⟨t2.set (kk + j) (co t2 (kk + j) + c0 * b), _, _, rfl, same_mut (sm.trans smT) hR, upd_same, ?_, by rw [List.length_set]; exact lt2, fun i hi => ?_, fun z => ?_, fun x => ?_⟩
        · rw [upd_ne hRD.symm]
          exact hD2
        · rw [co_set_ne _ (by omega)]
          exact zk i (by omega)
        · have e1 : kk + s.length - 1 = kk + j := by omega
          have e2 : b = L := by rw [← hL, ← co_get hb, show j = s.length - 1 by omega]
          rw [e1, co_set_self _ hij, zk _ (Nat.le_refl _), e2, ← hc0, e1, MV.mul_assoc, MV.mul_comm L.inv, hB, MV.mul_one, add_self]
        · rw [ev_set _ _ hij, hev2, ev_take_succ hb, MV.mul_add, MV.add_assoc, pw_add]
          congr 2
          ac_rfl
      · obtain ⟨t2, v6, v7, rfl, sm, hR1, hD1, lt2, zk, zl, hev2⟩ := hP
        rw [eL_length] at zk zl hev2
        refine ⟨u2, t2, _, _, _, rfl, sm, hR1, hD1, lt2, hlu2, fun i hi => ?_, hzu2, fun x => ?_⟩
        · by_cases z : i = kk + s.length - 1
          · rw [z]
            exact zl rfl
          · rw [zk i (by omega)]
            exact zt i (by omega)
        · rw [hev, hev2, heu2, List.take_length, MV.mul_add]
          generalize ev s x * ev u x = A1
          rw [MV.mul_comm (c0 * x.pw kk)]
          generalize ev s x * (c0 * x.pw kk) = A2
          rw [MV.add_assoc, MV.add_left_comm A2, add_self, MV.add_zero]
    · obtain ⟨u, t, v5, v6, v7, rfl, sm, hR1, hD1, lt, lu, zt, zu, hev⟩ := hP
      refine ⟨_, rfl, D, u, rfl, SqL.of hD1, fun u' a H1 sm1 hu' tu' eu' lu' => ⟨_, rfl, R, t, rfl, SqL.of (sm1 _ _ hR1), fun t' b H2 sm2 ht' tt' et' lt' => ⟨by show 2 ≤ sizeLine; decide, fun c hc => ?_⟩⟩⟩
      have smc := same_upd (o := .tup [.ref a, .ref b]) hc
      refine k u' t' a b c _ (((sm.trans sm1).trans sm2).trans smc) (SqT.of upd_same) (same_tup (sm2.trans smc) hu') (same_tup smc ht') tu' tt' (fun x => by rw [hev, eu', et']) (by omega) ?_
      by_cases z : s.length ≤ r.length
      · have hc' := co_eq_of_ev (p := t') (q := t) (by omega) (by omega) et'
        have := hn1 z
        have q := tt'.lt_of (n := s.length - 1) fun i hi => by rw [hc']; exact zt i (by omega)
        omega
      · omega

/-! ### points -/
/-- at L a list of pairs -/
def PtsAt (K : PySem.W.Frag) (H : Hp) (L : Addr) (pts : List (F × F)) : Prop :=
  ∃ ts : List Addr, SqL K H L (ts.map V.ref) ∧ ts.length = pts.length ∧ ∀ (i : Nat) (t : Addr) (q : F × F), ts[i]? = some t → pts[i]? = some q → SqT K H t [e1 q.1, e1 q.2]
theorem PtsAt.same {K : PySem.W.Frag} {H H' : Hp} {L : Addr} {pts : List (F × F)} (e : Same H H') (h : PtsAt K H L pts) : PtsAt K H' L pts := by
  obtain ⟨ts, h1, h2, h3⟩ := h
  exact ⟨ts, e.seq h1, h2, fun i t q a b => same_tup e (h3 i t q a b)⟩
theorem refs_some {ts : List Addr} {i : Nat} {x : V} (h : (ts.map V.ref)[i]? = some x) : ∃ t, ts[i]? = some t ∧ x = .ref t := by
  rw [List.getElem?_map] at h
  cases e : ts[i]? with
  | none => rw [e] at h; cases h
  | some a => rw [e] at h; cases h; exact ⟨a, rfl, rfl⟩
theorem get_of_len {α β : Type} {l : List α} {m : List β} {i : Nat} {a : α} (h : l[i]? = some a) (e : l.length = m.length) : ∃ b, m[i]? = some b := by
  have := (List.getElem?_eq_some_iff.mp h).1
  exact ⟨m[i], List.getElem?_eq_getElem (by omega)⟩

/-! ### poly_through -/
def spPThru (K : PySem.W.Frag) : Sp := fun vs H Q _ => ∃ (L : Addr) (pts : List (F × F)), vs = [.ref L] ∧ PtsAt K H L pts ∧ pts.length ≤ 16 ∧ (pts.map (·.1)).Nodup ∧
  ∀ (r : List F) (a : Addr) (H' : Hp), Same H H' → SqT K H' a (eL r) → Tr r → r.length ≤ pts.length → (∀ q ∈ pts, ev r q.1 = q.2) → Q (.ref a) H'
theorem scPThru : FnScope ["points", "found", "noughts", "x", "y", "there", "by"] ["points"] (defScope sPThru) := ⟨rfl, rfl, rfl, by decide +kernel, rfl, by decide +kernel, by decide +kernel⟩
theorem nou_snoc (x a : F) (s : List F) : nou (s ++ [a]) x = nou s x * (x + a) := by
  rw [nou_append]
  show _ * ((x + a) * 1) = _
  rw [MV.mul_one]
theorem nou_len {s : List F} {p : List F} (tp : Tr p) (hs : s.length ≤ 32) (hp : p.length ≤ 100) (e : ∀ x, ev p x = nou s x) : p.length = s.length + 1 :=
  (nou_pd s).length one_ne_zero tp (by omega) (by omega) e
theorem not_mem_take {α : Type} [DecidableEq α] {l : List α} {i : Nat} {a : α} (hn : l.Nodup) (h : l[i]? = some a) : a ∉ l.take i := fun hm => by
  obtain ⟨j, hj, e⟩ := List.mem_iff_getElem.mp hm
  rw [List.length_take] at hj
  have h1 := (List.getElem?_eq_some_iff.mp h)
  obtain ⟨hi, e2⟩ := h1
  rw [List.getElem_take] at e
  have := (List.getElem_inj hn).mp (e.trans e2.symm)
  omega
theorem ok_pthru {f fV fO fA fD fM : Addr} {fd fdV fdO fdA fdD fdM : FuncData} (F0 : Fun K "poly_through" "poly_through" sPThru f fd) (DV : Df P w K mg base CX0 2 "poly_value" ["p", "x"] (spPVal K) fV fdV) (DO : Df P w K mg base CX0 4 "over" ["a", "b"] spOver fO fdO)
    (DA : Df P w K mg base CX0 1 "added" ["a", "b"] spAdded fA fdA) (DD : Df P w K mg base CX0 2 "poly_added" ["p", "q"] (spPAdd K) fD fdD) (DM : Df P w K mg base CX0 2 "poly_times" ["p", "q"] (spPMul K) fM fdM) : FnOk P w K mg base CX0 5 f fd ["points"] (spPThru K) := by
  refine F0.ok scPThru (fun vs H Q E h => ?_) (fun cdv A outer s H vs Q E hr h => ?_)
  · obtain ⟨L, pts, rfl, _⟩ := h
    rfl
  · obtain ⟨L, pts, rfl, hp, lp, hn, k⟩ := h
    have nd := scPThru.nd
    have hr1 : Room 1 _ := hr.mono (by decide)
    have hr2 : Room 2 _ := hr.mono (by decide)
    refine ⟨_, pss_cons (ps_set (i := 1) nd rfl (.inl rfl) (pe_tup pa_nil))
      (pss_cons (ps_set (i := 2) nd rfl (.inl rfl) (pe_tup (pa_cons pe_int pa_nil)))
      (pss_cons (ps_for PassesOwn.never rfl (pi_list (pv 0)) (pg_tup rfl (pgs_cons (pg_name (i := 3) nd rfl (.inl rfl)) (pgs_cons (pg_name (i := 4) nd rfl (.inl rfl)) pgs_nil)))
        (pss_cons (ps_set (i := 5) nd rfl (.inl rfl) (pcall DV hr2 (pa_cons (pv 2) (pa_cons (pv 3) pa_nil))))
        (pss_cons (ps_if (pt_cmpR op_eq (pv 5) pe_int (nomark _)) (pss_one ps_never) pss_nil)
        (pss_cons (ps_set (i := 6) nd rfl (.inl rfl) (pcall DO hr (pa_cons (pcall DA hr1 (pa_cons (pv 4) (pa_cons (pcall DV hr2 (pa_cons (pv 1) (pa_cons (pv 3) pa_nil))) pa_nil))) (pa_cons (pv 5) pa_nil))))
        (pss_cons (ps_set (i := 1) nd rfl (.inl rfl) (pcall DD hr2 (pa_cons (pv 1) (pa_cons (pcall DM hr2 (pa_cons (pe_tup (pa_cons (pv 6) pa_nil)) (pa_cons (pv 2) pa_nil))) pa_nil))))
        (pss_one (ps_set (i := 2) nd rfl (.inl rfl) (pcall DM hr2 (pa_cons (pv 2) (pa_cons (pe_tup (pa_cons (pv 3) (pa_cons pe_int pa_nil))) pa_nil))))))))))
      (pss_one (ps_ret (pv 1))))), ?_⟩
    refine ⟨Nat.zero_le _, fun a0 h0 => ⟨by show 1 ≤ sizeLine; decide, fun b0 g0 => ?_⟩⟩
    have s0 := same_upd (o := .tup []) h0
    have s1 := s0.trans (same_upd (o := .tup [.int 1]) g0)
    have ha0 : SqT K (upd (upd H a0 (.tup [])) b0 (.tup [.int 1])) a0 (eL []) := SqT.of (same_upd g0 _ _ upd_same)
    have hb0 : SqT K (upd (upd H a0 (.tup [])) b0 (.tup [.int 1])) b0 (eL [1]) := SqT.of upd_same
    obtain ⟨ts, hL, hlen, hts⟩ := hp
    refine ⟨_, rfl, L, rfl, ⟨_, s1.seq hL⟩, for_list (xs := ts.map V.ref) (fun i σ H' => ∃ (r nn : List F) (a b : Addr) (v3 v4 v5 v6 : Option V), σ = [some (.ref L), some (.ref a), some (.ref b), v3, v4, v5, v6] ∧ Same H H' ∧ SqT K H' a (eL r) ∧ SqT K H' b (eL nn) ∧ Tr r ∧ Tr nn ∧ r.length ≤ i ∧ nn.length ≤ 40 ∧
        (∀ x, ev nn x = nou ((pts.map (·.1)).take i) x) ∧ ∀ q ∈ pts.take i, ev r q.1 = q.2)
      ⟨[], [1], a0, b0, none, none, none, none, rfl, s1, ha0, hb0, Tr.nil, Tr.of (by show (1 : F) ≠ 0; exact one_ne_zero), Nat.le_refl _, by decide, fun x => by rw [ev_one]; rfl, fun q hq => nomatch hq⟩ (fun i σ H' _ hP => ?_) (fun i y σ H' hy hP => ?_) (fun σ H' hP => ?_)⟩
    · obtain ⟨_, _, _, _, _, _, _, _, _, sm, _⟩ := hP
      exact sm.seq hL
    · obtain ⟨r, nn, a, b, v3, v4, v5, v6, rfl, sm, hra, hnb, tr, tn, lr, ln, en, er⟩ := hP
      obtain ⟨t, ht, rfl⟩ := refs_some hy
      obtain ⟨⟨x, z⟩, hq⟩ := get_of_len ht hlen
      have hi : i < pts.length := (List.getElem?_eq_some_iff.mp hq).1
      have hxi : (pts.map (·.1))[i]? = some x := by rw [List.getElem?_map, hq]; rfl
      refine ⟨t, _, rfl, same_tup sm (hts i t _ ht hq), rfl, _, _, rfl, _, _, rfl, rfl, ?_⟩
      refine ⟨_, rfl, _, rfl, b, nn, x, rfl, hnb, fun H1 sm1 => ?_⟩
      have hne : ev nn x ≠ 0 := by
        rw [en]
        exact nou_ne (not_mem_take hn hxi)
      refine ⟨_, rfl, rfl, _, rfl, dec_false (fun w => hne (e1_zero.mp w)) ?_⟩
      refine ⟨_, rfl, _, rfl, _, rfl, a, r, x, rfl, same_tup sm1 hra, fun H2 sm2 => ⟨z, ev r x, rfl, _, rfl, _, ev nn x, rfl, hne, ?_⟩⟩
      have sm12 := sm1.trans sm2
      generalize hby : (z + ev r x) * (ev nn x).inv = by'
      refine ⟨_, rfl, _, rfl, by show 1 ≤ sizeLine; decide, fun c hc => ?_⟩
      have s3 := sm12.trans (same_upd (o := .tup [e1 by']) hc)
      refine ⟨_, rfl, c, b, [by'], nn, rfl, SqT.of upd_same, same_tup s3 hnb, by show 1 ≤ 100; decide, by omega, fun m d H3 sm3 hm tm em lm => ?_⟩
      have em' : ∀ x, ev m x = by' * ev nn x := fun x => by rw [em, ev_one]
      have lnn := nou_len tn (by rw [List.length_take, List.length_map]; omega) (by omega) en
      rw [List.length_take, List.length_map, Nat.min_eq_left (by omega)] at lnn
      have lm' : m.length ≤ i + 1 := PL.length ((PL.of nn).smul by') tm (by simp only [List.length_cons, List.length_nil] at lm; omega) (by omega) em' |> fun q => by omega
      have s4 := s3.trans sm3
      refine ⟨a, d, r, m, rfl, same_tup s4 hra, hm, by omega, by omega, fun r' a' H4 sm4 hr' tr' er' lr' => ?_⟩
      have s5 := s4.trans sm4
      refine ⟨_, rfl, _, rfl, by show 2 ≤ sizeLine; decide, fun c2 hc2 => ?_⟩
      have s6 := s5.trans (same_upd (o := .tup [e1 x, .int 1]) hc2)
      refine ⟨b, c2, nn, [x, 1], rfl, same_tup s6 hnb, SqT.of upd_same, by omega, by show 2 ≤ 100; decide, fun nn' b' H5 sm5 hn' tn' en' ln' => ?_⟩
      have s7 := s6.trans sm5
      refine ⟨r', nn', a', b', _, _, _, _, rfl, sm.trans s7, same_tup ((same_upd hc2).trans sm5) hr', hn', tr', tn', by omega, by simp only [List.length_cons, List.length_nil] at ln'; omega, fun y => ?_, fun q hq' => ?_⟩
      · rw [en', en, ev_lin, take_snoc hxi, nou_snoc, MV.add_comm x]
      · rw [take_snoc hq] at hq'
        rcases List.mem_append.mp hq' with hq' | hq'
        · have z0 : nou ((pts.map (·.1)).take i) q.1 = 0 := nou_zero (by rw [← List.map_take]; exact List.mem_map.mpr ⟨q, hq', rfl⟩)
          rw [er', em', en, z0, MV.mul_zero, MV.add_zero, er q hq']
        · rw [List.mem_singleton] at hq'
          subst hq'
          show ev r' x = z
          rw [er', em', ← hby, MV.mul_assoc, MV.mul_comm (ev nn x).inv, mul_inv hne, MV.mul_one, MV.add_left_comm, add_self, MV.add_zero]
    · obtain ⟨r, nn, a, b, v3, v4, v5, v6, rfl, sm, hra, hnb, tr, tn, lr, ln, en, er⟩ := hP
      rw [List.length_map, hlen] at lr er
      rw [List.take_length] at er
      exact ⟨_, rfl, k r a H' sm hra tr lr er⟩
end
end Mv
set_option maxHeartbeats 1000000
/-! Beyond: a class of the program below another one of the program, its __init__ with super().__init__(word). -/
namespace Mv
open PySem PySem.W PySem.Calls PyProof.Rows PySem.HandSPX
abbrev sBInit : Stmt := L2.inClass (topS 3) 0
abbrev exT : List Value := [.type "Exception", .type "BaseException", .type "object"]
/-- what stands of Beyond (at C, below B), of its __init__ (at fI), of the cell of its own class (at cc), of its code (at cda) -/
structure Byd (P : Program) (K : Frag) (mg : Str → Option Value) (C B fI cc cda : Addr) : Prop where
  gC : mg "Beyond" = some (.ref C)
  cls : ∃ nm q N bs sn sub ab col dd k0 k1 k2 k3 k5, K.lookup C = some (excClassObj nm q C N bs (.ref B :: exT) true sn sub ab col dd k0 k1 k2 k3 k5 "Exception.__new__")
  sa : findIn K (.ref C) "__setattr__" = some (some (.builtin "object.__setattr__"))
  ga : findIn K (.ref C) "__getattribute__" = some (some (.builtin "BaseException.__getattribute__"))
  gg : findIn K (.ref C) "__getattr__" = some none
  noW : findIn K (.ref C) "word" = some none
  iC : findIn K (.ref C) "__init__" = some (some (.ref fI))
  tI : typeIn K (.ref fI) = some (.type "function")
  kC : keepIn K (.ref C) = true
  exC : subIn K (.ref C) (.type "BaseException") = some true
  inE : subIn K (.ref C) (.type "Exception") = some true
  tyC : typeIn K (.ref C) = some (.type "type")
  hdC : hasDictIn K C = true
  te : exmOne K (.ref C) (.ref C) = some true
  aB : alongIn K "__init__" (.ref B :: exT) = some (some (.builtin "Exception.__init__"))
  op : nsIn K cStatics "thirdparty.any" = some none
  fn : ∃ (oc : Value) (od : Option Addr) (doc pm ct : Value) (an : Option Addr) (osl : Array (Option Value)),
    K.lookup fI = some ⟨oc, od, .func (ksFn "__init__" "Beyond.__init__" (L2.defArgs sBInit) (L2.defBody sBInit) (L2.defScope sBInit) .none .none doc pm an (.ref cda) ct cc), osl⟩ ∧ codeIn K (.ref cda) "Beyond.__init__" = true
  code : ∃ (ccl : Value) (cdd : Option Addr) (vs : Array Value) (ccs : Array (Option Value)) (file : Str) (tf : Tok), K.lookup cda = some ⟨ccl, cdd, .fields vs, ccs⟩ ∧ vs[2]? = some (.str file tf) ∧ (P.main.file == file) = true
  cell : ∃ (cl : Value) (cld : Option Addr) (csl : Array (Option Value)), K.lookup cc = some ⟨cl, cld, .cell (some (.ref C)), csl⟩
  noS : mg "super" = none
  top : (P.main.scope.names.lookup ("super" : Str)).isSome = false

theorem exT_ne {B C : Addr} : (.ref C :: .ref B :: exT : List Value).isEmpty = false := rfl
theorem exT_has (X : String) (B : Addr) : (.ref B :: exT : List Value).contains (.type X) = exT.contains (.type X) := by
  rw [List.contains_cons]
  rfl
theorem drop_first (C : Addr) (l : List Value) : ((Value.ref C :: l).dropWhile (· != .ref C)).drop 1 = l := by
  simp [List.dropWhile_cons]

/-- what __init__ leaves of a fresh error at x -/
structure BEnd (h h' : Heap) (x C dx : Addr) (v : Value) : Prop where
  keep : ∀ b o, b ≠ x → h.get? b = some o → h'.get? b = some o
  obj : ∃ t1, h'.get? x = some { cls := .ref C, dict := some dx, data := .fields #[.ref t1, .none, .none, .none, .bool false, .none] }
  big : h.objs.size ≤ dx
  ne : dx ≠ x
  ns : h'.Ns1 dx (fun y => if y = "word" then some v else none)

section
open Builtin Builtin.ObjectAttr
variable {prog : Program} {w : World} {A : Around} {E : Value → Shared → Prop} {R : Result → Shared → Prop} {hp : Heap} {g : Array GenState} {d : Drawn} {t : Nat} {os : OsState}
/-- the first field of such an error -/
theorem first_field {K : Frag} {name : Str} {tk : Tok} {v : Value} {x C B : Addr} {fv : Array Value} {cd : ClassData}
    (X : K.In hp) (hx : hp.get? x = some { cls := .ref C, data := .fields fv }) (hcd : clsIn K C = some cd) (hm : cd.mro = .ref C :: .ref B :: exT) (hh : cd.hasDict = true) (ha : findIn K (.ref C) name = some none)
    (hq : ∀ h' tk' dx, (∀ b o, b ≠ x → hp.get? b = some o → h'.get? b = some o) → hp.objs.size ≤ dx → dx ≠ x → h'.get? x = some { cls := .ref C, dict := some dx, data := .fields fv } →
      h'.Ns1 dx (fun y => if y = name then some v else none) → R (.ok (.ret .none)) ⟨h', g, d, tk', os⟩) :
    codeAny (model prog w) A (.call (.builtin "object.__setattr__") ⟨[.ref x, .str name tk, v], []⟩) R ⟨hp, g, d, t, os⟩ := by
  have I : InstAt hp x { cls := .ref C, data := .fields fv } C none := ⟨hx, rfl, rfl, trivial⟩
  have SF := F.store_object
  have hxs : x ≠ hp.objs.size := Nat.ne_of_lt (Heap.lt_size hx)
  have hob : cd.mro.contains (.type "object") = true := by
    rw [hm, List.contains_cons, exT_has, show exT.contains (.type "object") = true by decide +kernel, Bool.or_true]
  have sub : Looks (model prog w) hp (isInstance (.ref x) (.type "object")) true := I.type.andThen (looks_mroIn X (by unfold mroIn; rw [hcd, Option.bind_some, if_neg (by rw [hm]; exact Bool.false_ne_true), hob]))
  refine codeAny_call_builtin SF.slot.plain SF.entry (@check_slot (model prog w) _ _ ⟨hp, g, d, t, os⟩ "object.__setattr__" "object" "__setattr__" (.ref x) [.str name tk, v] [] _ SF.kind SF.split sub (SF.args (.ref x) (.str name tk) v) ?_)
  have hmr : Looks (model prog w) hp (mroOf (.ref C)) cd.mro := (looks_clsIn X hcd).andThen .now
  have L3 : Looks (model prog w) hp (storeTaker? none) none := .now
  have hcls : Looks (model prog w) hp (classData C) cd := looks_clsIn X hcd
  have pass : refuseLoop (.ref x) "__setattr__" cd.mro = pure () := by
    rw [hm, refuseLoop_ref, refuseLoop_ref]
    exact F.store_Exception.passes _
  rw [osa_eq, refuse_eq]
  refine wpAny_bind (wpAny_bind (I.type.at (wpAny_bind (hmr.at ?_))))
  rw [pass]
  refine wpAny_pure (wpAny_bind (I.type.at (wpAny_bind ((looks_findIn X ha).at (wpAny_bind (L3.at ?_))))))
  show wpAny _ _ (storeInOwnDict (.ref x) (.ref C) (.str name tk) name v false) _ _ _
  obtain ⟨nm, bs, mro, ns, qn, hd, sn, sb, ab, col, del⟩ := cd
  dsimp only at hh
  subst hh
  unfold storeInOwnDict ownDictForStores
  repeat (first | with_reducible refine store_in_new ?_ ?_ | with_reducible refine wpAny_loadPart_at hx ?_ | with_reducible refine hcls.at ?_ | wp_step)
  · exact ⟨_, #[], _, (Heap.get?_update_ne _ _ _ _ hxs.symm).trans (Heap.get?_push_at rfl rfl), rfl, fun e he => absurd he (by simp), fun _ => rfl⟩
  · intro h' tk' hn' hs
    have hx₁ : (hp.push { cls := .type "dict", data := .dict #[] }).get? x = some { cls := .ref C, data := .fields fv } := Heap.get?_push_of_some _ hx
    refine hq h' tk' hp.objs.size (fun b o hb ho => ?_) (Nat.le_refl _) hxs.symm ?_ hn'
    · exact (hs.2 b (Nat.ne_of_lt (Heap.lt_size ho))).trans ((Heap.get?_update_ne _ _ _ _ hb).trans (Heap.get?_push_of_some _ ho))
    · exact (hs.2 x hxs).trans (Heap.get?_update_self _ hx₁ rfl)
end

section
variable {prog : Program} {w : World} {A : Around} {E : Value → Shared → Prop} {R : Result → Shared → Prop} {s : Shared} {K : Frag} {mg : Str → Option Value} {C B fI cc cda : Addr}
theorem byd_init (T : Byd prog K mg C B fI cc cda) {x t0 : Addr} {v : Value} (X : K.In s.heap) (hlim : s.heap.NoLimit) (G : s.heap.Ns mainGlobals mg) (Bm : ∃ mb, s.heap.Ns builtinsNs mb ∧ ∀ x : Str, x ≠ "__name__" → mb x = bootBuiltins x)
    (hx : s.heap.get? x = some (excO C t0)) (hnx : K.lookup x = none) (hroom : A.depth < recursionLimit)
    (hq : ∀ h' tk dx, BEnd s.heap h' x C dx v → R (.ok (.ret .none)) { s with heap := h', toks := tk }) :
    codeAny (model prog w) A (.call (.ref fI) ⟨[.ref x, v], []⟩) R s := by
  obtain ⟨oc, od, doc, pm, ct, an, osl, ho, hcd⟩ := T.fn
  obtain ⟨nm, q, N, bs, sn, sub, ab, col, dd, k0, k1, k2, k3, k5, hC⟩ := T.cls
  obtain ⟨ccl, cdd, vs, ccs, file, tf, hcode, hvs, hfile⟩ := T.code
  obtain ⟨cl, cld, csl, hcell⟩ := T.cell
  obtain ⟨mb, hmb, hbb⟩ := Bm
  have hcl : clsIn K C = some { name := nm, bases := bs, mro := .ref C :: .ref B :: exT, ns := N, qualname := q, hasDict := true, slotNames := sn, subclasses := sub, abstract := ab, collection := col, hasDel := false } := by
    unfold clsIn
    rw [hC] <;> rfl
  refine ks_codeAny_call_defAt (binds := [("self", .ref x), ("word", v)]) (body := L2.defBody sBInit) hroom (X _ _ ho) rfl hlim (codeRec_of X hcd) rfl (BindsTo.of_eq (by first | rfl | with_unfolding_all rfl)) ?hcell ?hloc (fun h₁ hns hk₁ => ?_) rfl rfl rfl
  case hcell =>
    show ∀ y ∈ (L2.defScope sBInit).names, y.2 ≠ .cell
    decide +kernel
  case hloc =>
    intro y hy
    rcases List.mem_cons.mp hy with rfl | hy
    · rfl
    · rw [List.mem_singleton.mp hy]
      rfl
  have X1 : K.In h₁ := X.keeps hk₁
  have hx1 := hk₁ _ _ hx
  have G1 : h₁.Ns mainGlobals mg := G.keeps hk₁
  have B1 : h₁.Ns builtinsNs mb := hmb.keeps hk₁
  have hsub : mroIn K C (.ref C) = some true := by
    unfold mroIn
    rw [hcl]
    simp
  have I0 : InstAt s.heap x (excO C t0) C none := ⟨hx, rfl, rfl, trivial⟩
  have hxC : x ≠ C := ks_ne X I0 hcl
  have hxL : s.heap.objs.size ≠ x := Nat.ne_of_gt (Heap.lt_size hx)
  -- super().__init__(word)
  refine ks_wpAt_execs_cons (ks_wpAt_Expr_any (ks_wpAt_MethodCall ?_))
  refine ks_wpAt_super_base (attr := "__init__") rfl rfl (by decide) rfl (X1 _ _ ho) rfl rfl rfl (X1 _ _ hcode) rfl hvs hfile T.top ?_
  refine ks_loadName_global rfl rfl (loadGlobal_builtin G1 T.noS B1 ((hbb _ (by decide +kernel)).trans (by decide +kernel)) ⟨rfl, ?_⟩)
  refine wpAny_loadName_free rfl rfl rfl ⟨_, X1 _ _ hcell, rfl⟩ ?_
  refine wpAny_loadName_local rfl rfl hns rfl ?_
  refine ks_wpAny_isType_cls (X1 _ _ hC) rfl ⟨rfl, ?_⟩
  refine ks_wpAny_call_super (X1 _ _ hC) rfl hx1 rfl (fun c e => nomatch e) (looks_mroIn X1 hsub) (fun h2 hso k2 => ?_)
  have X2 : K.In h2 := X1.keeps k2
  have hx2 := k2 _ _ hx1
  have I2 : InstAt h2 x (excO C t0) C none := ⟨hx2, rfl, rfl, trivial⟩
  refine ESX.getMethod_super hso (looks_opaque X2 T.op) (l₀ := .ref C :: .ref B :: exT) ((looks_clsIn X2 hcl).andThen .now) (drop_first C _) X2 T.aB hxC (by decide) (I2.type.andThen (looks_subIn X2 T.inE)) ?_
  have k3 : ∀ b o, h2.get? b = some o → (h2.push (ESX.bw x)).get? b = some o := fun b o e => Heap.get?_push_of_some _ e
  refine ESX.callWith_bound (x := x) ?_
  have k13 : ∀ b o, h₁.get? b = some o → (h2.push (ESX.bw x)).get? b = some o := fun b o e => k3 b o (k2 b o e)
  show wpAny _ _ (spliced [(false, eval (.Name "word" _) _)]) _ _ _
  refine Calls.spliced_cons (ESX.ldL (hns.keeps k13) rfl (Calls.spliced_nil ⟨Heap.get?_push_size _ rfl, ?_⟩))
  refine ESX.call_bw (k3 _ _ (k2 _ _ (X1 _ _ hC))) (k3 _ _ hx2) (Heap.get?_push_size _ rfl) (by show 1 ≤ sizeLine; decide) (fun h4 t1 k4 hx4 => ?_)
  have k04 : ∀ b o, b ≠ x → s.heap.get? b = some o → h4.get? b = some o := fun b o hb e => k4 b o hb (k13 b o (hk₁ b o e))
  have hCx : C ≠ x := hxC.symm
  have X4 : K.In h4 := fun a o e => k04 a o (fun z => by rw [z, hnx] at e; cases e) (X a o e)
  -- self.word = word
  refine wpAt_of_wpAny ?_
  show wpAny _ _ (execs _ _) _ _ _
  have hn4 : h4.Ns s.heap.objs.size (fun y => [(("self" : Str), Value.ref x), ("word", v)].reverse.lookup y) := by
    obtain ⟨oL, es, ep, hL, rest⟩ := hns
    exact ⟨oL, es, ep, k4 _ _ hxL (k13 _ _ hL), rest⟩
  refine wpAny_execs_cons (plainObj_wpAny_Assign_Attribute ?_)
  refine ESX.ldL hn4 rfl (ESX.ldL hn4 rfl ?_)
  refine set_plain X4 (ox := excO C t1) (od := none) ⟨hx4, rfl, rfl, trivial⟩ T.sa ?_
  refine first_field X4 hx4 hcl rfl rfl T.noW (fun h5 tk5 dx k5 dn dne hx5 hn5 => ?_)
  show wpAny _ _ (execs _ _) _ _ _
  exact wpAny_execs_nil (hq h5 tk5 dx ⟨fun b o hb e => k5 b o hb (k04 b o hb e), ⟨t1, hx5⟩, Nat.le_of_lt (Nat.lt_of_lt_of_le hn4.lt dn), dne, hn5⟩)
/-- a made Beyond -/
structure BMade (h h' : Heap) (e C d : Addr) (v : Value) : Prop where
  keep : ∀ b o, h.get? b = some o → h'.get? b = some o
  new : h.objs.size ≤ e
  obj : ∃ oe vs, h'.get? e = some oe ∧ oe.cls = .ref C ∧ oe.dict = some d ∧ oe.data = .fields vs ∧ vs[1]? = some .none
  big : h.objs.size ≤ d
  ne : d ≠ e
  ns : h'.Ns1 d (fun y => if y = "word" then some v else none)
theorem byd_made (T : Byd prog K mg C B fI cc cda) {v : Value} (X : K.In s.heap) (hlim : s.heap.NoLimit) (G : s.heap.Ns mainGlobals mg) (Bm : ∃ mb, s.heap.Ns builtinsNs mb ∧ ∀ x : Str, x ≠ "__name__" → mb x = bootBuiltins x) (hroom : A.depth + 1 < recursionLimit)
    (hq : ∀ h' tk e d, BMade s.heap h' e C d v → R (.ok (.ret (.ref e))) { s with heap := h', toks := tk }) :
    codeAny (model prog w) A (.call (.ref C) ⟨[v], []⟩) R s := by
  obtain ⟨nm, q, N, bs, sn, sub, ab, col, dd, k0, k1, k2, k3, k5, hC⟩ := T.cls
  obtain ⟨hp, g, dr, tk, os⟩ := s
  have k : ∀ b o, hp.get? b = some o → ((hp.push (kdv_tup [v])).push (excO C hp.objs.size)).get? b = some o := fun b o e => Heap.get?_push_of_some _ (Heap.get?_push_of_some _ e)
  have hget : ((hp.push (kdv_tup [v])).push (excO C hp.objs.size)).get? (hp.objs.size + 1) = some (excO C hp.objs.size) := by heap_get
  have hnx : K.lookup (hp.objs.size + 1) = none := by
    cases e : K.lookup (hp.objs.size + 1) with
    | none => rfl
    | some o =>
      have z : hp.get? (hp.objs.size + 1) = some o := X _ _ e
      exact absurd (Nat.lt_of_succ_lt (Heap.lt_size z)) (Nat.lt_irrefl _)
  obtain ⟨mb, hmb, hbb⟩ := Bm
  refine call_own F.excBase_Exception (fun Y => exT_has Y B) (X _ _ hC) (looks_findIn X T.iC) (fun self => bind_fn X self T.tI) (by show 1 ≤ sizeLine; decide) ?_
  refine byd_init (s := ⟨(hp.push (kdv_tup [v])).push (excO C hp.objs.size), g, dr, tk, os⟩) T (X.keeps k) (hlim.keeps k) (G.keeps k) ⟨mb, hmb.keeps k, hbb⟩ hget hnx ?_ fun h' tk' dx ⟨k', ⟨t1, hx⟩, dn, dne, hns⟩ => ?_
  · show A.depth + 1 < recursionLimit
    exact hroom
  · have old : ∀ b o, hp.get? b = some o → h'.get? b = some o := fun b o e => k' b o (Nat.ne_of_lt (Nat.lt_succ_of_lt (Heap.lt_size e))) (k b o e)
    have z : hp.objs.size + 1 + 1 ≤ dx := by
      have q := dn
      rw [Heap.size_push, Heap.size_push] at q
      exact q
    exact ⟨rfl, hq h' tk' (hp.objs.size + 1) dx ⟨old, Nat.le_succ _, ⟨_, _, hx, rfl, rfl, rfl, rfl⟩, Nat.le_trans (Nat.le_trans (Nat.le_succ _) (Nat.le_succ _)) z, dne, hns⟩⟩
end
end Mv
namespace Mv
open PySem PySem.Spec PyProof.Rows L2
theorem relO_word {v : V} {v' : Value} (r : RelV v v') (f : Str) : RelO (List.lookup f [(("word" : Str), v)]) (if f = "word" then some v' else none) := by
  by_cases hw : f = "word"
  · subst hw
    rw [if_pos rfl, show List.lookup ("word" : Str) [(("word" : Str), v)] = some v by simp [List.lookup]]
    exact r
  · rw [if_neg hw, show List.lookup f [(("word" : Str), v)] = none by simp [List.lookup, show (f == ("word" : Str)) = false by simpa using hw]]
    trivial
section
variable {X : Cx} {C B fI cc cda : Addr}
/-- Beyond(e) -/
def tMkB (C : Addr) (ta : TA) : L2.St → Hp → XK → Prop := fun σ H Q => ta σ H fun vs H1 => ∃ v, vs = [v] ∧ ∀ d, H1 d = none → Q (.ref C) (some d) (upd H1 d (.xd [(("word" : Str), v)]))
theorem pmk_byd {a : Expr} {ta : TA} {p pos : Pos} {k : Nat} (T : Byd X.prog X.K X.mg C B fI cc cda) (hr : Room k X.A) (ha : PA X [a] ta) (hg : Gl X "Beyond" := by rfl)
    (he : starEach (a :: []) X.env = (false, eval a X.env) :: starEach [] X.env := by rfl) (hpl : (backTo pos (starEach [] X.env)).any (·.1) = false := by rfl) :
    PMk X (.Call (.Name "Beyond" p) [a] [] pos) (tMkB C ta) := by
  intro pins s σ H Q I h
  refine wpAny_Call_Name_kw (ld_glob I hg T.gC ?_)
  refine PySem.W.callWith_K (h₀ := X.base) I.ok.mod.kin T.kC (thn (ha.run pos pins s σ H _ I h) fun us s1 hh => ?_) he hpl
  obtain ⟨vs, H1, I1, r1, v, e0, q1⟩ := hh
  subst e0
  refine ⟨I1.kIn, ?_⟩
  cases r1 with
  | cons rv rn =>
    rename_i v' us'
    cases rn
    show wpAny _ _ (call (.ref C) [v']) _ _ _
    have hlim := I1.nolimit
    have hG := I1.mod.glob.keeps I1.bk
    have hB : ∃ mb, s1.heap.Ns builtinsNs mb ∧ ∀ x : Str, x ≠ "__name__" → mb x = bootBuiltins x := by
      obtain ⟨mb, h1, h2⟩ := I1.mod.blt
      exact ⟨mb, h1.keeps I1.bk, h2⟩
    obtain ⟨hp, g, dr, tk, os⟩ := s1
    refine wpAny_call (byd_made T I1.kIn hlim hG hB (by have := hr.dp; omega) fun h' tk' e d M => ?_)
    show MkP X pins σ Q (.ref e) ⟨h', g, dr, tk', os⟩
    obtain ⟨oe, fv, hoe, hc, hd, hdat, h1⟩ := M.obj
    have hns := M.ns
    obtain ⟨G', g1, g2⟩ := restrict h' fun b => decide (b ≠ e)
    have gk : ∀ b, b ≠ e → G'.get? b = h'.get? b := fun b hb => g1 b (decide_eq_true hb)
    have ge : G'.get? e = none := g2 e (by simp)
    have old : ∀ b o, hp.get? b = some o → G'.get? b = some o := fun b o q => (gk b (Nat.ne_of_lt (Nat.lt_of_lt_of_le (Heap.lt_size q) M.new))).trans (M.keep b o q)
    have ob : ObjOk X.prog X.w (upd H1 d (.xd [(("word" : Str), v)])) G' d (.xd [(("word" : Str), v)]) :=
      ⟨_, hns.at (fun o q => (gk d M.ne).trans q), fun f => relO_word rv f⟩
    have J : Inv X pins σ (upd H1 d (.xd [(("word" : Str), v)])) ⟨G', g, dr, tk', os⟩ := I1.laid (t' := tk') old M.big ob
    refine ⟨e, oe, fv, ⟨G', g, dr, tk', os⟩, _, .ref C, some d, rfl, J, fun b o q => ?_, ge, hoe, ⟨hc, hd⟩, hdat, h1, ?_, rfl, I1.bare, raises_own T.exC T.tyC, q1 d (I1.hok.fresh M.big)⟩
    · by_cases hb : b = e
      · have q' : G'.get? b = some o := q
        rw [hb, ge] at q'
        cases q'
      · exact (gk b hb).symm.trans q
    · rw [upd_ne (Ne.symm M.ne)]
      exact I1.hok.fresh M.new
/-- raise Beyond(e) -/
def tRaiseB (C : Addr) (W : WX) (ta : TA) : TS := fun _ σ H => tMkB C ta σ H fun cls d H' => W cls d σ H'
theorem ps_raiseB {a : Expr} {ta : TA} {W : WX} {p pos pos2 : Pos} {k : Nat} (hc : X.calm = true) (T : Byd X.prog X.K X.mg C B fI cc cda) (hr : Room k X.A) (tk : Takes X W) (ha : PA X [a] ta) (hg : Gl X "Beyond" := by rfl)
    (he : starEach (a :: []) X.env = (false, eval a X.env) :: starEach [] X.env := by rfl) (hpl : (backTo pos (starEach [] X.env)).any (·.1) = false := by rfl) :
    PS X (.Raise (some (.Call (.Name "Beyond" p) [a] [] pos)) none pos2) (tRaiseB C W ta) := ps_raise hc tk (pmk_byd T hr ha hg he hpl)
/-- isinstance of the error in hand, which has a dict of its own -/
structure BydIs (K : PySem.W.Frag) (C : Addr) : Prop where
  ha : PySem.W.findIn K (.ref C) "__class__" = some (some (.builtin "object.__class__"))
  hn : PySem.W.specialIn K (.builtin "object.__class__") "__get__" = some (some (.builtin "getset_descriptor.__get__"))
  ht : PySem.W.takesIn K (.builtin "object.__class__") = some true
  hm : PySem.W.mroIn K C (.type "object") = some true
def rIsD (K : PySem.W.Frag) (C a : Addr) (d : Option Addr) : List V → Hp → VK → Prop := fun xs H Q => ∃ (c : V) (cv : Value) (b : Bool) (dd : Addr) (fs : List (Str × V)), xs = [.ref a, c] ∧ (∀ u, RelV c u → u = cv) ∧ PySem.W.kitOne K (.ref C) cv = some b ∧ d = some dd ∧ H dd = some (.xd fs) ∧ Q (.bl b) H
theorem call_isD {a : Addr} {oe : Obj} {d : Option Addr} {pn : List (Addr × Obj)} {P' : Program} (T : Byd P' X.K X.mg C B fI cc cda) (N : BydIs X.K C) (hz : Zc (.ref C) d oe) (hf : ∃ vs, oe.data = .fields vs) : CallR (X.suite a ((a, oe) :: pn)) (.builtin "isinstance") (rIsD X.K C a d) := by
  intro pins s σ H xs us Q I r h
  obtain ⟨c, cv, b, dd, fs, rfl, hcv, e, ed, ea, q⟩ := h
  subst ed
  cases r with
  | cons rx rr =>
    cases rr with
    | cons rt rr =>
      cases rr
      cases rx
      have ec := hcv _ rt
      subst ec
      obtain ⟨hget, _⟩ := I.pin (a, oe) (List.mem_append.mpr (.inl List.mem_cons_self))
      obtain ⟨vs, hv⟩ := hf
      have hx : ObjOk X.prog X.w H s.heap dd (.xd fs) := I.hok dd _ ea
      obtain ⟨mA, hns, hrl⟩ := hx
      obtain ⟨od, ho, hl⟩ := lookIn_ns hns
      have J : PySem.W.InstAt s.heap a oe C (some od) := by
        refine ⟨hget, hz.1, by unfold PySem.W.notCls; rw [hv] <;> rfl, ?_⟩
        rw [hz.2]
        exact ho
      have hcls : (PySem.W.clsIn X.K C).isSome = true := by
        obtain ⟨cd, hc, _⟩ := PySem.W.any_some T.hdC
        rw [hc]
        rfl
      exact PySem.W.kia_one (PySem.W.kitx_exc hcls T.ga T.gg T.exC N.ha N.hn N.ht N.hm) I.kIn J e (fun z => nomatch z) fun tk => ⟨.bl b, H, I.kept (t' := tk) fun _ _ z => z, rfl, q⟩
end
end Mv
/-! The defs of codes. -/
namespace Mv
open PySem PySem.Spec PyProof.Rows L2 MV
/-- the symbol of a place -/
def fN (i : Nat) : F := ⟨i % 128, Nat.mod_lt _ (by decide)⟩
theorem fN_v {i : Nat} (h : i < 128) : (fN i).v = i := Nat.mod_eq_of_lt h
theorem e1_fN {i : Nat} (h : i < 128) : e1 (fN i) = V.int i := by
  show V.int ((fN i).v : Int) = _
  rw [fN_v h]
theorem fN_inj {i j : Nat} (hi : i < 128) (hj : j < 128) (h : fN i = fN j) : i = j := by
  have := congrArg F.v h
  rw [fN_v hi, fN_v hj] at this
  exact this
/-- the word of a polynomial -/
def wordL (r : List F) (n : Nat) : List F := (List.range n).map fun i => ev r (fN i)
theorem wordL_length (r : List F) (n : Nat) : (wordL r n).length = n := by
  unfold wordL
  rw [List.length_map, List.length_range]
theorem wordL_co {r : List F} {n i : Nat} (h : i < n) : co (wordL r n) i = ev r (fN i) := by
  unfold wordL
  exact co_get (by rw [List.getElem?_map, List.getElem?_range h]; rfl)
section
variable {P : Program} {w : World} {K : PySem.W.Frag} {mg : Str → Option Value} {base : Heap}

/-! ### word_of -/
def spWordOf (K : PySem.W.Frag) : Sp := fun vs H Q _ => ∃ (p : Addr) (r : List F) (n : Nat), vs = [.ref p, .int n] ∧ SqT K H p (eL r) ∧ n ≤ 16 ∧
  ∀ (a : Addr) (H' : Hp), Same H H' → SqT K H' a (eL (wordL r n)) → Q (.ref a) H'
theorem scWordOf : FnScope ["p", "size", "x"] ["p", "size"] (defScope sWordOf) := ⟨rfl, rfl, rfl, by decide +kernel, rfl, by decide +kernel, by decide +kernel⟩
theorem ok_wordOf {f fV : Addr} {fd fdV : FuncData} (F0 : Fun K "word_of" "word_of" sWordOf f fd) (DV : Df P w K mg base CX0 2 "poly_value" ["p", "x"] (spPVal K) fV fdV) (mr : mg "range" = none) (mt : mg "tuple" = none) : FnOk P w K mg base CX0 3 f fd ["p", "size"] (spWordOf K) := by
  refine F0.ok scWordOf (fun vs H Q E h => ?_) (fun cdv A outer s H vs Q E hr h => ?_)
  · obtain ⟨p, r, n, rfl, _⟩ := h
    rfl
  · obtain ⟨p, r, n, rfl, hp, hn, k⟩ := h
    refine ⟨_, pss_one (ps_ret (pe_callTy call_tuple_of (by rfl) mt (by decide +kernel) (pa_cons (pe_lc (own := [("x", 2)]) (g := gName 2) (tt := tYes) rfl scWordOf.nd (pi_range1 rfl mr (pa_cons (pv 1) pa_nil))
      (blkOk_by (N := ["p", "size", "x"]) (sc := defScope sWordOf) (by decide +kernel)) (fun _ _ _ _ _ => pg_name (i := 2) scWordOf.nd rfl (Or.inl rfl)) (fun _ _ _ _ _ => pts_nil)
      (fun _ _ _ _ _ => pcall DV hr (pa_cons (pv 0) (pa_cons (pv 2) pa_nil)))) pa_nil))), ?_⟩
    refine ⟨_, rfl, _, rfl, by omega, by omega, fun D hD => ?_⟩
    refine lc_range (lo := 0) (n := (n : Int).toNat) (fun i H' => Same H H' ∧ H' D = some (.lst (eL (wordL r i)))) ⟨same_upd hD, upd_same⟩ (fun i H' hi hP => ?_) (fun H' hP => ?_)
    · obtain ⟨sm, hd⟩ := hP
      rw [Int.toNat_natCast] at hi
      refine ⟨rfl, ?_⟩
      refine ⟨_, rfl, _, rfl, p, r, fN i, congrArg (fun z => [V.ref p, z]) ((int0 i).trans (e1_fN (by omega)).symm), same_tup sm hp, fun H2 sm2 => ?_⟩
      have sm3 := sm.trans sm2
      refine ⟨_, sm2 _ _ hd, by rw [eL_length, wordL_length]; exact small1000 (by omega), same_mut sm3 hD, ?_⟩
      rw [upd_same]
      unfold wordL
      rw [List.range_succ, List.map_append]
      show _ = some (HO.lst (eL (_ ++ _)))
      rw [show eL (_ ++ _) = _ from List.map_append]
      rfl
    · obtain ⟨sm, hd⟩ := hP
      rw [Int.toNat_natCast] at hd
      exact ⟨D, _, rfl, .inl ⟨SqL.of hd, fun l hl => k l _ (sm.trans (same_upd hl)) (SqT.of upd_same)⟩⟩

/-! ### unlike_places -/
/-- the points that a word has otherwise -/
def unl (wd : List F) (pts : List (F × F)) : List (F × F) := pts.filter fun q => !decide (co wd q.1.v = q.2)
def spUnlike (K : PySem.W.Frag) : Sp := fun vs H Q _ => ∃ (W L : Addr) (wd : List F) (pts : List (F × F)), vs = [.ref W, .ref L] ∧ SqT K H W (eL wd) ∧ PtsAt K H L pts ∧ (∀ q ∈ pts, q.1.v < wd.length) ∧ pts.length ≤ 16 ∧
  ∀ (D : Addr) (H' : Hp), Same H H' → H D = none → H' D = some (.lst (eL ((unl wd pts).map (·.1)))) → Q (.ref D) H'
theorem scUnlike : FnScope ["word", "points", "at", "symbol"] ["word", "points"] (defScope sUnlike) := ⟨rfl, rfl, rfl, by decide +kernel, rfl, by decide +kernel, by decide +kernel⟩
theorem e1_eq {a b : F} : e1 a = e1 b ↔ a = b := ⟨fun h => eI_inj (V.int.inj h), fun h => by rw [h]⟩
theorem unl_snoc (wd : List F) (pts : List (F × F)) (q : F × F) : unl wd (pts ++ [q]) = unl wd pts ++ (if co wd q.1.v = q.2 then [] else [q]) := by
  unfold unl
  rw [List.filter_append]
  congr 1
  by_cases h : co wd q.1.v = q.2
  · simp [h]
  · simp [h]
theorem ok_unlike {f : Addr} {fd : FuncData} (F0 : Fun K "unlike_places" "unlike_places" sUnlike f fd) : FnOk P w K mg base CX0 1 f fd ["word", "points"] (spUnlike K) := by
  refine F0.ok scUnlike (fun vs H Q E h => ?_) (fun cdv A outer s H vs Q E hr h => ?_)
  · obtain ⟨W, L, wd, pts, rfl, _⟩ := h
    rfl
  · obtain ⟨W, L, wd, pts, rfl, hW, hL, hv, lp, k⟩ := h
    have nd := scUnlike.nd
    refine ⟨_, pss_one (ps_ret (pe_lc (own := [("at", 2), ("symbol", 3)]) (g := gTup K 2 (gCons (gName 2) (gCons (gName 3) gNil))) (tt := tTest (tOp rNe (tOp (rIxT K) (tVar 0) (tVar 2)) (tVar 3))) rfl nd (pi_list (pv 1))
      (blkOk_by (N := ["word", "points", "at", "symbol"]) (sc := defScope sUnlike) (by decide +kernel)) (fun _ _ _ _ _ => pg_tup rfl (pgs_cons (pg_name (i := 2) nd rfl (.inl rfl)) (pgs_cons (pg_name (i := 3) nd rfl (.inl rfl)) pgs_nil)))
      (fun _ _ _ _ _ => pts_one (pt_cmpR op_ne (pe_ix ix_tup (pv 0) (pv 2) (fun _ _ => rfl)) (pv 3) (nomark _))) (fun _ _ _ _ _ => pv 2))), ?_⟩
    obtain ⟨ts, hts, hlen, htt⟩ := hL
    refine ⟨_, rfl, L, rfl, ⟨_, hts⟩, fun D hD => ?_⟩
    refine lc_list (xs := ts.map V.ref) (fun i H' => Same H H' ∧ H' D = some (.lst (eL ((unl wd (pts.take i)).map (·.1))))) ⟨same_upd hD, upd_same⟩ (fun i H' _ hP => hP.1.seq hts) (fun i y H' hy hP => ?_) (fun H' hP => ?_)
    · obtain ⟨sm, hd⟩ := hP
      obtain ⟨t, ht, rfl⟩ := refs_some hy
      obtain ⟨q, hq⟩ := get_of_len ht hlen
      have hqm : q ∈ pts := List.mem_of_getElem? hq
      refine ⟨t, _, rfl, same_tup sm (htt i t q ht hq), rfl, _, _, rfl, _, _, rfl, rfl, rfl, ?_⟩
      refine ⟨_, rfl, _, rfl, W, _, _, _, rfl, rfl, same_tup sm hW, at_eL (j := q.1.v) rfl (hv q hqm), _, rfl, rfl, _, rfl, ?_⟩
      rw [take_snoc hq, unl_snoc]
      by_cases h : co wd q.1.v = q.2
      · rw [if_pos h, List.append_nil, show decide (e1 (co wd q.1.v) = e1 q.2) = true from decide_eq_true (e1_eq.mpr h)]
        exact iteF ⟨sm, hd⟩
      · rw [if_neg h, show decide (e1 (co wd q.1.v) = e1 q.2) = false from decide_eq_false fun z => h (e1_eq.mp z)]
        refine iteT ⟨_, rfl, _, hd, ?_, same_mut sm hD, ?_⟩
        · rw [eL_length, List.length_map]
          refine small1000 (Nat.le_trans (List.length_filter_le _ _) ?_)
          rw [List.length_take]
          omega
        · rw [upd_same, List.map_append]
          show _ = some (HO.lst (eL (_ ++ _)))
          rw [show eL (_ ++ _) = _ from List.map_append]
          rfl
    · obtain ⟨sm, hd⟩ := hP
      rw [List.length_map, hlen, List.take_length] at hd
      exact k D H' sm hD hd

/-! ### given_points -/
/-- a symbol that may be lost -/
def oV : Option F → V
  | none => .non
  | some a => e1 a
/-- the points of the symbols that are given, the places from n on -/
def gpA : Nat → List (Option F) → List (F × F)
  | _, [] => []
  | n, none :: t => gpA (n + 1) t
  | n, some a :: t => (fN n, a) :: gpA (n + 1) t
theorem gpA_append : ∀ (n : Nat) (s t : List (Option F)), gpA n (s ++ t) = gpA n s ++ gpA (n + s.length) t
  | n, [], t => rfl
  | n, none :: s, t => by
    show gpA (n + 1) (s ++ t) = gpA (n + 1) s ++ gpA (n + (s.length + 1)) t
    rw [gpA_append (n + 1) s t, show n + 1 + s.length = n + (s.length + 1) by omega]
  | n, some a :: s, t => by
    show (fN n, a) :: gpA (n + 1) (s ++ t) = (fN n, a) :: gpA (n + 1) s ++ gpA (n + (s.length + 1)) t
    rw [gpA_append (n + 1) s t, show n + 1 + s.length = n + (s.length + 1) by omega]
    rfl
theorem gpA_length : ∀ (n : Nat) (s : List (Option F)), (gpA n s).length ≤ s.length
  | _, [] => Nat.le_refl _
  | n, none :: t => Nat.le_succ_of_le (gpA_length (n + 1) t)
  | n, some a :: t => Nat.succ_le_succ (gpA_length (n + 1) t)
theorem gpA_mem : ∀ {n : Nat} {s : List (Option F)} {q : F × F}, q ∈ gpA n s → ∃ j, s[j]? = some (some q.2) ∧ q.1 = fN (n + j)
  | n, none :: t, q, h => by
    obtain ⟨j, h1, h2⟩ := gpA_mem (n := n + 1) (s := t) h
    exact ⟨j + 1, h1, by rw [h2, show n + 1 + j = n + (j + 1) by omega]⟩
  | n, some a :: t, q, h => by
    rcases List.mem_cons.mp h with rfl | h
    · exact ⟨0, rfl, rfl⟩
    · obtain ⟨j, h1, h2⟩ := gpA_mem (n := n + 1) (s := t) h
      exact ⟨j + 1, h1, by rw [h2, show n + 1 + j = n + (j + 1) by omega]⟩
def SqA (K : PySem.W.Frag) (H : Hp) (a : Addr) (xs : List V) : Prop := SqL K H a xs ∨ SqT K H a xs
theorem SqA.same {K : PySem.W.Frag} {H H' : Hp} {a : Addr} {xs : List V} (e : Same H H') (h : SqA K H a xs) : SqA K H' a xs := h.imp (fun z => e.seq z) fun z => same_tup e z
theorem oV_some {sy : List (Option F)} {i : Nat} {x : V} (h : (sy.map oV)[i]? = some x) : ∃ o, sy[i]? = some o ∧ x = oV o := by
  rw [List.getElem?_map] at h
  cases e : sy[i]? with
  | none => rw [e] at h; cases h
  | some a => rw [e] at h; cases h; exact ⟨a, rfl, rfl⟩
/-- the list at D while it is made -/
structure GPv (K : PySem.W.Frag) (H : Hp) (sy : List (Option F)) (D : Addr) (i : Nat) (H1 : Hp) : Prop where
  sm : Same H H1
  ex : ∃ ts : List Addr, H1 D = some (.lst (ts.map V.ref)) ∧ ts.length = (gpA 0 (sy.take i)).length ∧ ∀ (j : Nat) (t : Addr) (q : F × F), ts[j]? = some t → (gpA 0 (sy.take i))[j]? = some q → SqT K H1 t [e1 q.1, e1 q.2]
section
variable {H : Hp} {sy : List (Option F)} {D T c : Addr} {i : Nat} {H1 : Hp}
theorem GPv.lost (h : GPv K H sy D i H1) (ho : sy[i]? = some none) {v : V} (hT : H1 T = none) : GPv K H sy D (i + 1) (upd H1 T (.tup [v, .non])) := by
  obtain ⟨sm, ts, h1, h2, h3⟩ := h
  have s1 := same_upd (o := .tup [v, .non]) hT
  have e : gpA 0 (sy.take (i + 1)) = gpA 0 (sy.take i) := by
    rw [take_snoc ho, gpA_append]
    show _ ++ [] = _
    rw [List.append_nil]
  exact ⟨sm.trans s1, ts, s1 _ _ h1, by rw [e]; exact h2, fun j t q a b => same_tup s1 (h3 j t q a (by rw [← e]; exact b))⟩
theorem GPv.given {a : F} (h : GPv K H sy D i H1) (ho : sy[i]? = some (some a)) (hT : H1 T = none) (hc : upd H1 T (.tup [.int (i : Nat), e1 a]) c = none) (hD : H D = none) (hl : sy.length ≤ 16) (hi : i < 16) :
    ∃ acc, (upd (upd H1 T (.tup [.int (i : Nat), e1 a])) c (.tup [.int (i : Nat), e1 a])) D = some (.lst acc) ∧ acc.length < sizeLine ∧ GPv K H sy D (i + 1) (upd (upd (upd H1 T (.tup [.int (i : Nat), e1 a])) c (.tup [.int (i : Nat), e1 a])) D (.lst (acc ++ [.ref c]))) := by
  obtain ⟨sm, ts, h1, h2, h3⟩ := h
  have s1 := same_upd (o := .tup [.int (i : Nat), e1 a]) hT
  have s2 := s1.trans (same_upd (o := .tup [.int (i : Nat), e1 a]) hc)
  have e : gpA 0 (sy.take (i + 1)) = gpA 0 (sy.take i) ++ [(fN i, a)] := by
    rw [take_snoc ho, gpA_append, List.length_take, Nat.min_eq_left (by have := (List.getElem?_eq_some_iff.mp ho).1; omega), Nat.zero_add]
    rfl
  have hDc : D ≠ c := ne_of_none (s1 _ _ h1) hc
  have hsz : (gpA 0 (sy.take i)).length ≤ 16 := Nat.le_trans (gpA_length _ _) (by rw [List.length_take]; omega)
  have keep : ∀ {t : Addr} {xs : List V}, SqT K H1 t xs → SqT K (upd (upd (upd H1 T (.tup [.int (i : Nat), e1 a])) c (.tup [.int (i : Nat), e1 a])) D (.lst (ts.map V.ref ++ [.ref c]))) t xs := fun {t xs} h => by
    rcases h with (h | ⟨o, h⟩) | h
    · refine .inl (.inl ?_)
      rw [upd_ne (ne_of h h1 (by intro z; cases z))]
      exact s2 _ _ h
    · refine .inl (.inr ⟨o, ?_⟩)
      rw [upd_ne (ne_of h h1 (by intro z; cases z))]
      exact s2 _ _ h
    · exact .inr h
  refine ⟨_, s2 _ _ h1, by rw [List.length_map, h2]; exact small1000 (by omega), same_mut (sm.trans s2) hD, ts ++ [c], ?_, ?_, fun j t q hj hq => ?_⟩
  · rw [upd_same, List.map_append]
    rfl
  · rw [e, List.length_append, List.length_append, h2]
    rfl
  · rw [e] at hq
    by_cases hlt : j < ts.length
    · rw [List.getElem?_append_left hlt] at hj
      rw [List.getElem?_append_left (by omega)] at hq
      exact keep (h3 j t q hj hq)
    · rw [List.getElem?_append_right (by omega)] at hj hq
      rw [← h2] at hq
      have hz : j - ts.length = 0 := by
        have := (List.getElem?_eq_some_iff.mp hj).1
        simp only [List.length_cons, List.length_nil] at this
        omega
      rw [hz] at hj hq
      cases hj
      cases hq
      refine SqT.of ?_
      rw [upd_ne hDc.symm, upd_same]
      show some (HO.tup [V.int (i : Nat), e1 a]) = some (HO.tup [e1 (fN i), e1 a])
      rw [e1_fN (by omega)]
theorem GPv.list (h : GPv K H sy D i H1) : ∃ ts : List Addr, H1 D = some (.lst (ts.map V.ref)) := by
  obtain ⟨_, ts, h1, _⟩ := h
  exact ⟨ts, h1⟩
end
def spGiven (K : PySem.W.Frag) (C : Addr) : Sp := fun vs H Q E => ∃ (S : Addr) (k : Int) (sy : List (Option F)), vs = [.ref S, .int k] ∧ SqA K H S (sy.map oV) ∧ sy.length ≤ 16 ∧
  (k ≤ ((gpA 0 sy).length : Int) → ∀ (D : Addr) (H' : Hp), Same H H' → PtsAt K H' D (gpA 0 sy) → Q (.ref D) H') ∧
  (((gpA 0 sy).length : Int) < k → ∀ (d : Addr) (H' : Hp), Same H H' → H d = none → H' d = some (.xd [("word", V.str "lost")]) → E (.ref C) (some d) H')
theorem scGiven : FnScope ["symbols", "k", "points", "at", "symbol"] ["symbols", "k"] (defScope sGiven) := ⟨rfl, rfl, rfl, by decide +kernel, rfl, by decide +kernel, by decide +kernel⟩
theorem ok_given {f C B fI cc cda : Addr} {fd : FuncData} (F0 : Fun K "given_points" "given_points" sGiven f fd) (T : Byd P K mg C B fI cc cda) (ml : mg "len" = none) (me : mg "enumerate" = none) : FnOk P w K mg base (L2.CX P w) 3 f fd ["symbols", "k"] (spGiven K C) := by
  refine F0.okX scGiven (fun vs H Q E h => ?_) (fun cdv A outer s H vs Q E hr h => ?_)
  · obtain ⟨S, k, sy, rfl, _⟩ := h
    rfl
  · obtain ⟨S, k, sy, rfl, hS, ls, kq, ke⟩ := h
    have nd := scGiven.nd
    refine ⟨_, pss_cons (ps_setLc (i := 2) (own := [("at", 3), ("symbol", 4)]) (g := gTup K 2 (gCons (gName 3) (gCons (gName 4) gNil))) (tt := tTest (tOp (fun x y H Q => y = .non ∧ Q (.bl (!decide (x = .non))) H) (tVar 4) (tC .non))) rfl nd rfl rfl (sw_true rfl rfl rfl (by decide +kernel))
        (pi_enumA rfl me (pa_cons (pv 0) pa_nil)) (blkOk_by (N := ["symbols", "k", "points", "at", "symbol"]) (sc := defScope sGiven) (by decide +kernel)) (fun _ _ _ _ _ => pg_tup rfl (pgs_cons (pg_name (i := 3) nd rfl (.inl rfl)) (pgs_cons (pg_name (i := 4) nd rfl (.inl rfl)) pgs_nil)))
        (fun _ _ _ _ _ => pts_one (pt_cmpR op_notN (pv 4) pe_non (nomark _))) (fun _ _ _ _ _ => pe_tup (pa_cons (pv 3) (pa_cons (pv 4) pa_nil))))
      (pss_cons (ps_if (pt_cmpR op_lt (pe_callB call_len_seq (by rfl) ml PySem.boot_len (pa_cons (pv 2) pa_nil)) (pv 1) (nomark _)) (pss_one (ps_raiseB rfl T hr (takes_of rfl rfl rfl rfl) (pa_cons pe_str pa_nil))) pss_nil)
      (pss_one (ps_ret (pv 2)))), ?_⟩
    have hlen : (sy.map oV).length = sy.length := List.length_map _
    have fin : ∀ (D : Addr) (H1 : Hp), GPv K H sy D (sy.map oV).length H1 →
        (tSeq (tIfS (tTest (tOp (rI0 fun i j => V.bl (decide (i < j))) (tCB (fun xs H Q => ∃ p ys, xs = [.ref p] ∧ (SqL K H p ys ∨ SqT K H p ys) ∧ Q (.int ys.length) H) (tCons (tVar 2) tNil)) (tVar 1))) (tRaiseB C (fun cls d _ H => E cls d H) (tCons (tC (.str "lost")) tNil)) tNext) (tRet (tVar 2)))
          { nx := fun _ H' => Q .non H', rt := Q } [some (.ref S), some (.int k), some (.ref D), none, none] H1 := fun D H1 hP => by
      obtain ⟨sm, ts, h1, h2, h3⟩ := hP
      rw [hlen, List.take_length] at h2 h3
      refine ⟨_, rfl, D, _, rfl, .inl (SqL.of h1), _, rfl, _, _, rfl, rfl, _, rfl, dec_case (fun z => ?_) (fun z => ?_)⟩
      · rw [List.length_map, h2] at z
        exact ⟨_, rfl, fun d hd => ke z d _ (sm.trans (same_upd hd)) (sm.free hd) upd_same⟩
      · rw [List.length_map, h2] at z
        exact ⟨_, rfl, kq (by omega) D H1 sm ⟨ts, SqL.of h1, h2, h3⟩⟩
    rcases hS with hS | hS
    · refine ⟨_, rfl, S, sy.map oV, rfl, .inl ⟨hS, fun D hD => lc_it walk_enum (GPv K H sy D) ⟨same_upd hD, [], upd_same, rfl, fun j t q h => nomatch h⟩ (fun i H1 _ hP => hP.1.seq hS) (fun i y H1 H2 hi hP hY => ?_) (fun H1 hP => ?_)⟩⟩
      · obtain ⟨T1, x1, x2, rfl, hT, rfl, ex1, ex2⟩ := hY
        cases ex1
        obtain ⟨o, ho, rfl⟩ := oV_some ex2
        refine ⟨T1, _, rfl, SqT.of upd_same, rfl, _, _, rfl, _, _, rfl, rfl, rfl, ?_⟩
        refine ⟨_, rfl, rfl, _, rfl, ?_⟩
        cases o with
        | none => exact hP.lost ho hT
        | some a =>
          show if (!decide (e1 a = V.non)) = true then _ else _
          rw [show decide (e1 a = V.non) = false from decide_eq_false (fun z => nomatch z)]
          refine ⟨_, rfl, _, rfl, by show 2 ≤ sizeLine; decide, fun c hc => ?_⟩
          obtain ⟨acc, h1, h2, h3⟩ := hP.given ho hT hc hD (by omega) (by rw [hlen] at hi; omega)
          exact ⟨acc, h1, h2, h3⟩
      · exact fin D H1 hP
    · refine ⟨_, rfl, S, sy.map oV, rfl, .inr ⟨hS, fun D hD => lc_it walk_enumT (GPv K H sy D) ⟨same_upd hD, [], upd_same, rfl, fun j t q h => nomatch h⟩ (fun i H1 _ hP => same_tup hP.1 hS) (fun i y H1 H2 hi hP hY => ?_) (fun H1 hP => ?_)⟩⟩
      · obtain ⟨T1, x1, x2, rfl, hT, rfl, ex1, ex2⟩ := hY
        cases ex1
        obtain ⟨o, ho, rfl⟩ := oV_some ex2
        refine ⟨T1, _, rfl, SqT.of upd_same, rfl, _, _, rfl, _, _, rfl, rfl, rfl, ?_⟩
        refine ⟨_, rfl, rfl, _, rfl, ?_⟩
        cases o with
        | none => exact hP.lost ho hT
        | some a =>
          show if (!decide (e1 a = V.non)) = true then _ else _
          rw [show decide (e1 a = V.non) = false from decide_eq_false (fun z => nomatch z)]
          refine ⟨_, rfl, _, rfl, by show 2 ≤ sizeLine; decide, fun c hc => ?_⟩
          obtain ⟨acc, h1, h2, h3⟩ := hP.given ho hT hc hD (by omega) (by rw [hlen] at hi; omega)
          exact ⟨acc, h1, h2, h3⟩
      · exact fin D H1 hP

/-! ### near_quotient -/
def spNear (K : PySem.W.Frag) : Sp := fun vs H Q _ => ∃ (L : Addr) (k : Nat) (pts : List (F × F)) (c : List F), vs = [.ref L, .int k] ∧ PtsAt K H L pts ∧ pts.length ≤ 16 ∧ 1 ≤ k ∧ k ≤ pts.length ∧ (pts.map (·.1)).Nodup ∧ c.length ≤ k ∧ 2 * (bad c pts).length + k ≤ pts.length ∧
  ∀ (u : List F) (a b e : Addr) (H' : Hp), Same H H' → SqT K H' e [.ref a, .ref b] → SqT K H' a (eL u) → SqT K H' b (eL []) → (∀ x, ev u x = ev c x) → u.length ≤ k → Q (.ref e) H'
theorem scNear : FnScope ["points", "k", "ahead", "at", "_", "rest", "factor_ahead", "factor", "quotient", "left"] ["points", "k"] (defScope sNear) := ⟨rfl, rfl, rfl, by decide +kernel, rfl, by decide +kernel, by decide +kernel⟩
theorem ok_near {f fM fT fD fA : Addr} {fd fdM fdT fdD fdA : FuncData} (F0 : Fun K "near_quotient" "near_quotient" sNear f fd) (DM : Df P w K mg base CX0 2 "poly_times" ["p", "q"] (spPMul K) fM fdM) (DT : Df P w K mg base CX0 5 "poly_through" ["points"] (spPThru K) fT fdT)
    (DD : Df P w K mg base CX0 4 "poly_divided" ["p", "q"] (spPDiv K) fD fdD) (DA : Df P w K mg base CX0 2 "poly_added" ["p", "q"] (spPAdd K) fA fdA) (ml : mg "len" = none) : FnOk P w K mg base CX0 6 f fd ["points", "k"] (spNear K) := by
  refine F0.ok scNear (fun vs H Q E h => ?_) (fun cdv A outer s H vs Q E hr h => ?_)
  · obtain ⟨L, k, pts, c, rfl, _⟩ := h
    rfl
  · obtain ⟨L, k, pts, c, rfl, hP, lp, k1, k2, hnd, lc, hb, kq⟩ := h
    have nd := scNear.nd
    have hr2 : Room 2 _ := hr.mono (by decide)
    have hr4 : Room 4 _ := hr.mono (by decide)
    refine ⟨_, pss_cons (ps_set (i := 2) nd rfl (.inl rfl) (pe_tup (pa_cons pe_int pa_nil)))
      (pss_cons (ps_for PassesOwn.never rfl (pi_list (pv 0)) (pg_tup rfl (pgs_cons (pg_name (i := 3) nd rfl (.inl rfl)) (pgs_cons (pg_name (i := 4) nd rfl (.inl rfl)) pgs_nil)))
        (pss_one (ps_set (i := 2) nd rfl (.inl rfl) (pcall DM hr2 (pa_cons (pv 2) (pa_cons (pe_tup (pa_cons (pv 3) (pa_cons pe_int pa_nil))) pa_nil))))))
      (pss_cons (ps_set (i := 5) nd rfl (.inl rfl) (pcall DT hr (pa_cons (pv 0) pa_nil)))
      (pss_cons (ps_set (i := 6) nd rfl (.inl rfl) (pe_tup pa_nil))
      (pss_cons (ps_set (i := 7) nd rfl (.inl rfl) (pe_tup (pa_cons pe_int pa_nil)))
      (pss_cons (ps_while PassesOwn.never (pt_cmpR op_ge (pe_op op_mul pe_int (pe_op op_sub (pe_callB call_len_seq (by rfl) ml PySem.boot_len (pa_cons (pv 5) pa_nil)) pe_int)) (pe_op op_add (pe_callB call_len_seq (by rfl) ml PySem.boot_len (pa_cons (pv 0) pa_nil)) (pv 1)) (nomark _))
        (pss_cons (ps_asg (pcall DD hr4 (pa_cons (pv 2) (pa_cons (pv 5) pa_nil))) (pg_tup rfl (pgs_cons (pg_name (i := 8) nd rfl (.inl rfl)) (pgs_cons (pg_name (i := 9) nd rfl (.inl rfl)) pgs_nil))))
        (pss_cons (ps_par (i := 2) (j := 5) (by rfl) nd rfl rfl (by decide) rfl rfl (pa_cons (pv 5) (pa_cons (pv 9) pa_nil)) (by rfl))
        (pss_one (ps_par (i := 6) (j := 7) (by rfl) nd rfl rfl (by decide) rfl rfl (pa_cons (pv 7) (pa_cons (pcall DA hr2 (pa_cons (pv 6) (pa_cons (pcall DM hr2 (pa_cons (pv 8) (pa_cons (pv 7) pa_nil))) pa_nil))) pa_nil)) (by rfl))))))
      (pss_one (ps_ret (pcall DD hr4 (pa_cons (pv 5) (pa_cons (pv 7) pa_nil)))))))))), ?_⟩
    obtain ⟨ts, hL, hlen, htt⟩ := id hP
    refine ⟨by show 1 ≤ sizeLine; decide, fun a0 h0 => ?_⟩
    have s1 := same_upd (o := .tup [.int 1]) h0
    refine ⟨_, rfl, L, rfl, ⟨_, s1.seq hL⟩, for_list (xs := ts.map V.ref) (fun i σ H' => ∃ (ah : List F) (A : Addr) (v3 v4 : Option V), σ = [some (.ref L), some (.int k), some (.ref A), v3, v4, none, none, none, none, none] ∧ Same H H' ∧ SqT K H' A (eL ah) ∧ Tr ah ∧ ah.length ≤ 40 ∧
        ∀ x, ev ah x = nou ((pts.map (·.1)).take i) x)
      ⟨[1], a0, none, none, rfl, s1, SqT.of upd_same, Tr.of (by show (1 : F) ≠ 0; exact one_ne_zero), by decide, fun x => by rw [ev_one]; rfl⟩ (fun i σ H' _ hP => ?_) (fun i y σ H' hy hP => ?_) (fun σ H' hP1 => ?_)⟩
    · obtain ⟨_, _, _, _, _, sm, _⟩ := hP
      exact sm.seq hL
    · obtain ⟨ah, A, v3, v4, rfl, sm, hA, tA, lA, eA⟩ := hP
      obtain ⟨t, ht, rfl⟩ := refs_some hy
      obtain ⟨⟨x, z⟩, hq⟩ := get_of_len ht hlen
      have hi : i < pts.length := (List.getElem?_eq_some_iff.mp hq).1
      have hxi : (pts.map (·.1))[i]? = some x := by rw [List.getElem?_map, hq]; rfl
      have lnn := nou_len tA (by rw [List.length_take, List.length_map]; omega) (by omega) eA
      rw [List.length_take, List.length_map, Nat.min_eq_left (by omega)] at lnn
      refine ⟨t, _, rfl, same_tup sm (htt i t _ ht hq), rfl, _, _, rfl, _, _, rfl, rfl, ?_⟩
      refine ⟨_, rfl, _, rfl, by show 2 ≤ sizeLine; decide, fun c2 hc2 => ?_⟩
      have s2 := same_upd (o := .tup [e1 x, .int 1]) hc2
      refine ⟨A, c2, ah, [x, 1], rfl, same_tup s2 hA, SqT.of upd_same, by omega, by show 2 ≤ 100; decide, fun m mA H2 sm2 hm tm em lm => ?_⟩
      refine ⟨m, mA, _, _, rfl, sm.trans (s2.trans sm2), hm, tm, by simp only [List.length_cons, List.length_nil] at lm; omega, fun y => ?_⟩
      rw [em, eA, ev_lin, take_snoc hxi, nou_snoc, MV.add_comm x]
    · obtain ⟨ah, A, v3, v4, rfl, sm, hA, tA, lA, eA⟩ := hP1
      have eAll : ∀ x, ev ah x = nou (pts.map (·.1)) x := fun x => by rw [eA, List.length_map, hlen, ← List.length_map (f := (·.1)) (as := pts), List.take_length]
      have lah : ah.length = pts.length + 1 := by
        rw [nou_len tA (by rw [List.length_map]; omega) (by omega) eAll, List.length_map]
      refine ⟨_, rfl, L, pts, rfl, hP.same sm, lp, hnd, fun re R H1 sm1 hR tR lR eR => ?_⟩
      have sm01 := sm.trans sm1
      refine ⟨Nat.zero_le _, fun b0 g0 => ⟨by show 1 ≤ sizeLine; decide, fun b1 g1 => ?_⟩⟩
      have s3 := (same_upd (o := .tup []) g0).trans (same_upd (o := .tup [.int 1]) g1)
      have I0 : GaoI pts pts.length k ah re [] [1] := GaoI.start tA tR lah lR k2 (fun q hq => by rw [eAll]; exact nou_zero (List.mem_map.mpr ⟨q, hq, rfl⟩)) eR
      refine ⟨fun m σ H' => ∃ (ah re fa fc : List F) (A R FA Fc : Addr) (v3 v4 v8 v9 : Option V), σ = [some (.ref L), some (.int k), some (.ref A), v3, v4, some (.ref R), some (.ref FA), some (.ref Fc), v8, v9] ∧ m = re.length ∧ Same H H' ∧
          SqT K H' A (eL ah) ∧ SqT K H' R (eL re) ∧ SqT K H' FA (eL fa) ∧ SqT K H' Fc (eL fc) ∧ GaoI pts pts.length k ah re fa fc,
        ⟨_, ah, re, [], [1], A, R, b0, b1, v3, v4, none, none, rfl, rfl, sm01.trans s3, same_tup (sm1.trans s3) hA, same_tup s3 hR, SqT.of (same_upd g1 _ _ upd_same), SqT.of upd_same, I0⟩, ?_⟩
      rintro m σ H' ⟨ah, re, fa, fc, A, R, FA, Fc, v3, v4, v8, v9, rfl, em, sm, hA, hR, hFA, hFc, I⟩
      have i1 := I.ln
      have i2 := I.lf
      have i3 := I.lr
      refine ⟨_, rfl, R, _, rfl, .inr hR, _, _, rfl, rfl, _, _, rfl, rfl, .inl ⟨by decide, by decide⟩, _, rfl, L, _, rfl, .inl (sm.seq hL), _, rfl, _, _, rfl, rfl, _, _, rfl, rfl, _, rfl, ?_⟩
      rw [eL_length, List.length_map, hlen]
      refine dec_case (fun hc => ?_) (fun hc => ?_)
      · refine ⟨_, fun _ _ z => z, ?_⟩
        have hc' : pts.length + k + 2 ≤ 2 * re.length := by omega
        have nre : re ≠ [] := ne_nil_of (by omega)
        refine ⟨_, rfl, _, rfl, A, R, ah, re, rfl, hA, hR, I.tr, nre, by omega, by omega, fun u t a b e H2 sm2 he hu ht tu tt eu lu lt => ?_⟩
        refine ⟨e, _, rfl, he, rfl, _, _, rfl, _, _, rfl, rfl, ?_⟩
        refine ⟨_, rfl, _, rfl, _, _, rfl, ?_⟩
        refine ⟨_, rfl, _, rfl, _, rfl, _, rfl, a, Fc, u, fc, rfl, hu, same_tup sm2 hFc, by omega, by omega, fun p pA H3 sm3 hp tp ep lp' => ?_⟩
        refine ⟨FA, pA, fa, p, rfl, same_tup (sm2.trans sm3) hFA, hp, by omega, by omega, fun g gA H4 sm4 hg tg eg lg => ?_⟩
        have sm24 := (sm2.trans sm3).trans sm4
        refine ⟨_, _, rfl, t.length, by omega, re, t, fc, g, R, b, Fc, gA, v3, v4, _, _, rfl, rfl, sm.trans sm24, same_tup sm24 hR, same_tup (sm3.trans sm4) ht, same_tup sm24 hFc, hg, ?_⟩
        exact I.step lp hc' tu tt lt (by omega) eu tg (by omega) fun x => by rw [eg, ep]
      · have hc' : ¬ pts.length + k + 2 ≤ 2 * re.length := by omega
        have ec := I.end lp k1 k2 hc' rfl hnd lc hb
        have nfc : fc ≠ [] := ne_nil_of (by omega)
        refine ⟨_, rfl, _, rfl, R, Fc, re, fc, rfl, hR, hFc, I.tf, nfc, by omega, by omega, fun u t a b e H2 sm2 he hu ht tu tt eu lu lt => ?_⟩
        obtain ⟨et, eu2⟩ := div_exact I.tf tu tt nfc lt (by omega) (by omega) (by omega) eu ec
        subst et
        exact kq u a b e H2 (sm.trans sm2) he hu ht eu2 (((PL.of c).mono lc).length tu (by omega) (by omega) eu2)

/-! ### corrected -/
theorem gpA_fst_mem {n : Nat} {s : List (Option F)} {x : F} (h : x ∈ (gpA n s).map (·.1)) : ∃ j, j < s.length ∧ x = fN (n + j) := by
  obtain ⟨q, hq, rfl⟩ := List.mem_map.mp h
  obtain ⟨j, h1, h2⟩ := gpA_mem hq
  exact ⟨j, (List.getElem?_eq_some_iff.mp h1).1, h2⟩
theorem gpA_nodup : ∀ (n : Nat) (s : List (Option F)), n + s.length ≤ 128 → ((gpA n s).map (·.1)).Nodup
  | _, [], _ => List.nodup_nil
  | n, none :: t, h => gpA_nodup (n + 1) t (by simp only [List.length_cons] at h; omega)
  | n, some a :: t, h => by
    show (fN n :: (gpA (n + 1) t).map (·.1)).Nodup
    simp only [List.length_cons] at h
    rw [List.nodup_cons]
    refine ⟨fun hm => ?_, gpA_nodup (n + 1) t (by omega)⟩
    obtain ⟨j, hj, e⟩ := gpA_fst_mem hm
    have := fN_inj (by omega) (by omega) e
    omega
theorem gpA_lt {s : List (Option F)} (hs : s.length ≤ 16) {q : F × F} (h : q ∈ gpA 0 s) : q.1.v < s.length ∧ fN q.1.v = q.1 := by
  obtain ⟨j, h1, h2⟩ := gpA_mem h
  have hj := (List.getElem?_eq_some_iff.mp h1).1
  rw [h2, Nat.zero_add, fN_v (by omega)]
  exact ⟨hj, rfl⟩
theorem unl_bad {s : List (Option F)} (hs : s.length ≤ 16) (c : List F) : unl (wordL c s.length) (gpA 0 s) = bad c (gpA 0 s) := by
  unfold unl bad
  refine List.filter_congr fun q hq => ?_
  obtain ⟨h1, h2⟩ := gpA_lt hs hq
  rw [wordL_co h1, h2]
theorem wordL_congr {u c : List F} (n : Nat) (h : ∀ x, ev u x = ev c x) : wordL u n = wordL c n := by
  unfold wordL
  exact List.map_congr_left fun i _ => h _
def spCorr (K : PySem.W.Frag) (C : Addr) : Sp := fun vs H Q E => ∃ (S : Addr) (k : Nat) (sy : List (Option F)) (c : List F), vs = [.ref S, .int k] ∧ SqA K H S (sy.map oV) ∧ sy.length ≤ 16 ∧ 1 ≤ k ∧
  (k ≤ (gpA 0 sy).length → c.length ≤ k ∧ 2 * (bad c (gpA 0 sy)).length + k ≤ (gpA 0 sy).length ∧
    ∀ (W Ch e : Addr) (H' : Hp), Same H H' → SqT K H' e [.ref W, .ref Ch] → SqT K H' W (eL (wordL c sy.length)) → SqT K H' Ch (eL ((bad c (gpA 0 sy)).map (·.1))) → Q (.ref e) H') ∧
  ((gpA 0 sy).length < k → ∀ (d : Addr) (H' : Hp), Same H H' → H d = none → H' d = some (.xd [("word", V.str "lost")]) → E (.ref C) (some d) H')
theorem scCorr : FnScope ["symbols", "k", "points", "p", "rest", "word", "changed"] ["symbols", "k"] (defScope sCorr) := ⟨rfl, rfl, rfl, by decide +kernel, rfl, by decide +kernel, by decide +kernel⟩
theorem ok_corr {f C fG fN' fW fU : Addr} {fd fdG fdN fdW fdU : FuncData} (F0 : Fun K "corrected" "corrected" sCorr f fd) (DG : Df P w K mg base (L2.CX P w) 3 "given_points" ["symbols", "k"] (spGiven K C) fG fdG)
    (DN : Df P w K mg base CX0 6 "near_quotient" ["points", "k"] (spNear K) fN' fdN) (DW : Df P w K mg base CX0 3 "word_of" ["p", "size"] (spWordOf K) fW fdW) (DU : Df P w K mg base CX0 1 "unlike_places" ["word", "points"] (spUnlike K) fU fdU)
    (ml : mg "len" = none) (mt : mg "tuple" = none) : FnOk P w K mg base (L2.CX P w) 7 f fd ["symbols", "k"] (spCorr K C) := by
  refine F0.okX scCorr (fun vs H Q E h => ?_) (fun cdv A outer s H vs Q E hr h => ?_)
  · obtain ⟨S, k, sy, c, rfl, _⟩ := h
    rfl
  · obtain ⟨S, k, sy, c, rfl, hS, ls, k1, kq, ke⟩ := h
    have nd := scCorr.nd
    have hr1 : Room 1 _ := hr.mono (by decide)
    have hr3 : Room 3 _ := hr.mono (by decide)
    refine ⟨_, pss_cons (ps_set (i := 2) nd rfl (.inl rfl) (pe_call DG.ok hr3 rfl DG.mg DG.kp DG.bd .nil (passes_call (E := E) (takes_of rfl rfl rfl rfl) (fun _ _ _ _ z => z)) (pa_cons (pv 0) (pa_cons (pv 1) pa_nil))))
      (pss_cons (ps_asg (pcall DN hr (pa_cons (pv 2) (pa_cons (pv 1) pa_nil))) (pg_tup rfl (pgs_cons (pg_name (i := 3) nd rfl (.inl rfl)) (pgs_cons (pg_name (i := 4) nd rfl (.inl rfl)) pgs_nil))))
      (pss_cons (ps_if (PW.pt (pw_or (pt_cmpR op_gt (pe_callB call_len_seq (by rfl) ml PySem.boot_len (pa_cons (pv 4) pa_nil)) pe_int (nomark _)) (pw_or1 (pt_cmpR op_gt (pe_callB call_len_seq (by rfl) ml PySem.boot_len (pa_cons (pv 3) pa_nil)) (pv 1) (nomark _))))) (pss_one ps_never) pss_nil)
      (pss_cons (ps_set (i := 5) nd rfl (.inl rfl) (pcall DW hr3 (pa_cons (pv 3) (pa_cons (pe_callB call_len_seq (by rfl) ml PySem.boot_len (pa_cons (pv 0) pa_nil)) pa_nil))))
      (pss_cons (ps_set (i := 6) nd rfl (.inl rfl) (pcall DU hr1 (pa_cons (pv 5) (pa_cons (pv 2) pa_nil))))
      (pss_cons (ps_if (pt_cmpR op_gt (pe_callB call_len_seq (by rfl) ml PySem.boot_len (pa_cons (pv 6) pa_nil)) (pe_op op_fdiv (pe_op op_sub (pe_callB call_len_seq (by rfl) ml PySem.boot_len (pa_cons (pv 2) pa_nil)) (pv 1)) pe_int) (nomark _)) (pss_one ps_never) pss_nil)
      (pss_one (ps_ret (pe_tup (pa_cons (pv 5) (pa_cons (pe_callTy call_tuple_of (by rfl) mt (by decide +kernel) (pa_cons (pv 6) pa_nil)) pa_nil)))))))))), ?_⟩
    refine ⟨_, rfl, _, rfl, S, k, sy, rfl, hS, ls, fun hk D H1 sm hP => ?_, fun hk d H1 sm hd hx => ke (by omega) d H1 sm hd hx⟩
    have hk' : k ≤ (gpA 0 sy).length := by omega
    obtain ⟨lc, hb, kq⟩ := kq hk'
    have lp : (gpA 0 sy).length ≤ 16 := Nat.le_trans (gpA_length 0 sy) ls
    refine ⟨_, rfl, _, rfl, D, k, gpA 0 sy, c, rfl, hP, lp, k1, hk', gpA_nodup 0 sy (by omega), lc, hb, fun u a b e H2 sm2 he hu hb0 eu lu => ?_⟩
    refine ⟨e, _, rfl, he, rfl, _, _, rfl, _, _, rfl, rfl, ?_⟩
    refine ⟨_, rfl, b, _, rfl, .inr hb0, _, _, rfl, rfl, _, rfl, dec_false (by decide) ?_⟩
    refine ⟨_, rfl, a, _, rfl, .inr hu, _, rfl, _, _, rfl, rfl, _, rfl, dec_false (by rw [eL_length]; omega) ?_⟩
    refine ⟨_, rfl, _, rfl, S, _, rfl, (hS.same (sm.trans sm2)), a, u, sy.length, ?_, hu, ls, fun W H3 sm3 hW => ?_⟩
    · rw [List.length_map]
      rfl
    rw [wordL_congr _ eu] at hW
    refine ⟨_, rfl, _, rfl, W, D, _, gpA 0 sy, rfl, hW, hP.same (sm2.trans sm3), fun q hq => by rw [wordL_length]; exact (gpA_lt ls hq).1, lp, fun Cl H4 sm4 hn hCl => ?_⟩
    rw [unl_bad ls] at hCl
    obtain ⟨ts, hL, hlen, _⟩ := hP.same ((sm2.trans sm3).trans sm4)
    refine ⟨_, rfl, Cl, _, rfl, .inl (SqL.of hCl), _, rfl, D, _, rfl, .inl hL, _, rfl, _, _, rfl, rfl, _, _, rfl, rfl, ⟨by decide, by decide⟩, _, _, rfl, rfl, _, rfl, dec_false ?_ ?_⟩
    · rw [eL_length, List.length_map, List.length_map, hlen]
      omega
    refine ⟨_, rfl, _, rfl, Cl, _, rfl, .inl ⟨SqL.of hCl, fun l hl => ⟨by show 2 ≤ sizeLine; decide, fun z hz => ?_⟩⟩⟩
    have s5 := same_upd (o := .tup (eL ((bad c (gpA 0 sy)).map (·.1)))) hl
    have s6 := same_upd (o := .tup [.ref W, .ref l]) hz
    exact kq W l z _ (sm.trans (sm2.trans (sm3.trans (sm4.trans (s5.trans s6))))) (SqT.of upd_same) (same_tup (sm4.trans (s5.trans s6)) hW) (same_tup s6 (SqT.of upd_same))
end
end Mv
/-! The law's own helpers: numbers drawn. -/
namespace Mv
open PySem PySem.Spec PyProof.Rows L2 MV
/-! ### the pool -/
def poolL (c : Addr) (at' rest left : Int) (small : Bool) (seed turn : Int) : List (Key × V) :=
  [(.inr "cells", .ref c), (.inr "at", .int at'), (.inr "rest", .int rest), (.inr "left", .int left), (.inr "small", .bl small), (.inr "seed", .int seed), (.inr "turn", .int turn)]
theorem poolL_len {c : Addr} {at' rest left : Int} {small : Bool} {seed turn : Int} : (poolL c at' rest left small seed turn).length ≤ 1000 := by
  show 7 ≤ 1000
  decide
/-- a pool at p -/
def PoolAt (H : Hp) (p c : Addr) : Prop := ∃ (cells : List Int) (a : Nat) (rest left : Int) (small : Bool) (seed turn : Int), H p = some (.dK (poolL c a rest left small seed turn)) ∧ H c = some (.lst (cells.map V.int)) ∧ cells.length ≤ 100
/-- all but p is as it was -/
def SameB (p : Addr) (H H' : Hp) : Prop := ∀ b o, b ≠ p → H b = some o → H' b = some o
theorem SameB.refl (p : Addr) (H : Hp) : SameB p H H := fun _ _ _ h => h
theorem SameB.trans {p : Addr} {H H1 H2 : Hp} (a : SameB p H H1) (b : SameB p H1 H2) : SameB p H H2 := fun c o hc h => b c o hc (a c o hc h)
theorem same_toB {p : Addr} {H H' : Hp} (e : Same H H') : SameB p H H' := fun b o _ h => e b o h
theorem sameB_upd {p : Addr} {H : Hp} {o : HO} : SameB p H (upd H p o) := fun b x hb h => by rw [upd_ne hb]; exact h
theorem SameB.seq {K : PySem.W.Frag} {p a : Addr} {H H' : Hp} {xs : List V} (e : SameB p H H') (hp : a ≠ p) (h : SqL K H a xs) : SqL K H' a xs := by
  rcases h with (h | ⟨o, h⟩) | h
  · exact .inl (.inl (e _ _ hp h))
  · exact .inl (.inr ⟨o, e _ _ hp h⟩)
  · exact .inr h
theorem dg {H : Hp} {p : Addr} {kvs : List (Key × V)} {v : V} (hp : H p = some (.dK kvs)) (k : Key) (e : valV kvs k = some v) : DGet H p (kV k) (some v) := by
  rw [← e]
  exact DGet.k hp
theorem dp {H : Hp} {p : Addr} {kvs kvs' : List (Key × V)} (hp : H p = some (.dK kvs)) (k : Key) (v : V) (e : putK kvs k v = kvs') (hl : kvs.length ≤ 1000) : DPut H p (kV k) v (upd H p (.dK kvs')) := by
  rw [← e]
  exact DPut.k hp (small1000 hl)
section
variable {P : Program} {w : World} {K : PySem.W.Frag} {mg : Str → Option Value} {base : Heap}

/-! ### mixed -/
def spMixed : Sp := fun vs H Q _ => ∃ a t m : Int, vs = [.int a, .int t, .int m] ∧ 0 < m ∧ ∀ v : Int, 0 ≤ v → v < m → Q (.int v) H
theorem scMixed : FnScope ["_law_number", "_law_turn", "_law_many", "_law_prime", "_law_once", "_law_twice"] ["_law_number", "_law_turn", "_law_many"] (defScope sMixed) := ⟨rfl, rfl, rfl, by decide +kernel, rfl, by decide +kernel, by decide +kernel⟩
theorem ok_mixed {f : Addr} {fd : FuncData} (F0 : Fun K "_law_mixed" "_law_mixed" sMixed f fd) (mi : mg "int" = none) : FnOk P w K mg base CX0 1 f fd ["_law_number", "_law_turn", "_law_many"] spMixed := by
  refine F0.ok scMixed (fun vs H Q E h => ?_) (fun cdv A outer s H vs Q E hr h => ?_)
  · obtain ⟨a, t, m, rfl, _⟩ := h
    rfl
  · obtain ⟨a, t, m, rfl, hm, k⟩ := h
    have nd := scMixed.nd
    refine ⟨_, pss_cons (ps_set (i := 3) nd rfl (.inl rfl) pe_int)
      (pss_cons (ps_set (i := 4) nd rfl (.inl rfl) (pe_op op_mod (pe_callTy call_int1 (by rfl) mi (by decide +kernel) (pa_cons (pe_op op_add (pe_op op_add (pe_op op_mul (pv 0) pe_int) (pe_op op_mul (pv 1) pe_int)) pe_int) pa_nil)) (pv 3)))
      (pss_cons (ps_set (i := 5) nd rfl (.inl rfl) (pe_op op_mod (pe_op op_mul (pe_callTy call_int1 (by rfl) mi (by decide +kernel) (pa_cons (pe_op op_add (pe_op op_mul (pv 4) (pv 4)) (pv 1)) pa_nil)) pe_int) (pv 3)))
      (pss_one (ps_ret (pe_op op_mod (pe_op op_fdiv (pv 5) pe_int) (pv 2)))))), ?_⟩
    have cst : CMul a 48271 := .inr ⟨by decide, by decide⟩
    have cst2 : CMul t 1000000000039 := .inr ⟨by decide, by decide⟩
    have hpr : (0 : Int) < 2305843009213693951 := by decide
    have h1 : 0 ≤ (a * 48271 + t * 1000000000039 + 12345678910111213) % 2305843009213693951 := Int.emod_nonneg _ (by decide)
    have h2 : (a * 48271 + t * 1000000000039 + 12345678910111213) % 2305843009213693951 < 2305843009213693951 := Int.emod_lt_of_pos _ hpr
    have c1 : CMul ((a * 48271 + t * 1000000000039 + 12345678910111213) % 2305843009213693951) ((a * 48271 + t * 1000000000039 + 12345678910111213) % 2305843009213693951) := .inl ⟨by omega, by omega⟩
    have c2 : ∀ z, CMul z 7046029254386353 := fun z => .inr ⟨by decide, by decide⟩
    refine ⟨_, rfl, _, _, rfl, rfl, cst, _, rfl, _, _, rfl, rfl, cst2, _, _, rfl, rfl, _, _, rfl, rfl, .inl ⟨_, rfl, _, rfl, _, _, rfl, rfl, hpr, ?_⟩⟩
    refine ⟨_, rfl, _, rfl, _, _, rfl, rfl, c1, _, rfl, _, _, rfl, rfl, .inl ⟨_, rfl, _, _, rfl, rfl, c2 _, _, rfl, _, _, rfl, rfl, hpr, ?_⟩⟩
    refine ⟨_, rfl, _, _, rfl, rfl, ⟨by decide, by decide⟩, _, rfl, _, _, rfl, rfl, hm, ?_⟩
    exact k _ (Int.emod_nonneg _ (by omega)) (Int.emod_lt_of_pos _ hm)

/-! ### take -/
theorem SameB.of_kind {p : Addr} {H H' : Hp} (e : SameB p H H') {kvs : List (Key × V)} (hp : H p = some (.dK kvs)) {b : Addr} {o : HO} (hb : H b = some o) (ho : ∀ kvs, o ≠ .dK kvs) : H' b = some o :=
  e b o (fun z => by rw [z, hp] at hb; exact ho kvs (Option.some.inj hb).symm) hb
/-- sequences and all but the dict stay -/
theorem SameB.lst {p : Addr} {c : Addr} {H H' : Hp} (e : SameB p H H') (hp : PoolAt H p c) {b : Addr} {xs : List V} (hb : H b = some (.lst xs)) : H' b = some (.lst xs) := by
  obtain ⟨cells, a, rest, left, small, seed, turn, h, _⟩ := hp
  exact e.of_kind h hb (fun _ z => by cases z)
theorem SameB.tup {K : PySem.W.Frag} {p : Addr} {c : Addr} {H H' : Hp} (e : SameB p H H') (hp : PoolAt H p c) {b : Addr} {xs : List V} (hb : SqT K H b xs) : SqT K H' b xs := by
  obtain ⟨cells, a, rest, left, small, seed, turn, h, _⟩ := hp
  rcases hb with (hb | ⟨o, hb⟩) | hb
  · exact .inl (.inl (e.of_kind h hb (fun _ z => by cases z)))
  · exact .inl (.inr ⟨o, e.of_kind h hb (fun _ z => by cases z)⟩)
  · exact .inr hb
theorem SameB.sql {K : PySem.W.Frag} {p : Addr} {c : Addr} {H H' : Hp} (e : SameB p H H') (hp : PoolAt H p c) {b : Addr} {xs : List V} (hb : SqL K H b xs) : SqL K H' b xs := by
  obtain ⟨cells, a, rest, left, small, seed, turn, h, _⟩ := hp
  rcases hb with (hb | ⟨o, hb⟩) | hb
  · exact .inl (.inl (e.of_kind h hb (fun _ z => by cases z)))
  · exact .inl (.inr ⟨o, e.of_kind h hb (fun _ z => by cases z)⟩)
  · exact .inr hb
def spTake : Sp := fun vs H Q _ => ∃ (p c : Addr) (m : Int), vs = [.ref p, .int m] ∧ PoolAt H p c ∧ 0 < m ∧ m ≤ 1000 ∧ ∀ (v : Int) (H' : Hp), 0 ≤ v → v < m → SameB p H H' → PoolAt H' p c → Q (.int v) H'
theorem scTake : FnScope ["_law_pool_here", "_law_many", "_law_drawn"] ["_law_pool_here", "_law_many"] (defScope sTake) := ⟨rfl, rfl, rfl, by decide +kernel, rfl, by decide +kernel, by decide +kernel⟩
theorem ok_take {f fM : Addr} {fd fdM : FuncData} (F0 : Fun K "_law_take" "_law_take" sTake f fd) (DM : Df P w K mg base CX0 1 "_law_mixed" ["_law_number", "_law_turn", "_law_many"] spMixed fM fdM) (ml : mg "len" = none) (mi : mg "int" = none) :
    FnOk P w K mg base CX0 2 f fd ["_law_pool_here", "_law_many"] spTake := by
  refine F0.ok scTake (fun vs H Q E h => ?_) (fun cdv A outer s H vs Q E hr h => ?_)
  · obtain ⟨p, c, m, rfl, _⟩ := h
    rfl
  · obtain ⟨p, c, m, rfl, ⟨cells, a, rest, left, small, seed, turn, hp, hc, lc⟩, hm, hm2, k⟩ := h
    have nd := scTake.nd
    have hu := hu_of hr
    have hcp : c ≠ p := ne_of hc hp (by intro z; cases z)
    -- the rest behind the first two statements
    have tail : ∃ tR, PSs (cxOf CX0 P w K mg base ["_law_pool_here", "_law_many", "_law_drawn"] "_law_take" (defScope sTake) f cdv A outer s H E).nox ((defBody sTake).drop 2) tR ∧
        ∀ (H2 : Hp) (a : Nat) (rest left : Int) (small : Bool) (turn : Int), H2 p = some (.dK (poolL c a rest left small seed turn)) → H2 c = some (.lst (cells.map V.int)) → SameB p H H2 →
          tR { nx := fun _ H' => Q .non H', rt := Q } [some (.ref p), some (.int m), none] H2 := by
      refine ⟨_, pss_cons (ps_if (pt_cmpR op_eq (pe_dget hu (pv 0) pe_str (fun _ _ => rfl)) pe_int (nomark _)) (pss_one (ps_ret (pcall DM hr (pa_cons (pe_dget hu (pv 0) pe_str (fun _ _ => rfl)) (pa_cons (pe_dget hu (pv 0) pe_str (fun _ _ => rfl)) (pa_cons (pv 1) pa_nil)))))) pss_nil)
        (pss_cons (ps_dput hu (pv 0) pe_str (pe_op op_sub (pe_dget hu (pv 0) pe_str (fun _ _ => rfl)) pe_int) rfl)
        (pss_cons (ps_if (pt_val (pe_dget hu (pv 0) pe_str (fun _ _ => rfl))) (pss_one (ps_ret (pcall DM hr (pa_cons (pe_dget hu (pv 0) pe_str (fun _ _ => rfl)) (pa_cons (pe_dget hu (pv 0) pe_str (fun _ _ => rfl)) (pa_cons (pv 1) pa_nil)))))) pss_nil)
        (pss_cons (ps_set (i := 2) nd rfl (.inl rfl) (pe_op op_mod (pe_callTy call_int1 (by rfl) mi (by decide +kernel) (pa_cons (pe_dget hu (pv 0) pe_str (fun _ _ => rfl)) pa_nil)) (pv 1)))
        (pss_cons (ps_dput hu (pv 0) pe_str (pe_op op_fdivN (pe_dget hu (pv 0) pe_str (fun _ _ => rfl)) (pv 1)) rfl)
        (pss_cons (ps_if (pt_cmpR op_eq (pe_dget hu (pv 0) pe_str (fun _ _ => rfl)) pe_int (nomark _)) (pss_one (ps_dput hu (pv 0) pe_str pe_int rfl)) pss_nil)
        (pss_one (ps_ret (pv 2)))))))), fun H2 a rest left small turn hp hc sm => ?_⟩
      have pool : ∀ {H' : Hp} {a : Nat} {rest left : Int} {small : Bool} {turn : Int}, H' p = some (.dK (poolL c a rest left small seed turn)) → H' c = some (.lst (cells.map V.int)) → PoolAt H' p c := fun h1 h2 => ⟨cells, _, _, _, _, _, _, h1, h2, lc⟩
      refine ⟨_, rfl, p, _, rfl, dg hp (.inr "left") rfl, rfl, _, rfl, dec_case (fun _ => ?_) (fun _ => ?_)⟩
      · exact ⟨_, rfl, p, _, rfl, dg hp (.inr "seed") rfl, _, rfl, p, _, rfl, dg hp (.inr "turn") rfl, _, rfl, seed, turn, m, rfl, hm, fun v v0 v1 => k v H2 v0 v1 sm (pool hp hc)⟩
      refine ⟨_, rfl, p, _, rfl, dg hp (.inr "left") rfl, _, _, rfl, rfl, _, rfl, p, _, rfl, dp (kvs' := poolL c a rest (left - 1) small seed turn) hp (.inr "left") _ rfl poolL_len, ?_⟩
      have hp3 : (upd H2 p (.dK (poolL c a rest (left - 1) small seed turn))) p = some (.dK (poolL c a rest (left - 1) small seed turn)) := upd_same
      have hc3 : (upd H2 p (.dK (poolL c a rest (left - 1) small seed turn))) c = some (.lst (cells.map V.int)) := by rw [upd_ne hcp]; exact hc
      have sm3 : SameB p H (upd H2 p (.dK (poolL c a rest (left - 1) small seed turn))) := sm.trans sameB_upd
      refine ⟨_, rfl, p, _, rfl, dg hp3 (.inr "small") rfl, small, rfl, ?_⟩
      generalize hH3 : upd H2 p (.dK (poolL c a rest (left - 1) small seed turn)) = H3 at hp3 hc3 sm3
      cases small with
      | true =>
        refine iteT ?_
        exact ⟨_, rfl, p, _, rfl, dg hp3 (.inr "rest") rfl, _, rfl, p, _, rfl, dg hp3 (.inr "turn") rfl, _, rfl, rest, turn, m, rfl, hm, fun v v0 v1 => k v _ v0 v1 sm3 (pool hp3 hc3)⟩
      | false =>
        refine iteF ?_
        refine ⟨_, rfl, p, _, rfl, dg hp3 (.inr "rest") rfl, .inl ⟨_, rfl, _, rfl, _, _, rfl, rfl, hm, ?_⟩⟩
        refine ⟨_, rfl, p, _, rfl, dg hp3 (.inr "rest") rfl, _, rfl, _, _, rfl, rfl, ⟨by omega, by omega⟩, _, rfl, p, _, rfl, dp (kvs' := poolL c a (rest.fdiv m) (left - 1) false seed turn) hp3 (.inr "rest") _ rfl poolL_len, ?_⟩
        have hp4 : (upd H3 p (.dK (poolL c a (rest.fdiv m) (left - 1) false seed turn))) p = some (.dK (poolL c a (rest.fdiv m) (left - 1) false seed turn)) := upd_same
        have hc4 : (upd H3 p (.dK (poolL c a (rest.fdiv m) (left - 1) false seed turn))) c = some (.lst (cells.map V.int)) := by rw [upd_ne hcp]; exact hc3
        have sm4 : SameB p H (upd H3 p (.dK (poolL c a (rest.fdiv m) (left - 1) false seed turn))) := sm3.trans sameB_upd
        refine ⟨_, rfl, p, _, rfl, dg hp4 (.inr "rest") rfl, rfl, _, rfl, dec_case (fun _ => ?_) (fun _ => ?_)⟩
        · refine ⟨_, rfl, p, _, rfl, dp (kvs' := poolL c a (rest.fdiv m) 0 false seed turn) hp4 (.inr "left") _ rfl poolL_len, ?_⟩
          refine ⟨_, rfl, k _ _ (Int.emod_nonneg _ (by omega)) (Int.emod_lt_of_pos _ hm) (sm4.trans sameB_upd) (pool upd_same ?_)⟩
          rw [upd_ne hcp]
          exact hc4
        · exact ⟨_, rfl, k _ _ (Int.emod_nonneg _ (by omega)) (Int.emod_lt_of_pos _ hm) sm4 (pool hp4 hc4)⟩
    obtain ⟨tR, hR, key⟩ := tail
    have c60 : CPow 10 18 := ⟨by decide, by decide, by decide⟩
    refine ⟨_, pss_cons (ps_dput hu (pv 0) pe_str (pe_op op_add (pe_dget hu (pv 0) pe_str (fun _ _ => rfl)) pe_int) rfl)
      (pss_cons (ps_if (PW.pt (pw_and (pt_cmpR op_eq (pe_dget hu (pv 0) pe_str (fun _ _ => rfl)) pe_int (nomark _)) (pw_and1 (pt_cmpR op_lt (pe_dget hu (pv 0) pe_str (fun _ _ => rfl)) (pe_callB call_len_seq (by rfl) ml PySem.boot_len (pa_cons (pe_dget hu (pv 0) pe_str (fun _ _ => rfl)) pa_nil)) (nomark _)))))
        (pss_cons (ps_dput hu (pv 0) pe_str (pe_ix ix_list (pe_dget hu (pv 0) pe_str (fun _ _ => rfl)) (pe_dget hu (pv 0) pe_str (fun _ _ => rfl)) (fun _ _ => rfl)) rfl)
        (pss_cons (ps_dput hu (pv 0) pe_str (pe_op op_add (pe_dget hu (pv 0) pe_str (fun _ _ => rfl)) pe_int) rfl)
        (pss_cons (ps_dput hu (pv 0) pe_str (pe_cmpR op_lt (pe_dget hu (pv 0) pe_str (fun _ _ => rfl)) (pe_op op_pow pe_int pe_int) (nomark _)) rfl)
        (pss_one (ps_dput hu (pv 0) pe_str (pe_ix ix_list (pe_lst (pa_cons pe_int (pa_cons pe_int pa_nil))) (pe_callTy call_int1 (by rfl) mi (by decide +kernel) (pa_cons (pe_dget hu (pv 0) pe_str (fun _ _ => rfl)) pa_nil)) (fun _ _ => rfl)) rfl))))) pss_nil)
      hR), ?_⟩
    -- turn + 1
    refine ⟨_, rfl, p, _, rfl, dg hp (.inr "turn") rfl, _, _, rfl, rfl, _, rfl, p, _, rfl, dp (kvs' := poolL c a rest left small seed (turn + 1)) hp (.inr "turn") _ rfl poolL_len, ?_⟩
    have hp1 : (upd H p (.dK (poolL c a rest left small seed (turn + 1)))) p = some (.dK (poolL c a rest left small seed (turn + 1))) := upd_same
    have hc1 : (upd H p (.dK (poolL c a rest left small seed (turn + 1)))) c = some (.lst (cells.map V.int)) := by rw [upd_ne hcp]; exact hc
    have sm1 : SameB p H (upd H p (.dK (poolL c a rest left small seed (turn + 1)))) := sameB_upd
    generalize hH1 : upd H p (.dK (poolL c a rest left small seed (turn + 1))) = H1 at hp1 hc1 sm1
    refine ⟨_, rfl, p, _, rfl, dg hp1 (.inr "left") rfl, rfl, _, rfl, dec_case (fun _ => ?_) (fun _ => ?_)⟩
    · refine ⟨_, rfl, p, _, rfl, dg hp1 (.inr "at") rfl, _, rfl, p, _, rfl, dg hp1 (.inr "cells") rfl, c, _, rfl, .inl (SqL.of hc1), _, _, rfl, rfl, _, rfl, dec_case (fun hlt => ?_) (fun _ => ?_)⟩
      · rw [List.length_map] at hlt
        have hlt : a < cells.length := by omega
        have hat : atI (cells.map V.int) (a : Int) = some (.int cells[a]) := atI_nat (by rw [List.getElem?_map, List.getElem?_eq_getElem hlt]; rfl)
        refine ⟨_, rfl, p, _, rfl, dg hp1 (.inr "cells") rfl, _, rfl, p, _, rfl, dg hp1 (.inr "at") rfl, c, _, _, _, rfl, rfl, SqL.of hc1, hat, _, rfl, p, _, rfl, dp (kvs' := poolL c a cells[a] left small seed (turn + 1)) hp1 (.inr "rest") _ rfl poolL_len, ?_⟩
        have hp2 : (upd H1 p (.dK (poolL c a cells[a] left small seed (turn + 1)))) p = some (.dK (poolL c a cells[a] left small seed (turn + 1))) := upd_same
        have hc2 : (upd H1 p (.dK (poolL c a cells[a] left small seed (turn + 1)))) c = some (.lst (cells.map V.int)) := by rw [upd_ne hcp]; exact hc1
        have sm2 : SameB p H (upd H1 p (.dK (poolL c a cells[a] left small seed (turn + 1)))) := sm1.trans sameB_upd
        generalize hH2 : upd H1 p (.dK (poolL c a cells[a] left small seed (turn + 1))) = H2 at hp2 hc2 sm2
        refine ⟨_, rfl, p, _, rfl, dg hp2 (.inr "at") rfl, _, _, rfl, rfl, _, rfl, p, _, rfl, dp (kvs' := poolL c ((a + 1 : Nat) : Int) cells[a] left small seed (turn + 1)) hp2 (.inr "at") _ rfl poolL_len, ?_⟩
        have hp3 : (upd H2 p (.dK (poolL c ((a + 1 : Nat) : Int) cells[a] left small seed (turn + 1)))) p = some (.dK (poolL c ((a + 1 : Nat) : Int) cells[a] left small seed (turn + 1))) := upd_same
        have hc3 : (upd H2 p (.dK (poolL c ((a + 1 : Nat) : Int) cells[a] left small seed (turn + 1)))) c = some (.lst (cells.map V.int)) := by rw [upd_ne hcp]; exact hc2
        have sm3 : SameB p H (upd H2 p (.dK (poolL c ((a + 1 : Nat) : Int) cells[a] left small seed (turn + 1)))) := sm2.trans sameB_upd
        generalize hH3 : upd H2 p (.dK (poolL c ((a + 1 : Nat) : Int) cells[a] left small seed (turn + 1))) = H3 at hp3 hc3 sm3
        generalize hb : decide (cells[a] < (10 : Int) ^ (18 : Int).toNat) = b
        refine ⟨_, rfl, p, _, rfl, dg hp3 (.inr "rest") rfl, _, _, rfl, rfl, c60, _, _, rfl, rfl, _, rfl, p, _, rfl, dp (kvs' := poolL c ((a + 1 : Nat) : Int) cells[a] left b seed (turn + 1)) hp3 (.inr "small") _ (by rw [← hb]; rfl) poolL_len, ?_⟩
        have hp4 : (upd H3 p (.dK (poolL c ((a + 1 : Nat) : Int) cells[a] left b seed (turn + 1)))) p = some (.dK (poolL c ((a + 1 : Nat) : Int) cells[a] left b seed (turn + 1))) := upd_same
        have hc4 : (upd H3 p (.dK (poolL c ((a + 1 : Nat) : Int) cells[a] left b seed (turn + 1)))) c = some (.lst (cells.map V.int)) := by rw [upd_ne hcp]; exact hc3
        have sm4 : SameB p H (upd H3 p (.dK (poolL c ((a + 1 : Nat) : Int) cells[a] left b seed (turn + 1)))) := sm3.trans sameB_upd
        generalize hH4 : upd H3 p (.dK (poolL c ((a + 1 : Nat) : Int) cells[a] left b seed (turn + 1))) = H4 at hp4 hc4 sm4
        refine ⟨by show 2 ≤ sizeLine; decide, fun l hl => ?_⟩
        have s5 := same_upd (o := .lst [.int 60, .int 2]) hl
        have hp5 := s5 _ _ hp4
        have hc5 := s5 _ _ hc4
        have sm5 : SameB p H _ := sm4.trans (same_toB s5)
        have fin : ∀ left' : Int, (upd (upd H4 l (.lst [.int 60, .int 2])) p (.dK (poolL c ((a + 1 : Nat) : Int) cells[a] left' b seed (turn + 1)))) c = some (.lst (cells.map V.int)) := fun left' => by rw [upd_ne hcp]; exact hc5
        cases b with
        | true =>
          refine ⟨_, rfl, p, _, rfl, dg hp5 (.inr "small") rfl, .inr ⟨_, rfl, l, _, _, .int 2, rfl, rfl, SqL.of upd_same, rfl, _, rfl, p, _, rfl, dp (kvs' := poolL c ((a + 1 : Nat) : Int) cells[a] 2 true seed (turn + 1)) hp5 (.inr "left") _ rfl poolL_len, ?_⟩⟩
          exact key _ (a + 1) cells[a] 2 true (turn + 1) upd_same (fin 2) (sm5.trans sameB_upd)
        | false =>
          refine ⟨_, rfl, p, _, rfl, dg hp5 (.inr "small") rfl, .inr ⟨_, rfl, l, _, _, .int 60, rfl, rfl, SqL.of upd_same, rfl, _, rfl, p, _, rfl, dp (kvs' := poolL c ((a + 1 : Nat) : Int) cells[a] 60 false seed (turn + 1)) hp5 (.inr "left") _ rfl poolL_len, ?_⟩⟩
          exact key _ (a + 1) cells[a] 60 false (turn + 1) upd_same (fin 60) (sm5.trans sameB_upd)
      · exact key H1 a rest left small (turn + 1) hp1 hc1 sm1
    · exact key H1 a rest left small (turn + 1) hp1 hc1 sm1
end
end Mv
/-! The law's own helpers: symbols, shapes, rows, choices. -/
namespace Mv
open PySem PySem.Spec PyProof.Rows L2 MV
theorem PoolAt.same {H H' : Hp} {p c : Addr} (h : PoolAt H p c) (e : Same H H') : PoolAt H' p c := by
  obtain ⟨cells, a, rest, left, small, seed, turn, h1, h2, h3⟩ := h
  exact ⟨cells, a, rest, left, small, seed, turn, e _ _ h1, e _ _ h2, h3⟩
/-- a number below 128 is a symbol -/
theorem sym_of {v : Int} (h0 : 0 ≤ v) (h1 : v < 128) : ∃ z : F, V.int v = e1 z := ⟨fN v.toNat, by rw [e1_fN (by omega)]; congr 1; omega⟩
section
variable {P : Program} {w : World} {K : PySem.W.Frag} {mg : Str → Option Value} {base : Heap}

/-! ### symbol -/
def spSymbol : Sp := fun vs H Q _ => ∃ p c : Addr, vs = [.ref p] ∧ PoolAt H p c ∧ ∀ (z : F) (H' : Hp), SameB p H H' → PoolAt H' p c → Q (e1 z) H'
theorem scSymbol : FnScope ["_law_pool_here"] ["_law_pool_here"] (defScope sSymbol) := ⟨rfl, rfl, rfl, by decide +kernel, rfl, by decide +kernel, by decide +kernel⟩
theorem ok_symbol {f fT : Addr} {fd fdT : FuncData} (F0 : Fun K "_law_symbol" "_law_symbol" sSymbol f fd) (DT : Df P w K mg base CX0 2 "_law_take" ["_law_pool_here", "_law_many"] spTake fT fdT) : FnOk P w K mg base CX0 3 f fd ["_law_pool_here"] spSymbol := by
  refine F0.ok scSymbol (fun vs H Q E h => ?_) (fun cdv A outer s H vs Q E hr h => ?_)
  · obtain ⟨p, c, rfl, _⟩ := h
    rfl
  · obtain ⟨p, c, rfl, hp, k⟩ := h
    refine ⟨_, pss_one (ps_ret (pe_ix ix_list (pe_lst (pa_cons pe_int (pa_cons pe_int (pa_cons pe_int (pa_cons (pcall DT hr (pa_cons (pv 0) (pa_cons pe_int pa_nil))) (pa_cons (pcall DT hr (pa_cons (pv 0) (pa_cons pe_int pa_nil))) pa_nil)))))) (pcall DT hr (pa_cons (pv 0) (pa_cons pe_int pa_nil))) (fun _ _ => rfl))), ?_⟩
    refine ⟨_, rfl, p, c, 128, rfl, hp, by decide, by decide, fun v1 H1 a1 b1 sm1 hp1 => ?_⟩
    refine ⟨_, rfl, p, c, 128, rfl, hp1, by decide, by decide, fun v2 H2 a2 b2 sm2 hp2 => ?_⟩
    refine ⟨by show 5 ≤ sizeLine; decide, fun l hl => ?_⟩
    obtain ⟨z1, e1'⟩ := sym_of a1 b1
    obtain ⟨z2, e2'⟩ := sym_of a2 b2
    have sl := same_upd (o := .lst [.int 0, .int 1, .int 127, .int v1, .int v2]) hl
    refine ⟨_, rfl, p, c, 5, rfl, hp2.same sl, by decide, by decide, fun v3 H3 a3 b3 sm3 hp3 => ?_⟩
    have hL : H3 l = some (.lst (eL [0, 1, fN 127, z1, z2])) := by
      rw [sm3.lst (hp2.same sl) upd_same, e1', e2']
      rfl
    refine ⟨l, _, _, _, rfl, rfl, SqL.of hL, at_eL (j := v3.toNat) (by omega) (by show v3.toNat < 5; omega), ?_⟩
    exact k _ H3 ((sm1.trans sm2).trans ((same_toB sl).trans sm3)) hp3

/-! ### shape -/
def spShape (K : PySem.W.Frag) : Sp := fun vs H Q _ => ∃ p c : Addr, vs = [.ref p, .int 16] ∧ PoolAt H p c ∧ ∀ (k r : Nat) (t : Addr) (H' : Hp), 1 ≤ k → k + r ≤ 16 → SameB p H H' → PoolAt H' p c → SqT K H' t [.int k, .int r] → Q (.ref t) H'
theorem scShape : FnScope ["_law_pool_here", "_law_most", "_law_k"] ["_law_pool_here", "_law_most"] (defScope sShape) := ⟨rfl, rfl, rfl, by decide +kernel, rfl, by decide +kernel, by decide +kernel⟩
theorem ok_shape {f fT : Addr} {fd fdT : FuncData} (F0 : Fun K "_law_shape" "_law_shape" sShape f fd) (DT : Df P w K mg base CX0 2 "_law_take" ["_law_pool_here", "_law_many"] spTake fT fdT) (mm : mg "min" = none) : FnOk P w K mg base CX0 3 f fd ["_law_pool_here", "_law_most"] (spShape K) := by
  refine F0.ok scShape (fun vs H Q E h => ?_) (fun cdv A outer s H vs Q E hr h => ?_)
  · obtain ⟨p, c, rfl, _⟩ := h
    rfl
  · obtain ⟨p, c, rfl, hp, kq⟩ := h
    have nd := scShape.nd
    refine ⟨_, pss_cons (ps_set (i := 2) nd rfl (.inl rfl) (pe_op op_add pe_int (pcall DT hr (pa_cons (pv 0) (pa_cons (pe_ix ix_list (pe_lst (pa_cons pe_int (pa_cons pe_int (pa_cons (pv 1) pa_nil)))) (pcall DT hr (pa_cons (pv 0) (pa_cons pe_int pa_nil))) (fun _ _ => rfl)) pa_nil)))))
      (pss_one (ps_ret (pe_tup (pa_cons (pv 2) (pa_cons (pe_ix ix_list (pe_lst (pa_cons (pe_callB (call_min2 rfl) (by rfl) mm (by decide +kernel) (pa_cons pe_int (pa_cons (pe_op op_sub (pv 1) (pv 2)) pa_nil))) (pa_cons (pcall DT hr (pa_cons (pv 0) (pa_cons (pe_op op_sub (pe_op op_add (pv 1) pe_int) (pv 2)) pa_nil))) (pa_cons (pe_op op_sub (pv 1) (pv 2)) pa_nil))))
        (pcall DT hr (pa_cons (pv 0) (pa_cons pe_int pa_nil))) (fun _ _ => rfl)) pa_nil))))), ?_⟩
    refine ⟨_, rfl, _, rfl, by show 3 ≤ sizeLine; decide, fun l hl => ?_⟩
    have sl := same_upd (o := .lst [.int 2, .int 6, .int 16]) hl
    refine ⟨_, rfl, p, c, 3, rfl, hp.same sl, by decide, by decide, fun v1 H1 a1 b1 sm1 hp1 => ?_⟩
    have hL1 : H1 l = some (.lst [.int 2, .int 6, .int 16]) := sm1.lst (hp.same sl) upd_same
    have sm01 := (same_toB (p := p) sl).trans sm1
    have hm : ∃ m : Int, atI [V.int 2, .int 6, .int 16] v1 = some (.int m) ∧ 0 < m ∧ m ≤ 16 := by
      rcases (show v1 = 0 ∨ v1 = 1 ∨ v1 = 2 by omega) with rfl | rfl | rfl
      · exact ⟨2, rfl, by decide, by decide⟩
      · exact ⟨6, rfl, by decide, by decide⟩
      · exact ⟨16, rfl, by decide, by decide⟩
    obtain ⟨m, hat, m0, m1⟩ := hm
    refine ⟨l, _, _, _, rfl, rfl, SqL.of hL1, hat, p, c, m, rfl, hp1, m0, by omega, fun v2 H2 a2 b2 sm2 hp2 => ?_⟩
    obtain ⟨k, hk⟩ : ∃ k : Nat, 1 + v2 = (k : Int) := ⟨(1 + v2).toNat, by omega⟩
    refine ⟨_, _, rfl, rfl, ?_⟩
    show gName 2 (V.int (1 + v2)) _ _ _
    rw [hk]
    refine ⟨_, rfl, _, rfl, _, rfl, _, _, rfl, rfl, _, _, rfl, ?_⟩
    refine ⟨_, rfl, _, rfl, _, _, rfl, rfl, _, rfl, _, _, rfl, rfl, p, c, _, rfl, hp2, by omega, by omega, fun v3 H3 a3 b3 sm3 hp3 => ?_⟩
    refine ⟨_, rfl, _, rfl, _, _, rfl, rfl, by show 3 ≤ sizeLine; decide, fun l2 hl2 => ?_⟩
    have sl2 := same_upd (o := .lst [V.int (if (16 : Int) - (k : Int) < 4 then 16 - (k : Int) else 4), .int v3, .int (16 - (k : Int))]) hl2
    refine ⟨_, rfl, p, c, 3, rfl, hp3.same sl2, by decide, by decide, fun v4 H4 a4 b4 sm4 hp4 => ?_⟩
    have hL4 := sm4.lst (hp3.same sl2) (xs := [V.int (if (16 : Int) - (k : Int) < 4 then 16 - (k : Int) else 4), .int v3, .int (16 - (k : Int))]) upd_same
    have hr' : ∃ r : Nat, atI [V.int (if (16 : Int) - (k : Int) < 4 then 16 - (k : Int) else 4), .int v3, .int (16 - (k : Int))] v4 = some (.int r) ∧ k + r ≤ 16 := by
      rcases (show v4 = 0 ∨ v4 = 1 ∨ v4 = 2 by omega) with rfl | rfl | rfl
      · refine ⟨(if (16 : Int) - (k : Int) < 4 then 16 - (k : Int) else 4).toNat, ?_, by split <;> omega⟩
        show some (V.int _) = some (V.int _)
        congr 2
        split <;> omega
      · exact ⟨v3.toNat, by show some (V.int _) = some (V.int _); congr 2; omega, by omega⟩
      · exact ⟨(16 - (k : Int)).toNat, by show some (V.int _) = some (V.int _); congr 2; omega, by omega⟩
    obtain ⟨r, hat2, hkr⟩ := hr'
    refine ⟨l2, _, _, _, rfl, rfl, SqL.of hL4, hat2, by show 2 ≤ sizeLine; decide, fun t ht => ?_⟩
    exact kq k r t _ (by omega) hkr (sm01.trans (sm2.trans (sm3.trans ((same_toB sl2).trans (sm4.trans (same_toB (same_upd ht))))))) (hp4.same (same_upd ht)) (SqT.of upd_same)

/-! ### is_row, is_told -/
theorem tyTup {H : Hp} {a : Addr} {xs : List V} (h : SqT K H a xs) : TyX K H (.ref a) (.type "tuple") := by
  rcases h with (h | ⟨o, h⟩) | ⟨o, its, n, h, hc, _⟩
  · exact .base (.tup h)
  · exact .fTuple h
  · exact .kTuple h hc
theorem kTT : kitB "tuple" "tuple" = some true := by decide +kernel
theorem kII : kitB "int" "int" = some true := by decide +kernel
theorem kIB : kitB "int" "bool" = some false := by decide +kernel
theorem iteNot {b : Bool} {A B : Prop} (hb : b = false) (h : B) : if b = true then A else B := by
  subst hb
  exact iteF h
def spIsRow (K : PySem.W.Frag) : Sp := fun vs H Q _ => ∃ (a d : Addr) (xs : List F), vs = [.ref a, .ref d] ∧ SqT K H a (eL xs) ∧ SqT K H d (eL xs) ∧ xs.length ≤ 1000 ∧ Q (.bl true) H
theorem scIsRow : FnScope ["_law_actual", "_law_due", "_law_k"] ["_law_actual", "_law_due"] (defScope sIsRow) := ⟨rfl, rfl, rfl, by decide +kernel, rfl, by decide +kernel, by decide +kernel⟩
theorem ok_isRow {f : Addr} {fd : FuncData} (F0 : Fun K "_law_is_row" "_law_is_row" sIsRow f fd) (ml : mg "len" = none) (mt : mg "tuple" = none) (mi : mg "int" = none) (mb : mg "bool" = none) (ms : mg "isinstance" = none) (mr : mg "range" = none) :
    FnOk P w K mg base CX0 1 f fd ["_law_actual", "_law_due"] (spIsRow K) := by
  refine F0.ok scIsRow (fun vs H Q E h => ?_) (fun cdv A outer s H vs Q E hr h => ?_)
  · obtain ⟨a, d, xs, rfl, _⟩ := h
    rfl
  · obtain ⟨a, d, xs, rfl, ha, hd, lx, k⟩ := h
    have nd := scIsRow.nd
    refine ⟨_, pss_cons (ps_if (PW.pt (pw_or (pt_not (pt_val (pe_callB call_isi (by rfl) ms PyProof.Rows.boot_isinstance (pa_cons (pv 0) (pa_cons (pe_bltn (v := .ty "tuple") (u := .type "tuple") (by rfl) mt (by decide +kernel) rfl) pa_nil)))))
        (pw_or1 (pt_cmpR op_ne (pe_callB call_len_seq (by rfl) ml PySem.boot_len (pa_cons (pv 0) pa_nil)) (pe_callB call_len_seq (by rfl) ml PySem.boot_len (pa_cons (pv 1) pa_nil)) (nomark _))))) (pss_one (ps_ret pe_bl)) pss_nil)
      (pss_cons (ps_for PassesOwn.never rfl (pi_range1 rfl mr (pa_cons (pe_callB call_len_seq (by rfl) ml PySem.boot_len (pa_cons (pv 1) pa_nil)) pa_nil)) (pg_name (i := 2) nd rfl (.inl rfl))
        (pss_one (ps_if (PW.pt (pw_or (pt_not (pt_val (pe_callB call_isi (by rfl) ms PyProof.Rows.boot_isinstance (pa_cons (pe_ix ix_tup (pv 0) (pv 2) (fun _ _ => rfl)) (pa_cons (pe_bltn (v := .ty "int") (u := .type "int") (by rfl) mi (by decide +kernel) rfl) pa_nil)))))
          (pw_or (pt_val (pe_callB call_isi (by rfl) ms PyProof.Rows.boot_isinstance (pa_cons (pe_ix ix_tup (pv 0) (pv 2) (fun _ _ => rfl)) (pa_cons (pe_bltn (v := .ty "bool") (u := .type "bool") (by rfl) mb (by decide +kernel) rfl) pa_nil))))
          (pw_or1 (pt_cmpR op_ne (pe_ix ix_tup (pv 0) (pv 2) (fun _ _ => rfl)) (pe_ix ix_tup (pv 1) (pv 2) (fun _ _ => rfl)) (nomark _)))))) (pss_one (ps_ret pe_bl)) pss_nil)))
      (pss_one (ps_ret pe_bl))), ?_⟩
    refine ⟨_, rfl, _, _, _, _, _, rfl, .ty "tuple", tyTup ha, kit_ty kTT, _, rfl, iteF ?_⟩
    refine ⟨_, rfl, a, _, rfl, .inr ha, _, rfl, d, _, rfl, .inr hd, rfl, _, rfl, iteNS rfl ?_⟩
    refine ⟨_, rfl, d, _, rfl, .inr hd, _, rfl, by rw [eL_length]; omega, by rw [eL_length]; omega, ?_⟩
    rw [eL_length, Int.toNat_natCast]
    refine for_range (lo := 0) (n := xs.length) (fun i σ H' => ∃ v, σ = [some (.ref a), some (.ref d), v] ∧ H' = H) ⟨none, rfl, rfl⟩ (fun i σ H' hi hP => ?_) (fun σ H' hP => ?_)
    · obtain ⟨v, rfl, rfl⟩ := hP
      show gName 2 (V.int (0 + (i : Int))) _ _ _
      rw [Int.zero_add]
      have hat := at_eL (p := xs) (j := i) rfl hi
      refine ⟨_, rfl, _, rfl, a, _, _, _, rfl, rfl, ha, hat, _, _, _, _, _, rfl, .ty "int", .base (.int _), kit_ty kII, _, rfl, iteF ?_⟩
      refine ⟨_, rfl, _, rfl, a, _, _, _, rfl, rfl, ha, hat, _, _, _, _, _, rfl, .ty "bool", .base (.int _), kit_ty kIB, _, rfl, iteF ?_⟩
      refine ⟨_, rfl, _, rfl, a, _, _, _, rfl, rfl, ha, hat, _, rfl, _, rfl, d, _, _, _, rfl, rfl, hd, hat, rfl, _, rfl, iteNS rfl ?_⟩
      exact ⟨_, rfl, rfl⟩
    · obtain ⟨v, rfl, rfl⟩ := hP
      exact k
def spIsTold (K : PySem.W.Frag) : Sp := fun vs H Q _ => ∃ (t wd pl e W Ch : Addr) (xs ys : List F), vs = [.ref t, .ref wd, .ref pl] ∧ SqT K H t [.str "word", .ref e] ∧ SqT K H e [.ref W, .ref Ch] ∧ SqT K H W (eL xs) ∧ SqT K H wd (eL xs) ∧ SqT K H Ch (eL ys) ∧ SqL K H pl (eL ys) ∧ xs.length ≤ 1000 ∧ ys.length ≤ 1000 ∧
  ∀ H', Same H H' → Q (.bl true) H'
theorem scIsTold : FnScope ["_law_told_here", "_law_word", "_law_places"] ["_law_told_here", "_law_word", "_law_places"] (defScope sIsTold) := ⟨rfl, rfl, rfl, by decide +kernel, rfl, by decide +kernel, by decide +kernel⟩
theorem ok_isTold {f fR : Addr} {fd fdR : FuncData} (F0 : Fun K "_law_is_told" "_law_is_told" sIsTold f fd) (DR : Df P w K mg base CX0 1 "_law_is_row" ["_law_actual", "_law_due"] (spIsRow K) fR fdR) (ml : mg "len" = none) (mt : mg "tuple" = none) (ms : mg "isinstance" = none) :
    FnOk P w K mg base CX0 2 f fd ["_law_told_here", "_law_word", "_law_places"] (spIsTold K) := by
  refine F0.ok scIsTold (fun vs H Q E h => ?_) (fun cdv A outer s H vs Q E hr h => ?_)
  · obtain ⟨t, wd, pl, e, W, Ch, xs, ys, rfl, _⟩ := h
    rfl
  · obtain ⟨t, wd, pl, e, W, Ch, xs, ys, rfl, ht, he, hW, hwd, hCh, hpl, lx, ly, k⟩ := h
    refine ⟨_, pss_cons (ps_if (PW.pt (pw_or (pt_cmpR op_ne (pe_ix ix_tup (pv 0) pe_int (fun _ _ => rfl)) pe_str (nomark _))
        (pw_or (pt_not (pt_val (pe_callB call_isi (by rfl) ms PyProof.Rows.boot_isinstance (pa_cons (pe_ix ix_tup (pv 0) pe_int (fun _ _ => rfl)) (pa_cons (pe_bltn (v := .ty "tuple") (u := .type "tuple") (by rfl) mt (by decide +kernel) rfl) pa_nil)))))
        (pw_or1 (pt_cmpR op_ne (pe_callB call_len_seq (by rfl) ml PySem.boot_len (pa_cons (pe_ix ix_tup (pv 0) pe_int (fun _ _ => rfl)) pa_nil)) pe_int (nomark _)))))) (pss_one (ps_ret pe_bl)) pss_nil)
      (pss_one (ps_ret (pe_and (pcall DR hr (pa_cons (pe_ix ix_tup (pe_ix ix_tup (pv 0) pe_int (fun _ _ => rfl)) pe_int (fun _ _ => rfl)) (pa_cons (pv 1) pa_nil)))
        (pe_one (pcall DR hr (pa_cons (pe_ix ix_tup (pe_ix ix_tup (pv 0) pe_int (fun _ _ => rfl)) pe_int (fun _ _ => rfl)) (pa_cons (pe_callTy call_tuple_of (by rfl) mt (by decide +kernel) (pa_cons (pv 2) pa_nil)) pa_nil))))))), ?_⟩
    refine ⟨_, rfl, t, _, _, _, rfl, rfl, ht, rfl, rfl, _, rfl, iteNS rfl ?_⟩
    refine ⟨_, rfl, t, _, _, _, rfl, rfl, ht, rfl, _, _, _, _, _, rfl, .ty "tuple", tyTup he, kit_ty kTT, _, rfl, iteF ?_⟩
    refine ⟨_, rfl, t, _, _, _, rfl, rfl, ht, rfl, e, _, rfl, .inr he, rfl, _, rfl, iteNS rfl ?_⟩
    refine ⟨_, rfl, t, _, _, _, rfl, rfl, ht, rfl, e, _, _, _, rfl, rfl, he, rfl, _, rfl, W, wd, xs, rfl, hW, hwd, lx, _, rfl, iteT ?_⟩
    refine ⟨_, rfl, t, _, _, _, rfl, rfl, ht, rfl, e, _, _, _, rfl, rfl, he, rfl, _, rfl, pl, _, rfl, .inl ⟨hpl, fun l hl => ?_⟩⟩
    have sl := same_upd (o := .tup (eL ys)) hl
    exact ⟨Ch, l, ys, rfl, same_tup sl hCh, SqT.of upd_same, ly, k _ sl⟩

/-! ### some -/
abbrev nL (l : List Nat) : List V := l.map fun k => V.int (k : Nat)
def spSome : Sp := fun vs H Q _ => ∃ (p c : Addr) (m n : Nat), vs = [.ref p, .int m, .int n] ∧ PoolAt H p c ∧ m ≤ n ∧ n ≤ 16 ∧
  ∀ (sel : List Nat) (D : Addr) (H' : Hp), sel.Sublist (List.range n) → sel.length ≤ m → SameB p H H' → PoolAt H' p c → H' D = some (.lst (nL sel)) → Q (.ref D) H'
theorem scSome : FnScope ["_law_pool_here", "_law_many", "_law_from_many", "_law_left", "_law_chosen", "_law_k"] ["_law_pool_here", "_law_many", "_law_from_many"] (defScope sSome) := ⟨rfl, rfl, rfl, by decide +kernel, rfl, by decide +kernel, by decide +kernel⟩
theorem PoolAt.nep {H : Hp} {p c l : Addr} (h : PoolAt H p c) (hl : H l = none) : l ≠ p ∧ l ≠ c := by
  obtain ⟨cells, a, rest, left, small, seed, turn, h1, h2, h3⟩ := h
  exact ⟨(ne_of_none h1 hl).symm, (ne_of_none h2 hl).symm⟩
theorem PoolAt.upd {H : Hp} {p c l : Addr} {o : HO} (h : PoolAt H p c) (h1 : l ≠ p) (h2 : l ≠ c) : PoolAt (upd H l o) p c := by
  obtain ⟨cells, a, rest, left, small, seed, turn, e1, e2, e3⟩ := h
  exact ⟨cells, a, rest, left, small, seed, turn, by rw [upd_ne h1.symm]; exact e1, by rw [upd_ne h2.symm]; exact e2, e3⟩
theorem sameB_mut {p : Addr} {H H' : Hp} {D : Addr} {o : HO} (e : SameB p H H') (hD : H D = none) : SameB p H (upd H' D o) := fun b x hb h => by
  rw [upd_ne (ne_of_none h hD)]
  exact e b x hb h
theorem SameB.free {p : Addr} {H H' : Hp} {D : Addr} (e : SameB p H H') (hp : D ≠ p) (h : H' D = none) : H D = none := by
  cases q : H D with
  | none => rfl
  | some o =>
    rw [e D o hp q] at h
    cases h
theorem inV_int {k : Int} {cs : List Int} (h : inV (.int k) (cs.map V.int) = true) : k ∈ cs := by
  unfold inV at h
  rw [List.any_eq_true] at h
  obtain ⟨y, hy, e⟩ := h
  obtain ⟨z, hz, rfl⟩ := List.mem_map.mp hy
  have : z = k := by
    have e' : (z == k) = true := e
    exact eq_of_beq e'
  rw [← this]
  exact hz
theorem flat_ints (cs : List Int) : (cs.map V.int).all flatV = true := by
  rw [List.all_eq_true]
  intro y hy
  obtain ⟨z, _, rfl⟩ := List.mem_map.mp hy
  rfl
theorem nodup_len : ∀ {l m : List Int}, l.Nodup → (∀ x ∈ l, x ∈ m) → l.length ≤ m.length
  | [], _, _, _ => Nat.zero_le _
  | a :: t, m, hn, h => by
    rw [List.nodup_cons] at hn
    have ha := h a List.mem_cons_self
    have ih := nodup_len (l := t) (m := m.erase a) hn.2 fun x hx => (List.mem_erase_of_ne (fun e => hn.1 (by rw [← e]; exact hx))).mpr (h x (List.mem_cons_of_mem _ hx))
    rw [List.length_erase_of_mem ha] at ih
    have := List.length_pos_of_mem ha
    show t.length + 1 ≤ m.length
    omega
theorem erase_map : ∀ (L : List Int) (i : Nat), (L.map V.int).eraseIdx i = (L.eraseIdx i).map V.int
  | [], _ => rfl
  | _ :: _, 0 => rfl
  | a :: L, i + 1 => by
    show V.int a :: (L.map V.int).eraseIdx i = V.int a :: (L.eraseIdx i).map V.int
    rw [erase_map L i]
theorem range_filter_len (f : Nat → Bool) (cs : List Int) (n : Nat) (h : ∀ k, k < n → f k = true → (k : Int) ∈ cs) : ((List.range n).filter f).length ≤ cs.length := by
  have hn : (((List.range n).filter f).map fun k : Nat => (k : Int)).Nodup := by
    refine List.Pairwise.map _ (fun a b hab e => hab (Int.ofNat.inj e)) ((List.nodup_range (n := n)).sublist List.filter_sublist)
  have := nodup_len hn fun x hx => by
    obtain ⟨k, hk, rfl⟩ := List.mem_map.mp hx
    obtain ⟨h1, h2⟩ := List.mem_filter.mp hk
    exact h k (List.mem_range.mp h1) h2
  rw [List.length_map] at this
  exact this
theorem ok_some {f fT : Addr} {fd fdT : FuncData} (F0 : Fun K "_law_some" "_law_some" sSome f fd) (DT : Df P w K mg base CX0 2 "_law_take" ["_law_pool_here", "_law_many"] spTake fT fdT) (ml : mg "len" = none) (mli : mg "list" = none) (mr : mg "range" = none) :
    FnOk P w K mg base CX0 3 f fd ["_law_pool_here", "_law_many", "_law_from_many"] spSome := by
  refine F0.ok scSome (fun vs H Q E h => ?_) (fun cdv A outer s H vs Q E hr h => ?_)
  · obtain ⟨p, c, m, n, rfl, _⟩ := h
    rfl
  · obtain ⟨p, c, m, n, rfl, hp, hmn, hn, kq⟩ := h
    have nd := scSome.nd
    refine ⟨_, pss_cons (ps_set (i := 3) nd rfl (.inl rfl) (pe_listRg rfl (by rfl) mli (prg_1 (by rfl) mr (pv 2))))
      (pss_cons (ps_set (i := 4) nd rfl (.inr rfl) (pe_lst pa_nil))
      (pss_cons (ps_for PassesOwn.never rfl (pi_range1 rfl mr (pa_cons (pv 1) pa_nil)) (pg_name (i := 5) nd rfl (.inl rfl))
        (pss_one (ps_expr (pe_bm PySem.F.plainAttrs_list PySem.F.slot_list_append PySem.F.type_list_append mt_append (pv 4)
          (pa_cons (pe_bm PySem.F.plainAttrs_list PySem.F.slot_list_pop PySem.F.type_list_pop mt_popAt (pv 3) (pa_cons (pcall DT hr (pa_cons (pv 0) (pa_cons (pe_callB call_len_seq (by rfl) ml PySem.boot_len (pa_cons (pv 3) pa_nil)) pa_nil))) pa_nil)) pa_nil)))))
      (pss_one (ps_ret (pe_lc (own := [("_law_k", 5)]) (g := gName 5) (tt := tTest (tOp (rIn K false) (tVar 5) (tVar 4))) rfl nd (pi_range1 rfl mr (pa_cons (pv 2) pa_nil))
        (blkOk_by (N := ["_law_pool_here", "_law_many", "_law_from_many", "_law_left", "_law_chosen", "_law_k"]) (sc := defScope sSome) (by decide +kernel)) (fun _ _ _ _ _ => pg_name (i := 5) nd rfl (Or.inl rfl))
        (fun _ _ _ _ _ => pts_one (pt_cmpR op_in_seq (pv 5) (pv 4) (by rfl))) (fun _ _ _ _ _ => pv 5)))))), ?_⟩
    refine ⟨_, rfl, _, rfl, RgOk.of_le (by omega) (by omega) (by omega) (by omega), fun l hl => ?_⟩
    obtain ⟨hlp, hlc⟩ := hp.nep hl
    have sl := same_upd (o := .lst (rgV 0 (n : Int))) hl
    refine ⟨Nat.zero_le _, fun d hd => ?_⟩
    have s2 := sl.trans (same_upd (o := .lst []) hd)
    have hd0 : H d = none := sl.free hd
    obtain ⟨hdp, hdc⟩ := hp.nep hd0
    have hld : l ≠ d := ne_of_none upd_same hd
    have erg : rgV 0 (n : Int) = ((List.range n).map fun i : Nat => (0 : Int) + i).map V.int := by
      unfold rgV
      rw [List.map_map, show ((n : Int) - 0).toNat = n by omega]
      rfl
    refine ⟨_, rfl, _, rfl, by omega, by omega, ?_⟩
    rw [Int.toNat_natCast]
    refine for_range (lo := 0) (n := m) (fun i σ H' => ∃ (L Cs : List Int) (v : Option V), σ = [some (.ref p), some (.int m), some (.int n), some (.ref l), some (.ref d), v] ∧ SameB p H H' ∧ PoolAt H' p c ∧ H' l = some (.lst (L.map V.int)) ∧ H' d = some (.lst (Cs.map V.int)) ∧ L.length + i = n ∧ Cs.length = i)
      ⟨_, [], none, rfl, same_toB s2, hp.same s2, by rw [← erg]; exact same_upd hd _ _ upd_same, upd_same, by rw [List.length_map, List.length_range]; rfl, rfl⟩ (fun i σ H' hi hP => ?_) (fun σ H' hP => ?_)
    · obtain ⟨L, Cs, v, rfl, sm, hq, hL, hC, el, ec⟩ := hP
      show gName 5 (V.int (0 + (i : Int))) _ _ _
      refine ⟨_, rfl, .inl ⟨rfl, _, SqL.of hC⟩, _, rfl, .inl ⟨rfl, _, SqL.of hL⟩, _, rfl, _, rfl, l, _, rfl, .inl (SqL.of hL), p, c, _, rfl, hq, by rw [List.length_map]; omega, by rw [List.length_map]; omega, fun v2 H2 v0 v1 sm2 hq2 => ?_⟩
      rw [List.length_map] at v1
      have hL2 := sm2.lst hq hL
      have hC2 := sm2.lst hq hC
      have hlt : v2.toNat < L.length := by omega
      refine ⟨l, _, v2, v2.toNat, .int L[v2.toNat], rfl, rfl, hL2, by omega, by omega, by rw [List.length_map]; exact PyProof.Rows.seqIndex_at v0 v1, by rw [List.getElem?_map, List.getElem?_eq_getElem hlt]; rfl, ?_⟩
      have hC3 : (upd H2 l (.lst ((L.map V.int).eraseIdx v2.toNat))) d = some (.lst (Cs.map V.int)) := by rw [upd_ne hld.symm]; exact hC2
      refine ⟨d, _, _, rfl, rfl, hC3, by rw [List.length_map]; exact small1000 (by omega), ?_⟩
      refine ⟨L.eraseIdx v2.toNat, Cs ++ [L[v2.toNat]], _, rfl, sameB_mut (sameB_mut (sm.trans sm2) hl) hd0, (hq2.upd hlp hlc).upd hdp hdc, ?_, ?_, ?_, by rw [List.length_append, ec]; rfl⟩
      · rw [upd_ne hld, upd_same, erase_map]
      · rw [upd_same, List.map_append]
        rfl
      · rw [List.length_eraseIdx, if_pos hlt]
        omega
    · obtain ⟨L, Cs, v, rfl, sm, hq, hL, hC, el, ec⟩ := hP
      refine ⟨_, rfl, _, rfl, by omega, by omega, fun D hD => ?_⟩
      have hdD : d ≠ D := ne_of_none hC hD
      obtain ⟨hDp, hDc⟩ := hq.nep hD
      rw [Int.toNat_natCast]
      refine lc_range (lo := 0) (n := n) (fun i H1 => SameB p H H1 ∧ PoolAt H1 p c ∧ H1 d = some (.lst (Cs.map V.int)) ∧ H1 D = some (.lst (nL ((List.range i).filter fun k : Nat => inV (.int k) (Cs.map V.int)))))
        ⟨sm.trans (same_toB (same_upd hD)), hq.same (same_upd hD), same_upd hD _ _ hC, upd_same⟩ (fun i H1 hi hP => ?_) (fun H1 hP => ?_)
      · obtain ⟨sm1, hq1, hC1, hD1⟩ := hP
        refine ⟨rfl, ?_⟩
        show tTest (tOp (rIn K false) (tVar 5) (tVar 4)) [some (.ref p), some (.int m), some (.int n), some (.ref l), some (.ref d), some (.int (0 + (i : Int)))] _ _
        rw [Int.zero_add]
        refine ⟨_, rfl, _, rfl, d, _, rfl, .inl (SqL.of hC1), rfl, flat_ints Cs, _, rfl, ?_⟩
        show if inV (V.int (i : Int)) (Cs.map V.int) = true then _ else _
        rw [List.range_succ, List.filter_append]
        cases hb : inV (V.int (i : Int)) (Cs.map V.int) with
        | true =>
          refine iteT ⟨_, rfl, _, hD1, ?_, sameB_mut sm1 (sm.free hDp hD), hq1.upd hDp hDc, ?_, ?_⟩
          · rw [List.length_map]
            refine small1000 (Nat.le_trans (List.length_filter_le _ _) ?_)
            rw [List.length_range]
            omega
          · rw [upd_ne hdD]
            exact hC1
          · rw [upd_same]
            show some (HO.lst _) = some (HO.lst (nL (_ ++ _)))
            rw [show nL (_ ++ _) = _ from List.map_append, List.filter_cons, hb]
            rfl
        | false =>
          refine iteF ⟨sm1, hq1, hC1, ?_⟩
          rw [List.filter_cons, hb, if_neg Bool.false_ne_true, List.filter_nil, List.append_nil]
          exact hD1
      · obtain ⟨sm1, hq1, hC1, hD1⟩ := hP
        refine kq _ D H1 List.filter_sublist ?_ sm1 hq1 hD1
        rw [← ec]
        exact range_filter_len _ Cs n fun k _ e => inV_int e
end
end Mv
/-! The law's own helpers: the pool, the field's tables. -/
namespace Mv
open PySem PySem.Spec PyProof.Rows L2 MV
section
variable {P : Program} {w : World} {K : PySem.W.Frag} {mg : Str → Option Value} {base : Heap}

/-! ### pool -/
def spPool (K : PySem.W.Frag) : Sp := fun vs H Q _ => ∃ (a : Addr) (ns : List Int), vs = [.ref a] ∧ SqL K H a (ns.map V.int) ∧ ns.length ≤ 63 ∧ ∀ (p c : Addr) (H' : Hp), Same H H' → PoolAt H' p c → Q (.ref p) H'
theorem scPool : FnScope ["_law_script", "_law_seed", "_law_cell", "_law_cells"] ["_law_script"] (defScope sPool) := ⟨rfl, rfl, rfl, by decide +kernel, rfl, by decide +kernel, by decide +kernel⟩
theorem ints_some {ns : List Int} {i : Nat} {x : V} (h : (ns.map V.int)[i]? = some x) : ∃ z, ns[i]? = some z ∧ x = .int z := by
  rw [List.getElem?_map] at h
  cases e : ns[i]? with
  | none => rw [e] at h; cases h
  | some a => rw [e] at h; cases h; exact ⟨a, rfl, rfl⟩
theorem ok_pool {f : Addr} {fd : FuncData} (F0 : Fun K "_law_pool" "_law_pool" sPool f fd) (ml : mg "len" = none) (mi : mg "int" = none) (mli : mg "list" = none) : FnOk P w K mg base CX0 1 f fd ["_law_script"] (spPool K) := by
  refine F0.ok scPool (fun vs H Q E h => ?_) (fun cdv A outer s H vs Q E hr h => ?_)
  · obtain ⟨a, ns, rfl, _⟩ := h
    rfl
  · obtain ⟨a, ns, rfl, hS, ln, k⟩ := h
    have nd := scPool.nd
    -- the last statements
    have tail : ∃ tR, PSs (cxOf CX0 P w K mg base ["_law_script", "_law_seed", "_law_cell", "_law_cells"] "_law_pool" (defScope sPool) f cdv A outer s H E).nox ((defBody sPool).drop 4) tR ∧
        ∀ (H2 : Hp) (c : Addr) (cells : List Int) (seed : Int) (v : Option V), H c = none → H2 c = some (.lst (cells.map V.int)) → cells.length ≤ 63 → Same H H2 →
          tR { nx := fun _ H' => Q .non H', rt := Q } [some (.ref a), some (.int seed), v, some (.ref c)] H2 := by
      refine ⟨_, pss_cons (ps_if (pt_cmpR op_gt (pe_callB call_len_seq (by rfl) ml PySem.boot_len (pa_cons (pv 3) pa_nil)) pe_int (nomark _)) (pss_one (ps_asg (pe_op op_fdiv (pe_ix ix_list (pv 3) pe_int (fun _ _ => rfl)) pe_int) (pg_sub (pv 3) pe_int set_list))) pss_nil)
        (pss_one (ps_ret (pe_disp (pps_cons pe_str (pv 3) (pps_cons pe_str pe_int (pps_cons pe_str pe_int (pps_cons pe_str pe_int (pps_cons pe_str pe_bl (pps_cons pe_str (pv 1) (pps_cons pe_str pe_int pps_nil))))))) (by rfl) (by rfl) (fun z => by cases z) (by decide)))), fun H2 c cells seed v hc0 hc lc sm => ?_⟩
      have fin : ∀ (H3 : Hp) (cells : List Int), H3 c = some (.lst (cells.map V.int)) → cells.length ≤ 63 → Same H H3 → ∀ p, H3 p = none → Q (.ref p) (upd (upd H3 p (.dK [])) p (.dK (poolL c 0 0 0 true seed 0))) := fun H3 cells hc lc sm p hp => by
        refine k p c _ ?_ ⟨cells, 0, 0, 0, true, seed, 0, upd_same, ?_, by omega⟩
        · rw [upd_upd]
          exact sm.trans (same_upd hp)
        · rw [upd_upd, upd_ne (ne_of_none hc hp)]
          exact hc
      refine ⟨_, rfl, c, _, rfl, .inl (SqL.of hc), _, _, rfl, rfl, _, rfl, dec_case (fun h0 => ?_) (fun h0 => ?_)⟩
      · rw [List.length_map] at h0
        have hl : 0 < cells.length := by omega
        have hat : atI (cells.map V.int) 0 = some (.int cells[0]) := atI_nat (j := 0) (by rw [List.getElem?_map, List.getElem?_eq_getElem hl]; rfl)
        refine ⟨_, rfl, c, _, _, _, rfl, rfl, SqL.of hc, hat, _, _, rfl, rfl, ⟨by decide, by decide⟩, _, rfl, c, _, _, 0, rfl, rfl, hc, ixN_at (j := 0) rfl (by rw [List.length_map]; exact hl), ?_⟩
        refine fun p hp => ⟨_, rfl, _, rfl, upd_same, [(.inr "cells", .ref c), (.inr "at", .int 0), (.inr "rest", .int 0), (.inr "left", .int 0), (.inr "small", .bl true), (.inr "seed", .int seed), (.inr "turn", .int 0)], rfl, (by show 7 ≤ 15; decide), ?_⟩
        exact fin _ (cells.set 0 (cells[0] / 2)) (by rw [upd_same, List.map_set]) (by rw [List.length_set]; exact lc) (same_mut sm hc0) p hp
      · exact fun p hp => ⟨_, rfl, _, rfl, upd_same, [(.inr "cells", .ref c), (.inr "at", .int 0), (.inr "rest", .int 0), (.inr "left", .int 0), (.inr "small", .bl true), (.inr "seed", .int seed), (.inr "turn", .int 0)], rfl, (by show 7 ≤ 15; decide), fin _ cells hc lc sm p hp⟩
    obtain ⟨tR, hR, key⟩ := tail
    refine ⟨_, pss_cons (ps_set (i := 1) nd rfl (.inl rfl) pe_int)
      (pss_cons (ps_for PassesOwn.never rfl (pi_list (pv 0)) (pg_name (i := 2) nd rfl (.inl rfl)) (pss_one (ps_set (i := 1) nd rfl (.inl rfl) (pe_op op_mod (pe_callTy call_int1 (by rfl) mi (by decide +kernel) (pa_cons (pe_op op_add (pe_op op_mul (pv 1) pe_int) (pv 2)) pa_nil)) pe_int))))
      (pss_cons (ps_set (i := 3) nd rfl (.inl rfl) (pe_callTy call_list_of (by rfl) mli (by decide +kernel) (pa_cons (pv 0) pa_nil)))
      (pss_cons (ps_if (PW.pt (pw_and (pt_cmpR op_gt (pe_callB call_len_seq (by rfl) ml PySem.boot_len (pa_cons (pv 3) pa_nil)) pe_int (nomark _))
          (pw_and1 (pt_cmpR op_eq (pe_op op_mod (pe_callTy call_int1 (by rfl) mi (by decide +kernel) (pa_cons (pe_ix ix_list (pv 3) pe_int (fun _ _ => rfl)) pa_nil)) pe_int) pe_int (nomark _))))) (pss_one (ps_set (i := 3) nd rfl (.inl rfl) (pe_lst pa_nil))) pss_nil)
      hR))), ?_⟩
    refine ⟨_, rfl, a, rfl, ⟨_, hS⟩, for_list (xs := ns.map V.int) (fun i σ H' => ∃ (seed : Int) (v : Option V), σ = [some (.ref a), some (.int seed), v, none] ∧ H' = H) ⟨7, none, rfl, rfl⟩ (fun i σ H' _ hP => ?_) (fun i y σ H' hy hP => ?_) (fun σ H' hP => ?_)⟩
    · obtain ⟨_, _, _, rfl⟩ := hP
      exact hS
    · obtain ⟨seed, v, rfl, rfl⟩ := hP
      obtain ⟨z, hz, rfl⟩ := ints_some hy
      exact ⟨_, rfl, _, _, rfl, rfl, .inr ⟨by decide, by decide⟩, _, rfl, _, _, rfl, rfl, .inl ⟨_, rfl, _, _, rfl, rfl, (by show (0 : Int) < 2305843009213693951; decide), _, _, rfl, rfl⟩⟩
    · obtain ⟨seed, v, rfl, rfl⟩ := hP
      refine ⟨_, rfl, a, _, rfl, .inl hS, fun c hc => ?_⟩
      have s1 := same_upd (o := .lst (ns.map V.int)) hc
      have hcc : (upd H' c (.lst (ns.map V.int))) c = some (.lst (ns.map V.int)) := upd_same
      refine ⟨_, rfl, c, _, rfl, .inl (SqL.of upd_same), _, _, rfl, rfl, _, rfl, dec_case (fun h0 => ?_) (fun h0 => ?_)⟩
      · rw [List.length_map] at h0
        have hl : 0 < ns.length := by omega
        have hat : atI (ns.map V.int) 0 = some (.int ns[0]) := atI_nat (j := 0) (by rw [List.getElem?_map, List.getElem?_eq_getElem hl]; rfl)
        refine ⟨_, rfl, c, _, _, _, rfl, rfl, SqL.of upd_same, hat, .inl ⟨_, rfl, _, _, rfl, rfl, (by show (0 : Int) < 2; decide), rfl, _, rfl, dec_case (fun _ => ?_) (fun _ => ?_)⟩⟩
        · refine ⟨Nat.zero_le _, fun c2 hc2 => ?_⟩
          exact key _ c2 [] seed v (s1.free hc2) upd_same (Nat.zero_le _) (s1.trans (same_upd hc2))
        · exact key _ c ns seed v hc hcc ln s1
      · exact key _ c ns seed v hc hcc ln s1
end
end Mv
/-! The law's own helpers: the field's tables. -/
namespace Mv
open PySem PySem.Spec PyProof.Rows L2 MV
abbrev pwL (n : Nat) : List F := (List.range n).map two.pw
abbrev lgL (lgf : F → Int) : List V := (List.range 128).map fun i => V.int (lgf (fN i))
/-- the tables at f -/
def FieldAt (H : Hp) (f : Addr) : Prop := ∃ (pw lg : Addr) (lgf : F → Int), H f = some (.dK [(.inr "power", .ref pw), (.inr "log", .ref lg)]) ∧ H pw = some (.lst (eL (pwL 127))) ∧ H lg = some (.lst (lgL lgf)) ∧ ∀ a : F, a ≠ 0 → gz (lgf a) = a
theorem FieldAt.sameB {H H' : Hp} {p c f : Addr} (e : SameB p H H') (hp : PoolAt H p c) (hf : f ≠ p) (h : FieldAt H f) : FieldAt H' f := by
  obtain ⟨pw, lg, lgf, h1, h2, h3, h4⟩ := h
  exact ⟨pw, lg, lgf, e _ _ hf h1, e.lst hp h2, e.lst hp h3, h4⟩
theorem FieldAt.same {H H' : Hp} {f : Addr} (e : Same H H') (h : FieldAt H f) : FieldAt H' f := by
  obtain ⟨pw, lg, lgf, h1, h2, h3, h4⟩ := h
  exact ⟨pw, lg, lgf, e _ _ h1, e _ _ h2, e _ _ h3, h4⟩
theorem pwL_at {n i : Nat} (h : i < n) : co (pwL n) i = two.pw i := by
  have hl : i < (pwL n).length := by
    rw [List.length_map, List.length_range]
    exact h
  rw [co_lt hl, List.getElem_map, List.getElem_range]
theorem pwL_len (n : Nat) : (pwL n).length = n := by rw [List.length_map, List.length_range]
theorem pwL_succ (n : Nat) : pwL (n + 1) = pwL n ++ [two.pw n] := by
  show (List.range (n + 1)).map two.pw = _
  rw [List.range_succ, List.map_append]
  rfl
theorem lgL_len (lgf : F → Int) : (lgL lgf).length = 128 := by rw [List.length_map, List.length_range]
theorem fN_F (a : F) : fN a.v = a := F.ext' (fN_v a.lt)
theorem lgL_at (lgf : F → Int) (a : F) : atI (lgL lgf) (eI a) = some (.int (lgf a)) := by
  refine atI_nat (j := a.v) ?_
  rw [List.getElem?_map, List.getElem?_range a.lt]
  show some (V.int (lgf (fN a.v))) = _
  rw [fN_F]
theorem lgL_set (lgf : F → Int) (a : F) (k : Int) : (lgL lgf).set a.v (.int k) = lgL fun b => if b = a then k else lgf b := by
  apply List.ext_getElem
  · rw [List.length_set, lgL_len, lgL_len]
  · intro i h1 h2
    rw [lgL_len] at h2
    rw [List.getElem_set, List.getElem_map, List.getElem_map, List.getElem_range]
    by_cases e : a.v = i
    · subst e
      rw [if_pos rfl]
      show _ = V.int (if fN a.v = a then k else lgf (fN a.v))
      rw [if_pos (fN_F a)]
    · rw [if_neg e]
      show _ = V.int (if fN i = a then k else lgf (fN i))
      rw [if_neg]
      intro z
      apply e
      rw [← z]
      exact fN_v h2
section
variable {P : Program} {w : World} {K : PySem.W.Frag} {mg : Str → Option Value} {base : Heap}
def spField : Sp := fun vs H Q _ => vs = [] ∧ ∀ (f : Addr) (H' : Hp), Same H H' → H f = none → FieldAt H' f → Q (.ref f) H'
theorem scField : FnScope ["_law_power", "_law_k", "_law_doubled", "_law_log"] [] (defScope sField) := ⟨rfl, rfl, rfl, by decide +kernel, rfl, by decide +kernel, by decide +kernel⟩
theorem dbl_int (a : F) : (127 < eI a * 2 → Builtin.bitXor (eI a * 2) 131 = eI a.dbl) ∧ (¬ 127 < eI a * 2 → eI a * 2 = eI a.dbl) := by
  have hdl : eI a * 2 = ((a.v * 2 : Nat) : Int) := by show (a.v : Int) * 2 = _; omega
  rw [hdl]
  refine ⟨fun h => ?_, fun h => ?_⟩
  · rw [Bits.bitXor_pp (by omega) (by decide)]
    show (((a.v * 2) ^^^ 131 : Nat) : Int) = ((if 127 < a.v * 2 then (a.v * 2) ^^^ 131 else a.v * 2 : Nat) : Int)
    rw [if_pos (by omega)]
  · show _ = ((if 127 < a.v * 2 then (a.v * 2) ^^^ 131 else a.v * 2 : Nat) : Int)
    rw [if_neg (by omega)]
theorem ok_field {f : Addr} {fd : FuncData} (F0 : Fun K "_law_field" "_law_field" sField f fd) (mr : mg "range" = none) : FnOk P w K mg base CX0 1 f fd [] spField := by
  refine F0.ok scField (fun vs H Q E h => ?_) (fun cdv A outer s H vs Q E hr h => ?_)
  · obtain ⟨rfl, _⟩ := h
    rfl
  · obtain ⟨rfl, kq⟩ := h
    have nd := scField.nd
    refine ⟨_, pss_cons (ps_set (i := 0) nd rfl (.inl rfl) (pe_lst (pa_cons pe_int pa_nil)))
      (pss_cons (ps_for PassesOwn.never rfl (pi_range1 rfl mr (pa_cons pe_int pa_nil)) (pg_name (i := 1) nd rfl (.inl rfl))
        (pss_cons (ps_set (i := 2) nd rfl (.inl rfl) (pe_op op_mul (pe_ix ix_list (pv 0) (pe_un un_neg pe_int) (fun _ _ => rfl)) pe_int))
        (pss_cons (ps_if (pt_cmpR op_gt (pv 2) pe_int (nomark _)) (pss_one (ps_set (i := 2) nd rfl (.inl rfl) (pe_op op_xor (pv 2) pe_int))) pss_nil)
        (pss_one (ps_expr (pe_bm PySem.F.plainAttrs_list PySem.F.slot_list_append PySem.F.type_list_append mt_append (pv 0) (pa_cons (pv 2) pa_nil)))))))
      (pss_cons (ps_setLc (i := 3) (own := [("_law_k", 1)]) (g := gName 1) (tt := tYes) rfl nd rfl rfl (sw_true rfl rfl rfl (by decide +kernel)) (pi_range1 rfl mr (pa_cons pe_int pa_nil))
        (blkOk_by (N := ["_law_power", "_law_k", "_law_doubled", "_law_log"]) (sc := defScope sField) (by decide +kernel)) (fun _ _ _ _ _ => pg_name (i := 1) nd rfl (Or.inl rfl)) (fun _ _ _ _ _ => pts_nil) (fun _ _ _ _ _ => pe_int))
      (pss_cons (ps_for PassesOwn.never rfl (pi_range1 rfl mr (pa_cons pe_int pa_nil)) (pg_name (i := 1) nd rfl (.inl rfl))
        (pss_one (ps_asg (pv 1) (pg_sub (pv 3) (pe_ix ix_list (pv 0) (pv 1) (fun _ _ => rfl)) set_list))))
      (pss_one (ps_ret (pe_disp (pps_cons pe_str (pv 0) (pps_cons pe_str (pv 3) pps_nil)) (by rfl) (by rfl) (fun z => by cases z) (by decide))))))), ?_⟩
    refine ⟨by show 1 ≤ sizeLine; decide, fun A0 hA => ?_⟩
    have s1 := same_upd (o := .lst [.int 1]) hA
    refine ⟨_, rfl, by decide, by decide, ?_⟩
    refine for_range (lo := 0) (n := 126) (fun i σ H' => ∃ v1 v2, σ = [some (.ref A0), v1, v2, none] ∧ Same H H' ∧ H' A0 = some (.lst (eL (pwL (i + 1))))) ⟨none, none, rfl, s1, upd_same⟩ (fun i σ H' hi hP => ?_) (fun σ H' hP => ?_)
    · obtain ⟨v1, v2, rfl, sm, hL⟩ := hP
      have hlen := pwL_len (i + 1)
      have hlast := at_last (p := pwL (i + 1)) (fun z => by rw [z] at hlen; exact absurd hlen (by simp))
      rw [hlen, show i + 1 - 1 = i from rfl, pwL_at (by omega)] at hlast
      have fin : ∀ v, v = eI (two.pw i).dbl → ∃ (D : Addr) (acc : List V) (x : V), V.ref A0 = V.ref D ∧ ([V.int v] : List V) = [x] ∧ H' D = some (.lst acc) ∧ acc.length < sizeLine ∧ (∃ v1 v2, ([some (.ref A0), some (.int (0 + (i : Int))), some (.int v), none] : L2.St) = [some (.ref A0), v1, v2, none] ∧ Same H (upd H' D (.lst (acc ++ [x]))) ∧ (upd H' D (.lst (acc ++ [x]))) A0 = some (.lst (eL (pwL (i + 1 + 1))))) := fun v hv => by
        refine ⟨A0, _, _, rfl, rfl, hL, by rw [eL_length, hlen]; exact small1000 (by omega), _, _, rfl, same_mut sm hA, ?_⟩
        rw [upd_same, pwL_succ (i + 1), hv]
        show _ = some (HO.lst (eL (_ ++ [two.pw i * two])))
        rw [two_mul, show eL (_ ++ _) = _ from List.map_append]
        rfl
      obtain ⟨db1, db2⟩ := dbl_int (two.pw i)
      refine ⟨_, rfl, 1, rfl, A0, _, _, _, rfl, rfl, SqL.of hL, hlast, _, _, rfl, rfl, .inr ⟨by decide, by decide⟩, ?_⟩
      refine ⟨_, rfl, _, _, rfl, rfl, _, rfl, dec_case (fun h => ?_) (fun h => ?_)⟩
      · exact ⟨_, rfl, _, _, rfl, rfl, _, rfl, .inl ⟨rfl, _, SqL.of hL⟩, _, rfl, fin _ (db1 h)⟩
      · exact ⟨_, rfl, .inl ⟨rfl, _, SqL.of hL⟩, _, rfl, fin _ (db2 h)⟩
    · obtain ⟨v1, v2, rfl, sm, hL⟩ := hP
      refine ⟨_, rfl, by decide, by decide, fun D hD => ?_⟩
      refine lc_range (lo := 0) (n := 128) (fun i H1 => Same H H1 ∧ H1 A0 = some (.lst (eL (pwL 127))) ∧ H1 D = some (.lst (List.replicate i (.int 0)))) ⟨sm.trans (same_upd hD), same_upd hD _ _ hL, upd_same⟩ (fun i H1 hi hP => ?_) (fun H1 hP => ?_)
      · obtain ⟨sm1, hL1, hD1⟩ := hP
        refine ⟨rfl, ?_⟩
        refine ⟨_, hD1, by rw [List.length_replicate]; exact small1000 (by omega), same_mut sm1 (sm.free hD), by rw [upd_ne (ne_of_none hL hD)]; exact hL1, ?_⟩
        rw [upd_same, List.replicate_succ']
      · obtain ⟨sm1, hL1, hD1⟩ := hP
        have e0 : (List.replicate 128 (V.int 0) : List V) = lgL fun _ => 0 := by decide
        rw [e0] at hD1
        refine ⟨_, rfl, by decide, by decide, ?_⟩
        refine for_range (lo := 0) (n := 127) (fun i σ H' => ∃ v1 v2 lgf, σ = [some (.ref A0), v1, v2, some (.ref D)] ∧ Same H H' ∧ H' A0 = some (.lst (eL (pwL 127))) ∧ H' D = some (.lst (lgL lgf)) ∧ ∀ a : F, (∃ k, k < i ∧ two.pw k = a) → gz (lgf a) = a)
          ⟨v1, v2, _, rfl, sm1, hL1, hD1, fun a h => by obtain ⟨k, hk, _⟩ := h; omega⟩ (fun i σ H2 hi hP => ?_) (fun σ H2 hP => ?_)
        · obtain ⟨v1, v2, lgf, rfl, sm2, hL2, hD2, hg⟩ := hP
          have hat := at_eL (p := pwL 127) (j := i) rfl (by rw [pwL_len]; exact hi)
          rw [pwL_at hi] at hat
          show gName 1 (V.int (0 + (i : Int))) _ _ _
          rw [Int.zero_add]
          refine ⟨_, rfl, _, rfl, _, rfl, _, rfl, A0, _, _, _, rfl, rfl, SqL.of hL2, hat, D, _, _, (two.pw i).v, rfl, rfl, hD2, ixN_at rfl (by rw [lgL_len]; exact (two.pw i).lt), ?_⟩
          refine ⟨_, v2, _, rfl, same_mut sm2 (sm.free hD), by rw [upd_ne (ne_of_none hL hD)]; exact hL2, by rw [upd_same, lgL_set], fun a h => ?_⟩
          obtain ⟨k, hk, e⟩ := h
          show gz (if a = two.pw i then (i : Int) else lgf a) = a
          by_cases z : a = two.pw i
          · rw [if_pos z, gz_nat, z]
          · rw [if_neg z]
            refine hg a ⟨k, ?_, e⟩
            have : k ≠ i := fun q => z (by rw [← e, q])
            omega
        · obtain ⟨v1, v2, lgf, rfl, sm2, hL2, hD2, hg⟩ := hP
          refine fun f hf => ⟨_, rfl, _, rfl, upd_same, [(.inr "power", .ref A0), (.inr "log", .ref D)], rfl, by show 2 ≤ 15; decide, ?_⟩
          rw [upd_upd]
          exact kq f _ (sm2.trans (same_upd hf)) (sm2.free hf) ⟨A0, D, lgf, upd_same, same_upd hf _ _ hL2, same_upd hf _ _ hD2, fun a h => hg a (lg_ex h)⟩
end
end Mv
/-! The law's own word. -/
namespace Mv
open PySem PySem.Spec PyProof.Rows L2 MV
theorem lagr_snoc (lg : F → Int) (s : List F) (q : F × F) (x : F) : ∀ t : List (F × F), lagr lg s (t ++ [q]) x = lagr lg s t x + part lg s q x
  | [] => rfl
  | a :: t => by
    show lagr lg s (t ++ [q]) x + part lg s a x = lagr lg s t x + part lg s a x + part lg s q x
    rw [lagr_snoc lg s q x t]
    ac_rfl
/-- the logs that a sum goes over -/
abbrev lgs (lgf : F → Int) (x : F) (s : List F) : List Int := s.map fun b => lgf (x + b)
theorem but_snoc (s : List F) (a b : F) : but (s ++ [b]) a = but s a ++ (if b = a then [] else [b]) := by
  unfold but
  rw [List.filter_append]
  congr 1
  by_cases h : b = a
  · simp [h]
  · simp [h]
/-- the values at x -/
def atX (x : F) (pts : List (F × F)) : List F := (pts.filter fun q => decide (q.1 = x)).map (·.2)
theorem atX_snoc (x : F) (s : List (F × F)) (q : F × F) : atX x (s ++ [q]) = atX x s ++ (if q.1 = x then [q.2] else []) := by
  unfold atX
  rw [List.filter_append, List.map_append]
  congr 1
  by_cases h : q.1 = x
  · simp [h]
  · simp [h]
theorem atX_mem {x y : F} {pts : List (F × F)} (h : y ∈ atX x pts) : (x, y) ∈ pts := by
  unfold atX at h
  obtain ⟨q, hq, rfl⟩ := List.mem_map.mp h
  obtain ⟨h1, h2⟩ := List.mem_filter.mp hq
  have : q.1 = x := of_decide_eq_true h2
  rw [← this]
  exact h1
theorem atX_nil {x : F} {pts : List (F × F)} (h : atX x pts = []) : x ∉ pts.map (·.1) := fun hx => by
  obtain ⟨q, hq, e⟩ := List.mem_map.mp hx
  have : q.2 ∈ atX x pts := List.mem_map.mpr ⟨q, List.mem_filter.mpr ⟨hq, decide_eq_true e⟩, rfl⟩
  rw [h] at this
  cases this
theorem atX_len (x : F) (pts : List (F × F)) : (atX x pts).length ≤ pts.length := by
  unfold atX
  rw [List.length_map]
  exact List.length_filter_le _ _
section
variable {P : Program} {w : World} {K : PySem.W.Frag} {mg : Str → Option Value} {base : Heap}
def spThru (K : PySem.W.Frag) : Sp := fun vs H Q _ => ∃ (f p : Addr) (n : Nat) (pts : List (F × F)), vs = [.ref f, .ref p, .int n] ∧ FieldAt H f ∧ PtsAt K H p pts ∧ (pts.map (·.1)).Nodup ∧ pts.length ≤ 16 ∧ n ≤ 16 ∧
  ∀ (c : List F) (W : Addr) (H' : Hp), Same H H' → c.length = pts.length → SqT K H' W (eL (wordL c n)) → Q (.ref W) H'
abbrev tPt (K : PySem.W.Frag) (i : Nat) (j : Int) : TE := tOp (rIxT K) (tVar i) (tC (.int j))
abbrev teL2 (K : PySem.W.Frag) : TE := tOp (rIxL K) (tVar 3) (tOp (rI0 fun i j => .int (Builtin.bitXor i j)) (tPt K 13 0) (tPt K 14 0))
abbrev teL1 (K : PySem.W.Frag) : TE := tOp (rIxL K) (tVar 3) (tOp (rI0 fun i j => .int (Builtin.bitXor i j)) (tVar 7) (tPt K 13 0))
abbrev teW (K : PySem.W.Frag) : TE := tCB (rSum K) (tCons (tLc (iList K (tVar 1)) (gName 14) (tTest (tOp rNe (tPt K 14 0) (tPt K 13 0))) (teL2 K) [14]) tNil)
abbrev nThru : List Str := ["_law_field_here", "_law_points", "_law_many", "_law_log", "_law_power", "_law_weights", "_law_word", "_law_x", "_law_value", "_law_given", "_law_whole", "_law_k", "_law_part", "_law_one", "_law_two"]
theorem scThru : FnScope nThru ["_law_field_here", "_law_points", "_law_many"] (defScope sThru) := ⟨rfl, rfl, rfl, by decide +kernel, rfl, by decide +kernel, by decide +kernel⟩
theorem ok_thru {f : Addr} {fd : FuncData} (F0 : Fun K "_law_through" "_law_through" sThru f fd) (mr : mg "range" = none) (ml : mg "len" = none) (ms : mg "sum" = none) (mi : mg "int" = none) (mt : mg "tuple" = none) : FnOk P w K mg base CX0 1 f fd ["_law_field_here", "_law_points", "_law_many"] (spThru K) := by
  refine F0.ok scThru (fun vs H Q E h => ?_) (fun cdv A outer s H vs Q E hr h => ?_)
  · obtain ⟨f, p, n, pts, rfl, _⟩ := h
    rfl
  · obtain ⟨f, p, n, pts, rfl, ⟨pw, lg, lgf, hf, hpw, hlg, hgz⟩, hP, hnd, lp, ln, kq⟩ := h
    have nd := scThru.nd
    have hu := hu_of hr
    refine ⟨_, pss_cons (ps_set (i := 3) nd rfl (.inr rfl) (pe_dget hu (pv 0) pe_str (fun _ _ => rfl)))
      (pss_cons (ps_set (i := 4) nd rfl (.inl rfl) (pe_dget hu (pv 0) pe_str (fun _ _ => rfl)))
      (pss_cons (ps_setLc (i := 5) (own := [("_law_one", 13)]) (g := gName 13) (tt := tYes) (te := teW K) rfl nd rfl rfl (sw_true rfl rfl rfl (by decide +kernel)) (pi_list (pv 1))
        (blkOk_by (N := nThru) (sc := defScope sThru) (by decide +kernel)) (fun _ _ _ _ _ => pg_name (i := 13) nd rfl (Or.inr rfl)) (fun _ _ _ _ _ => pts_nil)
        (fun _ _ _ _ _ => pe_callB (cr_sum rfl) (by rfl) ms boot_sum (pa_cons (pe_lc (own := [("_law_two", 14)]) (g := gName 14) (tt := tTest (tOp rNe (tPt K 14 0) (tPt K 13 0))) (te := teL2 K) rfl nd (pi_list (pv 1))
          (blkOk_by (N := nThru) (sc := { kind := .function, names := [(".0", .local), ("_law_one", .cell), ("sum", .globalImplicit), ("_law_log", .cell), ("_law_points", .cell)], isGenerator := false, isCoroutine := false }) (by decide +kernel)) (fun _ _ _ _ _ => pg_name (i := 14) nd rfl (Or.inl rfl))
          (fun _ _ _ _ _ => pts_one (pt_cmpR op_ne (pe_ix ix_tup (pv 14) pe_int (fun _ _ => rfl)) (pe_ix ix_tup (pv 13) pe_int (fun _ _ => rfl)) (nomark _)))
          (fun _ _ _ _ _ => pe_ix ix_list (pv 3) (pe_op op_xor (pe_ix ix_tup (pv 13) pe_int (fun _ _ => rfl)) (pe_ix ix_tup (pv 14) pe_int (fun _ _ => rfl))) (fun _ _ => rfl))) pa_nil)))
      (pss_cons (ps_set (i := 6) nd rfl (.inl rfl) (pe_lst pa_nil))
      (pss_cons (ps_for PassesOwn.never rfl (pi_range1 rfl mr (pa_cons (pv 2) pa_nil)) (pg_name (i := 7) nd rfl (.inr rfl))
        (pss_cons (ps_set (i := 8) nd rfl (.inl rfl) pe_int)
        (pss_cons (ps_setLc (i := 9) (own := [("_law_one", 13)]) (g := gName 13) (tt := tTest (tOp rEq (tPt K 13 0) (tVar 7))) (te := tPt K 13 1) rfl nd rfl rfl (sw_true rfl rfl rfl (by decide +kernel)) (pi_list (pv 1))
          (blkOk_by (N := nThru) (sc := defScope sThru) (by decide +kernel)) (fun _ _ _ _ _ => pg_name (i := 13) nd rfl (Or.inl rfl))
          (fun _ _ _ _ _ => pts_one (pt_cmpR op_eq (pe_ix ix_tup (pv 13) pe_int (fun _ _ => rfl)) (pv 7) (nomark _))) (fun _ _ _ _ _ => pe_ix ix_tup (pv 13) pe_int (fun _ _ => rfl)))
        (pss_cons (ps_if (pt_cmpR op_gt (pe_callB call_len_seq (by rfl) ml PySem.boot_len (pa_cons (pv 9) pa_nil)) pe_int (nomark _))
          (pss_one (ps_set (i := 8) nd rfl (.inl rfl) (pe_ix ix_list (pv 9) pe_int (fun _ _ => rfl))))
          (pss_cons (ps_set (i := 10) nd rfl (.inl rfl) (pe_callB (cr_sum rfl) (by rfl) ms boot_sum (pa_cons (pe_lc (own := [("_law_one", 13)]) (g := gName 13) (tt := tYes) (te := teL1 K) rfl nd (pi_list (pv 1))
            (blkOk_by (N := nThru) (sc := defScope sThru) (by decide +kernel)) (fun _ _ _ _ _ => pg_name (i := 13) nd rfl (Or.inl rfl)) (fun _ _ _ _ _ => pts_nil)
            (fun _ _ _ _ _ => pe_ix ix_list (pv 3) (pe_op op_xor (pv 7) (pe_ix ix_tup (pv 13) pe_int (fun _ _ => rfl))) (fun _ _ => rfl))) pa_nil)))
          (pss_one (ps_for PassesOwn.never rfl (pi_range1 rfl mr (pa_cons (pe_callB call_len_seq (by rfl) ml PySem.boot_len (pa_cons (pv 1) pa_nil)) pa_nil)) (pg_name (i := 11) nd rfl (.inl rfl))
            (pss_one (ps_if (pt_cmpR op_ne (pe_ix ix_tup (pe_ix ix_list (pv 1) (pv 11) (fun _ _ => rfl)) pe_int (fun _ _ => rfl)) pe_int (nomark _))
              (pss_cons (ps_set (i := 12) nd rfl (.inl rfl) (pe_op op_sub (pe_op op_sub (pe_op op_add (pe_ix ix_list (pv 3) (pe_ix ix_tup (pe_ix ix_list (pv 1) (pv 11) (fun _ _ => rfl)) pe_int (fun _ _ => rfl)) (fun _ _ => rfl)) (pv 10))
                (pe_ix ix_list (pv 3) (pe_op op_xor (pv 7) (pe_ix ix_tup (pe_ix ix_list (pv 1) (pv 11) (fun _ _ => rfl)) pe_int (fun _ _ => rfl))) (fun _ _ => rfl))) (pe_ix ix_list (pv 5) (pv 11) (fun _ _ => rfl))))
              (pss_one (ps_set (i := 8) nd rfl (.inl rfl) (pe_op op_xor (pv 8) (pe_ix ix_list (pv 4) (pe_op op_mod (pe_callTy call_int1 (by rfl) mi (by decide +kernel) (pa_cons (pv 12) pa_nil)) pe_int) (fun _ _ => rfl)))))) pss_nil))))))
        (pss_one (ps_expr (pe_bm PySem.F.plainAttrs_list PySem.F.slot_list_append PySem.F.type_list_append mt_append (pv 6) (pa_cons (pv 8) pa_nil))))))))
      (pss_one (ps_ret (pe_callTy call_tuple_of (by rfl) mt (by decide +kernel) (pa_cons (pv 6) pa_nil)))))))), ?_⟩
    obtain ⟨ts, hL, hlen, htt⟩ := hP
    have hmem : ∀ {i : Nat} {q : F × F}, pts[i]? = some q → q.1 ∈ pts.map (·.1) := fun h => List.mem_map.mpr ⟨_, List.mem_of_getElem? h, rfl⟩
    generalize hs : pts.map (·.1) = s at hnd hmem
    have hst : ∀ {i : Nat} {q : F × F}, pts[i]? = some q → s.take (i + 1) = s.take i ++ [q.1] := fun h => by
      rw [← hs]
      exact take_snoc (by rw [List.getElem?_map, h]; rfl)
    have lsl : s.length = pts.length := by rw [← hs, List.length_map]
    refine ⟨_, rfl, f, _, rfl, dg hf (.inr "log") rfl, _, rfl, f, _, rfl, dg hf (.inr "power") rfl, ?_⟩
    -- weights
    refine ⟨_, rfl, p, rfl, ⟨_, hL⟩, fun D hD => ?_⟩
    refine lc_list (xs := ts.map V.ref) (fun i H' => Same H H' ∧ H' D = some (.lst (((pts.take i).map fun q => slg lgf q.1 (but s q.1)).map V.int))) ⟨same_upd hD, upd_same⟩ (fun i H' _ hP => hP.1.seq hL) (fun i y H1 hy hP => ?_) (fun H1 hP => ?_)
    · obtain ⟨sm, hd⟩ := hP
      obtain ⟨t, ht, rfl⟩ := refs_some hy
      obtain ⟨q, hq⟩ := get_of_len ht hlen
      refine ⟨rfl, ?_⟩
      refine ⟨_, rfl, p, rfl, ⟨_, sm.seq hL⟩, fun D2 hD2 => ?_⟩
      refine lc_list (xs := ts.map V.ref) (fun j H' => Same H1 H' ∧ H' D2 = some (.lst ((lgs lgf q.1 (but (s.take j) q.1)).map V.int))) ⟨same_upd hD2, upd_same⟩ (fun i H' _ hP => (sm.trans hP.1).seq hL) (fun j y H2 hy hP => ?_) (fun H2 hP => ?_)
      · obtain ⟨sm2, hd2⟩ := hP
        obtain ⟨t2, ht2, rfl⟩ := refs_some hy
        obtain ⟨q2, hq2⟩ := get_of_len ht2 hlen
        have sm12 := sm.trans sm2
        refine ⟨rfl, ?_⟩
        refine ⟨_, rfl, t2, _, _, _, rfl, rfl, same_tup sm12 (htt _ t2 q2 ht2 hq2), rfl, _, rfl, t, _, _, _, rfl, rfl, same_tup sm12 (htt _ t q ht hq), rfl, rfl, _, rfl, ?_⟩
        show if (!decide (e1 q2.1 = e1 q.1)) = true then _ else _
        rw [hst hq2, but_snoc]
        by_cases h : q2.1 = q.1
        · rw [if_pos h, List.append_nil, show decide (e1 q2.1 = e1 q.1) = true from decide_eq_true (e1_eq.mpr h)]
          exact iteF ⟨sm2, hd2⟩
        · rw [if_neg h, show decide (e1 q2.1 = e1 q.1) = false from decide_eq_false fun z => h (e1_eq.mp z)]
          refine iteT ⟨_, rfl, _, rfl, t, _, _, _, rfl, rfl, same_tup sm12 (htt _ t q ht hq), rfl, _, rfl, t2, _, _, _, rfl, rfl, same_tup sm12 (htt _ t2 q2 ht2 hq2), rfl, _, _, rfl, rfl, lg, _, _, _, rfl, rfl, SqL.of (sm12 _ _ hlg), by rw [xor_eI]; exact lgL_at lgf _, _, hd2, ?_, same_mut sm2 hD2, ?_⟩
          · rw [List.length_map, List.length_map]
            refine small1000 (Nat.le_trans (List.length_filter_le _ _) ?_)
            rw [List.length_take]
            omega
          · rw [upd_same]
            unfold lgs
            rw [List.map_append, List.map_append]
            rfl
      · obtain ⟨sm2, hd2⟩ := hP
        rw [List.length_map, hlen, ← lsl, List.take_length] at hd2
        refine ⟨D2, _, rfl, SqL.of hd2, _, sm2 _ _ hd, ?_, same_mut (sm.trans sm2) hD, ?_⟩
        · rw [List.length_map, List.length_map, List.length_take]
          exact small1000 (by omega)
        · rw [upd_same, take_snoc hq, List.map_append, List.map_append]
          rfl
    · obtain ⟨sm1, hd1⟩ := hP
      rw [List.length_map, hlen, List.take_length] at hd1
      obtain ⟨c, lc, hc⟩ := lagr_pl lgf (s := s) (t := pts) (fun q hq => by rw [← hs]; exact List.mem_map.mpr ⟨_, hq, rfl⟩)
      have hL1 := sm1.seq hL
      have hlg1 := sm1 _ _ hlg
      have hpw1 := sm1 _ _ hpw
      refine ⟨Nat.zero_le _, fun wd hwd => ?_⟩
      refine ⟨_, rfl, _, rfl, by omega, by omega, ?_⟩
      rw [Int.toNat_natCast]
      refine for_range (lo := 0) (n := n) (fun i σ H' => ∃ v7 v8 v9 v10 v11 v12, σ = [some (.ref f), some (.ref p), some (.int n), some (.ref lg), some (.ref pw), some (.ref D), some (.ref wd), v7, v8, v9, v10, v11, v12, none, none] ∧ Same H1 H' ∧ H' wd = some (.lst (eL (wordL c i))))
        ⟨none, none, none, none, none, none, rfl, same_upd hwd, upd_same⟩ (fun i σ H2 hi hP => ?_) (fun σ H2 hP => ?_)
      · obtain ⟨v7, v8, v9, v10, v11, v12, rfl, sm2, hw2⟩ := hP
        show gName 7 (V.int (0 + (i : Int))) _ _ _
        rw [Int.zero_add, ← e1_fN (show i < 128 by omega)]
        have hwS : wordL c (i + 1) = wordL c i ++ [ev c (fN i)] := by
          unfold wordL
          rw [List.range_succ, List.map_append]
          rfl
        generalize fN i = x at hwS
        have fin : ∀ (H3 : Hp) (z : F) (v9 v10 v11 v12 : Option V), z = ev c x → Same H1 H3 → H3 wd = some (.lst (eL (wordL c i))) → ∃ (D' : Addr) (acc : List V) (x' : V), V.ref wd = V.ref D' ∧ ([e1 z] : List V) = [x'] ∧ H3 D' = some (.lst acc) ∧ acc.length < sizeLine ∧
            ∃ u7 u8 u9 u10 u11 u12, ([some (.ref f), some (.ref p), some (.int n), some (.ref lg), some (.ref pw), some (.ref D), some (.ref wd), some (e1 x), some (e1 z), v9, v10, v11, v12, none, none] : L2.St) = [some (.ref f), some (.ref p), some (.int n), some (.ref lg), some (.ref pw), some (.ref D), some (.ref wd), u7, u8, u9, u10, u11, u12, none, none] ∧ Same H1 (upd H3 D' (.lst (acc ++ [x']))) ∧ (upd H3 D' (.lst (acc ++ [x']))) wd = some (.lst (eL (wordL c (i + 1)))) := fun H3 z v9 v10 v11 v12 hz sm3 hw3 => by
          refine ⟨wd, _, _, rfl, rfl, hw3, by rw [eL_length, wordL_length]; exact small1000 (by omega), _, _, _, _, _, _, rfl, same_mut sm3 hwd, ?_⟩
          rw [upd_same, hwS, hz, show eL (_ ++ _) = _ from List.map_append]
          rfl
        refine ⟨_, rfl, p, rfl, ⟨_, sm2.seq hL1⟩, fun D3 hD3 => ?_⟩
        refine lc_list (xs := ts.map V.ref) (fun j H' => Same H2 H' ∧ H' D3 = some (.lst (eL (atX x (pts.take j))))) ⟨same_upd hD3, upd_same⟩ (fun i H' _ hP => (sm2.trans hP.1).seq hL1) (fun j y H3 hy hP => ?_) (fun H3 hP => ?_)
        · obtain ⟨sm3, hd3⟩ := hP
          obtain ⟨t, ht, rfl⟩ := refs_some hy
          obtain ⟨q, hq⟩ := get_of_len ht hlen
          have htq := same_tup ((sm1.trans sm2).trans sm3) (htt _ t q ht hq)
          refine ⟨rfl, ?_⟩
          refine ⟨_, rfl, t, _, _, _, rfl, rfl, htq, rfl, _, rfl, rfl, _, rfl, ?_⟩
          show if decide (e1 q.1 = e1 x) = true then _ else _
          rw [take_snoc hq, atX_snoc]
          by_cases h : q.1 = x
          · rw [if_pos h, show decide (e1 q.1 = e1 x) = true from decide_eq_true (e1_eq.mpr h)]
            refine iteT ⟨_, rfl, t, _, _, _, rfl, rfl, htq, rfl, _, hd3, ?_, same_mut sm3 hD3, ?_⟩
            · rw [eL_length]
              refine small1000 (Nat.le_trans (atX_len _ _) ?_)
              rw [List.length_take]
              omega
            · rw [upd_same, show eL (_ ++ _) = _ from List.map_append]
              rfl
          · rw [if_neg h, List.append_nil, show decide (e1 q.1 = e1 x) = false from decide_eq_false fun z => h (e1_eq.mp z)]
            exact iteF ⟨sm3, hd3⟩
        · obtain ⟨sm3, hd3⟩ := hP
          rw [List.length_map, hlen, List.take_length] at hd3
          have smH3 := sm2.trans sm3
          have hw3 := sm3 _ _ hw2
          refine ⟨_, rfl, D3, _, rfl, .inl (SqL.of hd3), _, _, rfl, rfl, _, rfl, dec_case (fun h => ?_) (fun h => ?_)⟩
          · cases hat : atX x pts with
            | nil =>
              rw [hat] at h
              exact absurd h (by decide)
            | cons y ys =>
              rw [hat] at hd3
              have hxy : (x, y) ∈ pts := atX_mem (by rw [hat]; exact List.mem_cons_self)
              have hx : x ∈ s := by rw [← hs]; exact List.mem_map.mpr ⟨_, hxy, rfl⟩
              have hv := (lagr_at lgf hgz hx (t := pts) (by rw [hs]; exact hnd)).1 y hxy
              refine ⟨_, rfl, D3, _, _, _, rfl, rfl, SqL.of hd3, (show atI (eL (y :: ys)) 0 = some (e1 y) from at_eL (j := 0) rfl (Nat.zero_lt_succ _)), ?_⟩
              exact ⟨_, rfl, .inl ⟨rfl, _, SqL.of hw3⟩, _, rfl, fin H3 y _ _ _ _ (by rw [← hc x, hv]) smH3 hw3⟩
          · have hnil : atX x pts = [] := by
              cases hat : atX x pts with
              | nil => rfl
              | cons y ys =>
                rw [hat] at h
                exact absurd (by show (0 : Int) < _; rw [eL_length, List.length_cons]; omega) h
            have hx : x ∉ s := by rw [← hs]; exact atX_nil hnil
            refine ⟨_, rfl, p, rfl, ⟨_, smH3.seq hL1⟩, fun D4 hD4 => ?_⟩
            refine lc_list (xs := ts.map V.ref) (fun j H' => Same H3 H' ∧ H' D4 = some (.lst ((lgs lgf x (s.take j)).map V.int))) ⟨same_upd hD4, upd_same⟩ (fun i H' _ hP => (smH3.trans hP.1).seq hL1) (fun j y H4 hy hP => ?_) (fun H4 hP => ?_)
            · obtain ⟨sm4, hd4⟩ := hP
              obtain ⟨t, ht, rfl⟩ := refs_some hy
              obtain ⟨q, hq⟩ := get_of_len ht hlen
              have smH4 := smH3.trans sm4
              have htq := same_tup (sm1.trans smH4) (htt _ t q ht hq)
              refine ⟨rfl, ?_⟩
              refine ⟨_, rfl, _, rfl, _, rfl, t, _, _, _, rfl, rfl, htq, rfl, _, _, rfl, rfl, lg, _, _, _, rfl, rfl, SqL.of (smH4 _ _ hlg1), by rw [xor_eI]; exact lgL_at lgf _, _, hd4, ?_, same_mut sm4 hD4, ?_⟩
              · rw [List.length_map, List.length_map, List.length_take]
                exact small1000 (by omega)
              · rw [upd_same, hst hq]
                unfold lgs
                rw [List.map_append, List.map_append]
                rfl
            · obtain ⟨sm4, hd4⟩ := hP
              rw [List.length_map, hlen, ← lsl, List.take_length] at hd4
              have smH4 := smH3.trans sm4
              have hL4 := smH4.seq hL1
              refine ⟨D4, _, rfl, SqL.of hd4, ?_⟩
              refine ⟨_, rfl, p, _, rfl, .inl hL4, _, rfl, by rw [List.length_map]; omega, by rw [List.length_map]; omega, ?_⟩
              rw [List.length_map, Int.toNat_natCast]
              refine for_range (lo := 0) (n := ts.length) (fun j σ H' => ∃ v11 v12 z, σ = [some (.ref f), some (.ref p), some (.int n), some (.ref lg), some (.ref pw), some (.ref D), some (.ref wd), some (e1 x), some (e1 z), some (.ref D3), some (.int (slg lgf x s)), v11, v12, none, none] ∧ H' = H4 ∧ z = lagr lgf s (pts.take j) x)
                ⟨_, _, 0, rfl, rfl, rfl⟩ (fun j σ H5 hj hP => ?_) (fun σ H5 hP => ?_)
              · obtain ⟨v11, v12, z, rfl, rfl, rfl⟩ := hP
                show gName 11 (V.int (0 + (j : Int))) _ _ _
                rw [Int.zero_add]
                obtain ⟨t, ht⟩ : ∃ t, ts[j]? = some t := ⟨_, List.getElem?_eq_getElem hj⟩
                obtain ⟨q, hq⟩ := get_of_len ht hlen
                have htq := same_tup (sm1.trans smH4) (htt _ t q ht hq)
                have hat : atI (ts.map V.ref) (j : Int) = some (.ref t) := atI_nat (by rw [List.getElem?_map, ht]; rfl)
                refine ⟨_, rfl, _, rfl, p, _, _, _, rfl, rfl, hL4, hat, t, _, _, _, rfl, rfl, htq, rfl, rfl, _, rfl, ?_⟩
                show if (!decide (e1 q.2 = e1 0)) = true then _ else _
                rw [take_snoc hq, lagr_snoc]
                by_cases h : q.2 = 0
                · rw [show decide (e1 q.2 = e1 0) = true from decide_eq_true (e1_eq.mpr h)]
                  refine iteF ⟨_, _, _, rfl, rfl, ?_⟩
                  rw [show MV.part lgf s q x = 0 by unfold MV.part; rw [h, MV.zero_mul, MV.zero_mul], MV.add_zero]
                · rw [show decide (e1 q.2 = e1 0) = false from decide_eq_false fun z => h (e1_eq.mp z)]
                  refine iteT ?_
                  have hlg4 := SqL.of (K := K) (smH4 _ _ hlg1)
                  have hwt : atI ((pts.map fun q => slg lgf q.1 (but s q.1)).map V.int) (j : Int) = some (.int (slg lgf q.1 (but s q.1))) := atI_nat (by rw [List.getElem?_map, List.getElem?_map, hq]; rfl)
                  have hpt := part_log lgf hgz hnd (hmem hq) hx h
                  refine ⟨_, rfl, _, rfl, _, rfl, p, _, _, _, rfl, rfl, hL4, hat, t, _, _, _, rfl, rfl, htq, rfl, lg, _, _, _, rfl, rfl, hlg4, lgL_at lgf q.2, _, rfl, _, _, rfl, rfl, ?_⟩
                  refine ⟨_, rfl, _, rfl, _, rfl, _, rfl, p, _, _, _, rfl, rfl, hL4, hat, t, _, _, _, rfl, rfl, htq, rfl, _, _, rfl, rfl, lg, _, _, _, rfl, rfl, hlg4, by rw [xor_eI]; exact lgL_at lgf _, _, _, rfl, rfl, ?_⟩
                  refine ⟨_, rfl, _, rfl, D, _, _, _, rfl, rfl, SqL.of (smH4 _ _ hd1), hwt, _, _, rfl, rfl, ?_⟩
                  have hgt : ∀ ptv : Int, atI (eL (pwL 127)) (ptv % 127) = some (e1 (gz ptv)) := fun ptv => by
                    have h1 : 0 ≤ ptv % 127 := Int.emod_nonneg _ (by decide)
                    have h2 : ptv % 127 < 127 := Int.emod_lt_of_pos _ (by decide)
                    have h3 := at_eL (p := pwL 127) (j := (ptv % 127).toNat) (z := ptv % 127) (by omega) (by rw [pwL_len]; omega)
                    rw [pwL_at (by omega)] at h3
                    exact h3
                  refine ⟨_, rfl, _, rfl, _, rfl, .inl ⟨_, rfl, _, _, rfl, rfl, (by show (0 : Int) < 127; decide), pw, _, _, _, rfl, rfl, SqL.of (smH4 _ _ hpw1), hgt _, _, _, rfl, rfl, ?_⟩⟩
                  refine ⟨_, _, _, congrArg (fun z => ([_, _, _, _, _, _, _, _, some (V.int z), _, _, _, _, _, _] : L2.St)) (xor_eI _ _), rfl, ?_⟩
                  rw [hpt]
              · obtain ⟨v11, v12, z, rfl, rfl, rfl⟩ := hP
                rw [hlen, List.take_length]
                exact ⟨_, rfl, .inl ⟨rfl, _, SqL.of (sm4 _ _ hw3)⟩, _, rfl, fin _ _ _ _ _ _ (hc x) smH4 (sm4 _ _ hw3)⟩
      · obtain ⟨v7, v8, v9, v10, v11, v12, rfl, sm2, hw2⟩ := hP
        exact ⟨_, rfl, wd, _, rfl, .inl ⟨SqL.of hw2, fun l hl => kq c l _ ((sm1.trans sm2).trans (same_upd hl)) (by rw [lc, lsl]) (SqT.of upd_same)⟩⟩
end
end Mv
/-! The law's own call: what corrected tells or lets out. -/
namespace Mv
open PySem PySem.Spec PyProof.Rows L2 MV
section
variable {X : Cx} {CX : CXT} {k : Nat} {f : Addr} {fd : FuncData} {ps ks : List Str} {sp : Sp} {E : L2.St → XK} {x : Str} {p pos : Pos} {kws : List Keyword} {tk : TA} {g : List Value → List Value → List Value} {gV : List V → List V → List V}
theorem run_fnkS {pins : List (Addr × Obj)} {σ : L2.St} {H : Hp} {s : Shared} {Q : VK} {us ws : List Value} {vs zs : List V} (F0 : FnOk X.prog X.w X.K X.mg X.base CX k f fd ps sp) (hr : Room k X.A) (hb : KBinds X.K fd ps ks g gV) (hx : PassesAt CX X σ (E σ))
    (I : Inv X pins σ H s) (r : Vals vs us) (rz : Vals zs ws) (h : sp (gV vs zs) H Q (E σ)) : wpAny (model X.prog X.w) X.A (call (.ref f) us (ks.zip ws)) (EP X pins σ Q) X.xe s := by
  have r2 := hb.rel r rz
  have hl : (g us ws).length = ps.length := by rw [← r2.length]; exact F0.len _ _ _ _ h
  refine wpAny_call (codeAny_mono (F0.run X.A X.stack s H ⟨us, ks.zip ws⟩ (g us ws) (gV vs zs) Q (E σ) hr I.env0 (hb.to s us ws I.kIn hl) r2 h) fun r s' hq => ?_)
  cases r with
  | error e => exact hx pins H s e s' I hq
  | ok fl =>
    cases fl with
    | ret u => exact I.after hq
    | next => exact False.elim hq
    | brk => exact False.elim hq
    | cont => exact False.elim hq
/-- f(k = v, ..) with no positional argument, in a try's body -/
def tCallKS (sp : Sp) (gV : List V → List V → List V) (E : L2.St → XK) (tk : TA) : TE := fun σ H Q => tk σ H fun zs H2 => sp (gV [] zs) H2 Q (E σ)
theorem pe_callKS (F0 : FnOk X.prog X.w X.K X.mg X.base CX k f fd ps sp) (hr : Room k X.A) (hg : Gl X x) (hm : X.mg x = some (.ref f)) (hk : PySem.W.keepIn X.K (.ref f) = true) (hb : KBinds X.K fd ps ks g gV) (hx : ∀ σ, PassesAt CX X σ (E σ))
    (hkw : PK X kws tk) (hall : (backToKw pos (keywordEach kws X.env)).all (·.1.isSome) = true := by rfl) (hks : (backToKw pos (keywordEach kws X.env)).filterMap (·.1) = ks := by rfl)
    (hdb : (x == ("__debug__" : Str)) = false := by decide) (hpl : ((backTo pos (starEach [] X.env)).any (·.1) || (backToKw pos (keywordEach kws X.env)).any (·.1.isNone)) = false := by rfl) :
    PE X (.Call (.Name x p) [] kws pos) (tCallKS sp gV E tk) := by
  refine ⟨fun pins s σ H Q I h => ?_⟩
  refine wpAny_Call_Name_kw (ld_glob I hg hm ?_ hdb)
  refine PySem.W.callWith_KW0 (h₀ := X.base) I.ok.mod.kin hk hall (thn (hkw.run pos pins s σ H _ I h) fun ws s2 ⟨zs, H2, I2, rz, q2⟩ => ⟨I2.kIn, ?_⟩) hpl
  rw [hks]
  exact run_fnkS (us := []) (vs := []) F0 hr hb (hx σ) I2 .nil rz q2
end
/-- corrected(k = .., symbols = ..) -/
def gK : List Value → List Value → List Value
  | [], [a, b] => [b, a]
  | _, _ => []
def gKV : List V → List V → List V
  | [], [a, b] => [b, a]
  | _, _ => []
theorem gK_rel {vs : List V} {us : List Value} {zs : List V} {ws : List Value} (r : Vals vs us) (rz : Vals zs ws) : Vals (gKV vs zs) (gK us ws) := by
  cases r with
  | cons _ _ => exact .nil
  | nil =>
    cases rz with
    | nil => exact .nil
    | cons ra r1 =>
      cases r1 with
      | nil => exact .nil
      | cons rb r2 =>
        cases r2 with
        | nil => exact .cons rb (.cons ra .nil)
        | cons _ _ => exact .nil
theorem gK_len : ∀ {us ws : List Value}, (gK us ws).length = 2 → ∃ a b, us = [] ∧ ws = [a, b]
  | [], [a, b], _ => ⟨a, b, rfl, rfl⟩
  | [], [], h => nomatch h
  | [], [_], h => nomatch h
  | [], _ :: _ :: _ :: _, h => nomatch h
  | _ :: _, _, h => nomatch h
theorem kb_corr {K : PySem.W.Frag} {kV doc pm : Value} {an : Option Addr} {cdv ct : Value} : KBinds K (PySem.W.fnOf "corrected" "corrected" (defArgs sCorr) (defBody sCorr) (defScope sCorr) .none kV doc pm an cdv ct) ["symbols", "k"] ["k", "symbols"] gK gKV where
  to := fun s us ws _ hl => by
    obtain ⟨a, b, rfl, rfl⟩ := gK_len hl
    refine .of_eq ?_
    kernel_rfl
  rel := gK_rel
section
variable {X : Cx} {C B fI cc cda : Addr}
def rIsE (K : PySem.W.Frag) (C a : Addr) (cls : Value) (d : Option Addr) : List V → Hp → VK → Prop := fun xs H Q => cls = .ref C ∧ rIsD K C a d xs H Q
theorem call_isE {a : Addr} {oe : Obj} {cls : Value} {d : Option Addr} {pn : List (Addr × Obj)} {P' : Program} (T : Byd P' X.K X.mg C B fI cc cda) (N : BydIs X.K C) (hz : Zc cls d oe) (hf : ∃ vs, oe.data = .fields vs) : CallR (X.suite a ((a, oe) :: pn)) (.builtin "isinstance") (rIsE X.K C a cls d) := by
  intro pins s σ H xs us Q I r h
  obtain ⟨e0, h⟩ := h
  subst e0
  exact call_isD T N hz hf pins s σ H xs us Q I r h
end
section
variable {P : Program} {w : World} {K : PySem.W.Frag} {mg : Str → Option Value} {base : Heap}
def spTold (K : PySem.W.Frag) : Sp := fun vs H Q _ => ∃ (S : Addr) (k : Nat) (b : Bool) (sy : List (Option F)) (c : List F), vs = [.ref S, .int k, .bl b] ∧ SqA K H S (sy.map oV) ∧ sy.length ≤ 16 ∧ 1 ≤ k ∧
  (k ≤ (gpA 0 sy).length → c.length ≤ k ∧ 2 * (bad c (gpA 0 sy)).length + k ≤ (gpA 0 sy).length ∧
    ∀ (t W Ch e : Addr) (H' : Hp), Same H H' → SqT K H' t [.str "word", .ref e] → SqT K H' e [.ref W, .ref Ch] → SqT K H' W (eL (wordL c sy.length)) → SqT K H' Ch (eL ((bad c (gpA 0 sy)).map (·.1))) → Q (.ref t) H') ∧
  ((gpA 0 sy).length < k → ∀ (t l : Addr) (H' : Hp), Same H H' → SqT K H' t [.str "beyond", .ref l] → H' l = some (.lst [.bl true, .str "lost"]) → Q (.ref t) H')
theorem scTold : FnScope ["_law_symbols", "_law_k", "_law_named", "e"] ["_law_symbols", "_law_k", "_law_named"] (defScope sTold) := ⟨rfl, rfl, rfl, by decide +kernel, rfl, by decide +kernel, by decide +kernel⟩
theorem ok_told {f fC C B fI cc cda : Addr} {fd fdC : FuncData} (F0 : Fun K "_law_told" "_law_told" sTold f fd) (DC : Df P w K mg base (L2.CX P w) 7 "corrected" ["symbols", "k"] (spCorr K C) fC fdC) (KB : KBinds K fdC ["symbols", "k"] ["k", "symbols"] gK gKV)
    (T : Byd P K mg C B fI cc cda) (N : BydIs K C) (gB : mg "VaultError" = some (.ref B)) (isB : PySem.W.kitOne K (.ref C) (.ref B) = some true) (xf : XfC K C) (ms : mg "isinstance" = none) : FnOk P w K mg base CX0 8 f fd ["_law_symbols", "_law_k", "_law_named"] (spTold K) := by
  refine F0.ok scTold (fun vs H Q E h => ?_) (fun cdv A outer s H vs Q E hr h => ?_)
  · obtain ⟨S, k, b, sy, c, rfl, _⟩ := h
    rfl
  · obtain ⟨S, k, b, sy, c, rfl, hS, ls, k1, kq, ke⟩ := h
    have nd := scTold.nd
    refine ⟨_, pss_one (ps_try_as (i := 3) (tb := fun W => tSeq (tIfS (tTest (tVar 2)) (tRet (tTup (tCons (tC (.str "word")) (tCons (tCallKS (spCorr K C) gKV (WE W) (tCons (tVar 1) (tCons (tVar 0) tNil))) tNil)))) tNext)
          (tRet (tTup (tCons (tC (.str "word")) (tCons (tCallS (spCorr K C) (WE W) (tCons (tVar 0) (tCons (tVar 1) tNil))) tNil)))))
        (ts := fun a cls d => tRet (tTup (tCons (tC (.str "beyond")) (tCons (tLst (tCons (tCB (rIsE K C a cls d) (tCons (tVar 3) (tCons (tC (.ref B)) tNil))) (tCons (tXf a cls d C "word" (tVar 3)) tNil))) tNil))))
        (Wout := fun _ _ _ _ => False) rfl rfl nd rfl rfl ⟨rfl, by decide, Or.inl T.gC⟩ takes0
      (fun W pn xe tk _ => pss_cons (ps_if (pt_val (pv 2)) (pss_one (ps_ret (pe_tup (pa_cons pe_str (pa_cons (pe_callKS DC.ok hr rfl DC.mg DC.kp KB (fun σ => passAt tk σ) (pk_cons (pv 1) (pk_cons (pv 0) pk_nil))) pa_nil))))) pss_nil)
        (pss_one (ps_ret (pe_tup (pa_cons pe_str (pa_cons (pe_callS DC.ok hr rfl DC.mg DC.kp DC.bd (fun σ => passAt tk σ) (pa_cons (pv 0) (pa_cons (pv 1) pa_nil))) pa_nil))))))
      (fun a oe cls d pn hz hf => pss_one (ps_ret (pe_tup (pa_cons pe_str (pa_cons (pe_lst (pa_cons (pe_callB (call_isE T N hz hf) (by rfl) ms PyProof.Rows.boot_isinstance (pa_cons (pv 3) (pa_cons (pe_glob (v := .ref B) rfl gB rfl) pa_nil))) (pa_cons (pe_xf xf T.noW hz hf (pv 3)) pa_nil))) pa_nil)))))), ?_⟩
    have lost : ∀ (D : Ends) (σ : L2.St) (d : Addr) (H1 : Hp), σ = [some (.ref S), some (.int k), some (.bl b), none] → D.rt = Q → (gpA 0 sy).length < k → Same H H1 → H1 d = some (.xd [("word", V.str "lost")]) →
        wAs K (.ref C) 3 (fun a cls d => tRet (tTup (tCons (tC (.str "beyond")) (tCons (tLst (tCons (tCB (rIsE K C a cls d) (tCons (tVar 3) (tCons (tC (.ref B)) tNil))) (tCons (tXf a cls d C "word" (tVar 3)) tNil))) tNil)))) (fun _ _ _ _ => False) D (.ref C) (some d) σ H1 := by
      intro D σ d H1 hσ hD hk sm hx
      subst hσ
      refine ⟨true, T.te, fun _ a _ => ?_, fun q => Bool.noConfusion q⟩
      refine ⟨_, rfl, rfl, .ref B, .ref B, true, d, _, rfl, fun u h => h, isB, rfl, hx, _, rfl, rfl, rfl, d, _, .str "lost", rfl, hx, by simp [List.lookup], by show 2 ≤ sizeLine; decide, fun l hl => ⟨by show 2 ≤ sizeLine; decide, fun t ht => ?_⟩⟩
      show D.rt _ _
      rw [hD]
      have s1 := same_upd (o := .lst [.bl true, .str "lost"]) hl
      exact ke hk t l _ (sm.trans (s1.trans (same_upd ht))) (SqT.of upd_same) (same_upd ht _ _ upd_same)
    have fin : ∀ (hk : k ≤ (gpA 0 sy).length) (W Ch e : Addr) (H1 : Hp), Same H H1 → SqT K H1 e [.ref W, .ref Ch] → SqT K H1 W (eL (wordL c sy.length)) → SqT K H1 Ch (eL ((bad c (gpA 0 sy)).map (·.1))) →
        [V.str "word", .ref e].length ≤ sizeLine ∧ ∀ t, H1 t = none → Q (.ref t) (upd H1 t (.tup [V.str "word", .ref e])) := fun hk W Ch e H1 sm he hW hCh => by
      refine ⟨by show 2 ≤ sizeLine; decide, fun t ht => ?_⟩
      have s1 := same_upd (o := .tup [V.str "word", .ref e]) ht
      exact (kq hk).2.2 t W Ch e _ (sm.trans s1) (SqT.of upd_same) (same_tup s1 he) (same_tup s1 hW) (same_tup s1 hCh)
    refine ⟨_, rfl, b, rfl, ?_⟩
    cases b with
    | true =>
      refine iteT ⟨_, rfl, _, rfl, S, k, sy, c, rfl, hS, ls, k1, fun hk => ⟨(kq hk).1, (kq hk).2.1, fun W Ch e H1 sm he hW hCh => fin hk W Ch e H1 sm he hW hCh⟩, fun hk d H1 sm _ hx => lost _ _ d H1 rfl rfl hk sm hx⟩
    | false =>
      refine iteF ⟨_, rfl, _, rfl, S, k, sy, c, rfl, hS, ls, k1, fun hk => ⟨(kq hk).1, (kq hk).2.1, fun W Ch e H1 sm he hW hCh => fin hk W Ch e H1 sm he hW hCh⟩, fun hk d H1 sm _ hx => lost _ _ d H1 rfl rfl hk sm hx⟩
end
end Mv
/-! What a turn of the law compares, in plain lists. -/
namespace Mv
open PySem PySem.Spec PyProof.Rows L2 MV
/-- the symbols of a row: lost where gb does not hold -/
def syF (n : Nat) (gb : Nat → Bool) (val : Nat → F) : List (Option F) := (List.range n).map fun i => if gb i = true then some (val i) else none
theorem syF_len (n : Nat) (gb : Nat → Bool) (val : Nat → F) : (syF n gb val).length = n := by
  unfold syF
  rw [List.length_map, List.length_range]
theorem gp_range (gb : Nat → Bool) (val : Nat → F) : ∀ (n m : Nat), gpA m ((List.range' m n).map fun i => if gb i = true then some (val i) else none) = ((List.range' m n).filter gb).map fun i => (fN i, val i)
  | 0, _ => rfl
  | n + 1, m => by
    rw [List.range'_succ, List.map_cons, List.filter_cons]
    cases gb m with
    | true =>
      show (fN m, val m) :: gpA (m + 1) _ = _
      rw [gp_range gb val n (m + 1)]
      rfl
    | false =>
      show gpA (m + 1) _ = _
      rw [gp_range gb val n (m + 1)]
      rfl
/-- the places that are given -/
def gvL (n : Nat) (gb : Nat → Bool) : List Nat := (List.range n).filter gb
theorem gp_syF (n : Nat) (gb : Nat → Bool) (val : Nat → F) : gpA 0 (syF n gb val) = (gvL n gb).map fun i => (fN i, val i) := by
  unfold syF gvL
  rw [List.range_eq_range']
  exact gp_range gb val n 0
theorem gp_len (n : Nat) (gb : Nat → Bool) (val : Nat → F) : (gpA 0 (syF n gb val)).length = (gvL n gb).length := by
  rw [gp_syF, List.length_map]
theorem gv_mem {n : Nat} {gb : Nat → Bool} {i : Nat} : i ∈ gvL n gb ↔ i < n ∧ gb i = true := by
  unfold gvL
  rw [List.mem_filter, List.mem_range]
theorem gv_nodup (n : Nat) (gb : Nat → Bool) : (gvL n gb).Nodup := (List.nodup_range (n := n)).sublist List.filter_sublist
theorem gv_len (n : Nat) (gb : Nat → Bool) : (gvL n gb).length ≤ n := by
  unfold gvL
  refine Nat.le_trans (List.length_filter_le _ _) ?_
  rw [List.length_range]
  exact Nat.le_refl _
/-- a part of a list, in the list's order, is what a test picks -/
theorem sub_filter : ∀ {l L : List Nat}, l.Sublist L → L.Nodup → L.filter (fun i => decide (i ∈ l)) = l
  | _, _, .slnil, _ => rfl
  | l, a :: L, .cons _ h, hn => by
    rw [List.nodup_cons] at hn
    have ha : a ∉ l := fun z => hn.1 (h.subset z)
    rw [List.filter_cons, if_neg (by simpa using ha)]
    exact sub_filter h hn.2
  | a :: l, _ :: L, .cons₂ _ h, hn => by
    rw [List.nodup_cons] at hn
    rw [List.filter_cons, if_pos (by simp)]
    congr 1
    refine Eq.trans (List.filter_congr fun i hi => ?_) (sub_filter h hn.2)
    have : i ≠ a := fun z => hn.1 (z ▸ hi)
    simp [this]
/-- what the row holds: val is the word but for the places of ch -/
def Chg (n : Nat) (gb : Nat → Bool) (c : List F) (val : Nat → F) (ch : List Nat) : Prop := ∀ i, i < n → gb i = true → (ev c (fN i) ≠ val i ↔ i ∈ ch)
theorem bad_syF {n : Nat} {gb : Nat → Bool} {c : List F} {val : Nat → F} {ch : List Nat} (hs : ch.Sublist (gvL n gb)) (hc : Chg n gb c val ch) : bad c (gpA 0 (syF n gb val)) = ch.map fun i => (fN i, val i) := by
  unfold bad
  rw [gp_syF, List.filter_map]
  congr 1
  refine Eq.trans (List.filter_congr fun i hi => ?_) (sub_filter hs (gv_nodup n gb))
  obtain ⟨h1, h2⟩ := gv_mem.mp hi
  have := hc i h1 h2
  show (!decide (ev c (fN i) = val i)) = decide (i ∈ ch)
  by_cases h : i ∈ ch
  · simp [h, this.mpr h]
  · have h3 : ev c (fN i) = val i := Classical.byContradiction fun z => h (this.mp z)
    simp [h, h3]
theorem bad_fst {n : Nat} {gb : Nat → Bool} {c : List F} {val : Nat → F} {ch : List Nat} (hs : ch.Sublist (gvL n gb)) (hc : Chg n gb c val ch) : (bad c (gpA 0 (syF n gb val))).map (·.1) = ch.map fN := by
  rw [bad_syF hs hc, List.map_map]
  rfl
theorem bad_len {n : Nat} {gb : Nat → Bool} {c : List F} {val : Nat → F} {ch : List Nat} (hs : ch.Sublist (gvL n gb)) (hc : Chg n gb c val ch) : (bad c (gpA 0 (syF n gb val))).length = ch.length := by
  rw [bad_syF hs hc, List.length_map]
/-- one symbol changed -/
def put (val : Nat → F) (j : Nat) (v : F) : Nat → F := fun i => if i = j then v else val i
theorem syF_get {n : Nat} {gb : Nat → Bool} {val : Nat → F} {i : Nat} (h : i < (syF n gb val).length) : (syF n gb val)[i] = if gb i = true then some (val i) else none := by simp [syF]
theorem syF_set {n : Nat} {gb : Nat → Bool} {val : Nat → F} {j : Nat} {v : F} (hg : gb j = true) : (syF n gb val).set j (some v) = syF n gb (put val j v) := by
  apply List.ext_getElem
  · rw [List.length_set, syF_len, syF_len]
  · intro i h1 h2
    rw [List.getElem_set, syF_get, syF_get]
    unfold put
    by_cases e : j = i
    · subst e
      rw [if_pos rfl, if_pos hg, if_pos rfl]
    · rw [if_neg e, if_neg (Ne.symm e)]
theorem Chg.put {n : Nat} {gb : Nat → Bool} {c : List F} {val : Nat → F} {ch : List Nat} (h : Chg n gb c val ch) {j : Nat} {v : F} (hv : ev c (fN j) ≠ v) : Chg n gb c (put val j v) (ch ++ [j]) := fun i hi hg => by
  unfold Mv.put
  rw [List.mem_append, List.mem_singleton]
  by_cases e : i = j
  · subst e
    rw [if_pos rfl]
    exact ⟨fun _ => .inr rfl, fun _ => hv⟩
  · rw [if_neg e, h i hi hg]
    exact ⟨.inl, fun z => z.elim id fun q => absurd q e⟩
theorem Chg.start (n : Nat) (gb : Nat → Bool) (c : List F) : Chg n gb c (fun i => ev c (fN i)) [] := fun i _ _ => ⟨fun z => absurd rfl z, fun z => nomatch z⟩
theorem nL_eL {l : List Nat} (h : ∀ i ∈ l, i < 128) : nL l = eL (l.map fN) := by
  unfold nL eL
  rw [List.map_map]
  exact List.map_congr_left fun i hi => (e1_fN (h i hi)).symm
/-- another symbol -/
theorem xor_ne (a : F) {t : Int} (h0 : 0 ≤ t) (h1 : t < 127) : ∃ v : F, Builtin.bitXor (eI a) (1 + t) = eI v ∧ a ≠ v := by
  have e : 1 + t = eI (fN (1 + t).toNat) := by
    have := e1_fN (i := (1 + t).toNat) (by omega)
    have := V.int.inj this
    omega
  refine ⟨a + fN (1 + t).toNat, by rw [e, xor_eI, ← e], fun z => ?_⟩
  have hz : fN (1 + t).toNat = 0 := by
    have := add_add_self a (fN (1 + t).toNat)
    rw [← z, add_self] at this
    exact this.symm
  rw [hz] at e
  have : eI (0 : F) = 0 := eI_zero
  omega
theorem syV_at {n : Nat} {gb : Nat → Bool} {val : Nat → F} {j : Nat} (hj : j < n) (hg : gb j = true) : ((syF n gb val).map oV)[j]? = some (e1 (val j)) := by
  unfold syF
  rw [List.map_map, List.getElem?_map, List.getElem?_range hj]
  show some (oV (if gb j = true then some (val j) else none)) = _
  rw [if_pos hg]
  rfl
/-- symbols as data -/
def oD : Option F → PyData
  | none => .none
  | some a => .int (eI a)
theorem dpAll_sy {K : PySem.W.Frag} {H : Hp} : ∀ sy : List (Option F), DpAll K H (sy.map oV) (sy.map oD)
  | [] => .nil
  | none :: t => .cons .non (dpAll_sy t)
  | some a :: t => .cons (.int _) (dpAll_sy t)
theorem eqv_sy : ∀ sy : List (Option F), PyData.eqvAll (sy.map oD) (sy.map oD) = true
  | [] => rfl
  | none :: t => by
    show (true && PyData.eqvAll (t.map oD) (t.map oD)) = true
    rw [eqv_sy t]
    rfl
  | some a :: t => by
    show ((eI a == eI a) && PyData.eqvAll (t.map oD) (t.map oD)) = true
    rw [eqv_sy t, BEq.rfl]
    rfl
theorem lay_sy : ∀ sy : List (Option F), PyData.canLayAll0 (sy.map oD) = true
  | [] => rfl
  | none :: t => by
    show (true && PyData.canLayAll0 (t.map oD)) = true
    rw [lay_sy t]
    rfl
  | some a :: t => by
    show (true && PyData.canLayAll0 (t.map oD)) = true
    rw [lay_sy t]
    rfl
theorem dep_sy : ∀ sy : List (Option F), PyData.depthAll (sy.map oD) = 0
  | [] => rfl
  | none :: t => by
    show max 0 (PyData.depthAll (t.map oD)) = 0
    rw [dep_sy t]
    rfl
  | some a :: t => by
    show max 0 (PyData.depthAll (t.map oD)) = 0
    rw [dep_sy t]
    rfl
theorem shaped_sy (sy : List (Option F)) : SeqAt.shaped (.list (sy.map oD)) = true := by
  show (PyData.canLayAll0 (sy.map oD) && decide (PyData.depthAll (sy.map oD) + 1 ≤ 64)) = true
  rw [lay_sy, dep_sy]
  rfl
end Mv
set_option maxHeartbeats 1000000
/-! A turn of the law. -/
namespace Mv
open PySem PySem.Spec PyProof.Rows L2 MV
theorem sq_upd_lst {K : PySem.W.Frag} {H : Hp} {D a : Addr} {xs ys : List V} {o : HO} (h : SqT K H a xs) (hD : H D = some (.lst ys)) : SqT K (upd H D o) a xs := by
  rcases h with (h | ⟨q, h⟩) | h
  · refine .inl (.inl ?_)
    rw [upd_ne (fun z => by rw [z, hD] at h; cases h)]
    exact h
  · refine .inl (.inr ⟨q, ?_⟩)
    rw [upd_ne (fun z => by rw [z, hD] at h; cases h)]
    exact h
  · exact .inr h
theorem flat_nL (l : List Nat) : (nL l).all flatV = true := by
  rw [List.all_eq_true]
  intro y hy
  obtain ⟨z, _, rfl⟩ := List.mem_map.mp hy
  rfl
theorem inV_nL (x : Nat) (l : List Nat) : inV (.int (x : Nat)) (nL l) = decide (x ∈ l) := by
  rw [Bool.eq_iff_iff, decide_eq_true_eq]
  unfold inV
  rw [List.any_eq_true]
  constructor
  · rintro ⟨y, hy, e⟩
    obtain ⟨z, hz, rfl⟩ := List.mem_map.mp hy
    have e' : ((z : Int) == (x : Int)) = true := e
    have := Int.ofNat.inj (eq_of_beq e')
    rw [← this]
    exact hz
  · intro h
    refine ⟨_, List.mem_map.mpr ⟨x, h, rfl⟩, ?_⟩
    show ((x : Int) == (x : Int)) = true
    exact BEq.rfl
theorem fN_nodup {k : Nat} (h : k ≤ 128) : ((List.range k).map fN).Nodup := by
  refine List.Pairwise.of_map (S := fun a b : Nat => a ≠ b) F.v (fun a b q z => q (by rw [z])) ?_
  rw [List.map_map]
  have e : (List.range k).map (F.v ∘ fN) = List.range k := by
    conv => rhs; rw [← List.map_id (List.range k)]
    exact List.map_congr_left fun i hi => fN_v (by have := List.mem_range.mp hi; omega)
  rw [e]
  exact List.nodup_range
theorem pick_sub {gv sel : List Nat} (h : sel.Sublist (List.range gv.length)) : (sel.map fun j => gv.getD j 0).Sublist gv := by
  have e : (List.range gv.length).map (fun j => gv.getD j 0) = gv := by
    apply List.ext_getElem
    · rw [List.length_map, List.length_range]
    · intro i h1 h2
      rw [List.getElem_map, List.getElem_range, List.getD_eq_getElem?_getD, List.getElem?_eq_getElem h2]
      rfl
  have := h.map fun j => gv.getD j 0
  rw [e] at this
  exact this
theorem nL_snoc (l : List Nat) (a : Nat) : nL (l ++ [a]) = nL l ++ [.int (a : Nat)] := by
  unfold nL
  rw [List.map_append]
  rfl
theorem nL_len (l : List Nat) : (nL l).length = l.length := List.length_map _
theorem nL_at {l : List Nat} {i a : Nat} (h : l[i]? = some a) : (nL l)[i]? = some (.int (a : Nat)) := by
  unfold nL
  rw [List.getElem?_map, h]
  rfl
def forBody : Stmt → List Stmt
  | .For _ _ b _ _ => b
  | _ => []
abbrev nAgr : List Str := ["_law_pool_here", "_law_field_here", "_law_k", "_law_r", "_law_data", "_law_word", "_law_gone", "_law_given", "_law_symbols", "_law_bound", "_law_at", "_law_places", "_law_changed", "_law_handed", "_law_x"]
theorem scAgr : FnScope nAgr ["_law_pool_here", "_law_field_here"] (defScope sAgrees) := ⟨rfl, rfl, rfl, by decide +kernel, rfl, by decide +kernel, by decide +kernel⟩
section
variable {P : Program} {w : World} {K : PySem.W.Frag} {mg : Str → Option Value} {base : Heap}
def spAgrees : Sp := fun vs H Q _ => ∃ (p c f : Addr), vs = [.ref p, .ref f] ∧ PoolAt H p c ∧ FieldAt H f ∧ f ≠ p ∧ ∀ H', SameB p H H' → PoolAt H' p c → Q (.bl true) H'
/-- the defs that a turn calls -/
structure Calls (P : Program) (w : World) (K : PySem.W.Frag) (mg : Str → Option Value) (base : Heap) (fT fSy fSh fTh fSo fTo fIs : Addr) (gT gSy gSh gTh gSo gTo gIs : FuncData) : Prop where
  take : Df P w K mg base CX0 2 "_law_take" ["_law_pool_here", "_law_many"] spTake fT gT
  symbol : Df P w K mg base CX0 3 "_law_symbol" ["_law_pool_here"] spSymbol fSy gSy
  shape : Df P w K mg base CX0 3 "_law_shape" ["_law_pool_here", "_law_most"] (spShape K) fSh gSh
  thru : Df P w K mg base CX0 1 "_law_through" ["_law_field_here", "_law_points", "_law_many"] (spThru K) fTh gTh
  some' : Df P w K mg base CX0 3 "_law_some" ["_law_pool_here", "_law_many", "_law_from_many"] spSome fSo gSo
  told : Df P w K mg base CX0 8 "_law_told" ["_law_symbols", "_law_k", "_law_named"] (spTold K) fTo gTo
  isTold : Df P w K mg base CX0 2 "_law_is_told" ["_law_told_here", "_law_word", "_law_places"] (spIsTold K) fIs gIs
theorem ok_agrees {f0 fT fSy fSh fTh fSo fTo fIs : Addr} {fd gT gSy gSh gTh gSo gTo gIs : FuncData} (F0 : Fun K "_law_agrees" "_law_agrees" sAgrees f0 fd) (D : Calls P w K mg base fT fSy fSh fTh fSo fTo fIs gT gSy gSh gTh gSo gTo gIs)
    (mr : mg "range" = none) (ml : mg "len" = none) (mli : mg "list" = none) (mt : mg "tuple" = none) : FnOk P w K mg base CX0 9 f0 fd ["_law_pool_here", "_law_field_here"] spAgrees := by
  refine F0.ok scAgr (fun vs H Q E h => ?_) (fun cdv A outer s H vs Q E hr h => ?_)
  · obtain ⟨p, c, f, rfl, _⟩ := h
    rfl
  · obtain ⟨p, c, f, rfl, hp, hf, hfp, kq⟩ := h
    have nd := scAgr.nd
    have hr1 : Room 1 _ := hr.mono (by decide)
    have hr2 : Room 2 _ := hr.mono (by decide)
    have hr3 : Room 3 _ := hr.mono (by decide)
    have hu64 := hr.units
    have tailC : ∃ tlC, PSs (cxOf CX0 P w K mg base nAgr "_law_agrees" (defScope sAgrees) f0 cdv A outer s H E).nox ((forBody ((defBody sAgrees).getD 10 sAgrees)).drop 3) tlC ∧
        ∀ (Dn : Ends) (H5 : Hp) (k r : Nat) (Da W Go Gv Sy Pl Cg Hd : Addr) (bd : Int) (v10 : Option V) (c' : List F) (gb : Nat → Bool) (val : Nat → F) (ch : List Nat), 1 ≤ k → k + r ≤ 16 → PoolAt H5 p c → SqT K H5 W (eL (wordL c' (k + r))) →
          H5 Sy = some (.lst ((syF (k + r) gb val).map oV)) → H5 Cg = some (.lst (nL ch)) → ch.Sublist (gvL (k + r) gb) → Chg (k + r) gb c' val ch → c'.length ≤ k → 2 * ch.length + k ≤ (gvL (k + r) gb).length → SqA K H5 Hd ((syF (k + r) gb val).map oV) →
          (∀ H9, SameB p H5 H9 → PoolAt H9 p c → Dn.nx [some (.ref p), some (.ref f), some (.int k), some (.int r), some (.ref Da), some (.ref W), some (.ref Go), some (.ref Gv), some (.ref Sy), some (.int bd), v10, some (.ref Pl), some (.ref Cg), some (.ref Hd), none] H9) →
          tlC Dn [some (.ref p), some (.ref f), some (.int k), some (.int r), some (.ref Da), some (.ref W), some (.ref Go), some (.ref Gv), some (.ref Sy), some (.int bd), v10, some (.ref Pl), some (.ref Cg), some (.ref Hd), none] H5 := by
      refine ⟨_, pss_one (ps_if (PW.pt (pw_or (pt_not (pt_val (pcall D.isTold hr2 (pa_cons (pcall D.told hr (pa_cons (pv 13) (pa_cons (pv 2) (pa_cons (pe_cmpR op_eq (pcall D.take hr2 (pa_cons (pv 0) (pa_cons pe_int pa_nil))) pe_int (nomark _)) pa_nil)))) (pa_cons (pv 5) (pa_cons (pv 12) pa_nil))))))
          (pw_or1 (pt_cmpR (op_neD hu64) (pe_callTy call_list_of (by rfl) mli (by decide +kernel) (pa_cons (pv 13) pa_nil)) (pv 8) (nomark _))))) (pss_one (ps_ret pe_bl)) pss_nil), ?_⟩
      intro Dn H5 k r Da W Go Gv Sy Pl Cg Hd bd v10 c' gb val ch k1 kr hp5 hW hSy hCg hsub hchg lc hb hHd kn
      have lsy : (syF (k + r) gb val).length = k + r := syF_len _ _ _
      have lch : ch.length ≤ 16 := Nat.le_trans hsub.length_le (Nat.le_trans (gv_len _ _) kr)
      have hchm : ∀ i ∈ ch, i < 128 := fun i hi => by have := (gv_mem.mp (hsub.subset hi)).1; omega
      refine ⟨_, rfl, _, rfl, _, rfl, p, c, 4, rfl, hp5, by decide, by decide, fun v H6 a6 b6 sm6 hp6 => ?_⟩
      refine ⟨rfl, Hd, k, _, syF (k + r) gb val, c', rfl, hHd.imp (sm6.sql hp5) (sm6.tup hp5), by rw [lsy]; exact kr, k1, fun _ => ⟨lc, by rw [bad_len hsub hchg, gp_len]; exact hb, fun t Wt Ch e H7 sm7 ht he hWt hCh => ?_⟩, fun hk => ?_⟩
      · rw [lsy] at hWt
        rw [bad_fst hsub hchg] at hCh
        have sm57 := sm6.trans (same_toB sm7)
        have hCg7 := sm57.lst hp5 hCg
        rw [nL_eL hchm] at hCg7
        refine ⟨_, rfl, _, rfl, t, W, Cg, e, Wt, Ch, _, _, rfl, ht, he, hWt, sm57.tup hp5 hW, hCh, SqL.of hCg7, ?_, ?_, fun H8 sm8 => ?_⟩
        · rw [wordL_length]
          omega
        · rw [List.length_map]
          omega
        have sm58 := sm57.trans (same_toB sm8)
        refine ⟨_, rfl, iteF ?_⟩
        refine ⟨_, rfl, Hd, _, rfl, hHd.imp (sm58.sql hp5) (sm58.tup hp5), fun l hl => ?_⟩
        have s9 := same_upd (o := .lst ((syF (k + r) gb val).map oV)) hl
        refine ⟨_, rfl, _, _, .lst (SqL.of upd_same) (dpAll_sy _), .lst (SqL.of (s9 _ _ (sm58.lst hp5 hSy))) (dpAll_sy _), shaped_sy _, shaped_sy _, _, rfl, iteNot ?_ ?_⟩
        · show (!PyData.eqvAll _ _) = false
          rw [eqv_sy]
          rfl
        · exact kn _ (sm58.trans (same_toB s9)) ((hp6.same sm7).same sm8 |>.same s9)
      · rw [gp_len] at hk
        omega
    obtain ⟨tlC, hC, keyC⟩ := tailC
    have tailB : ∃ tlB, PSs (cxOf CX0 P w K mg base nAgr "_law_agrees" (defScope sAgrees) f0 cdv A outer s H E).nox ((forBody ((defBody sAgrees).getD 10 sAgrees)).drop 1) tlB ∧
        ∀ (Dn : Ends) (H5 : Hp) (k r : Nat) (Da W Go Gv Sy Pl Cg : Addr) (bd : Int) (v10 v13 : Option V) (c' : List F) (gb : Nat → Bool) (val : Nat → F) (ch : List Nat), 1 ≤ k → k + r ≤ 16 → PoolAt H5 p c → SqT K H5 W (eL (wordL c' (k + r))) →
          H5 Sy = some (.lst ((syF (k + r) gb val).map oV)) → H5 Cg = some (.lst (nL ch)) → ch.Sublist (gvL (k + r) gb) → Chg (k + r) gb c' val ch → c'.length ≤ k → 2 * ch.length + k ≤ (gvL (k + r) gb).length →
          (∀ H9 Hd, SameB p H5 H9 → PoolAt H9 p c → Dn.nx [some (.ref p), some (.ref f), some (.int k), some (.int r), some (.ref Da), some (.ref W), some (.ref Go), some (.ref Gv), some (.ref Sy), some (.int bd), v10, some (.ref Pl), some (.ref Cg), some (.ref Hd), none] H9) →
          tlB Dn [some (.ref p), some (.ref f), some (.int k), some (.int r), some (.ref Da), some (.ref W), some (.ref Go), some (.ref Gv), some (.ref Sy), some (.int bd), v10, some (.ref Pl), some (.ref Cg), v13, none] H5 := by
      refine ⟨_, pss_cons (ps_set (i := 13) nd rfl (.inl rfl) (pe_callTy call_list_of (by rfl) mli (by decide +kernel) (pa_cons (pv 8) pa_nil)))
        (pss_cons (ps_if (pt_cmpR op_eq (pcall D.take hr2 (pa_cons (pv 0) (pa_cons pe_int pa_nil))) pe_int (nomark _)) (pss_one (ps_set (i := 13) nd rfl (.inl rfl) (pe_callTy call_tuple_of (by rfl) mt (by decide +kernel) (pa_cons (pv 8) pa_nil)))) pss_nil)
        hC), ?_⟩
      intro Dn H5 k r Da W Go Gv Sy Pl Cg bd v10 v13 c' gb val ch k1 kr hp5 hW hSy hCg hsub hchg lc hb kn
      refine ⟨_, rfl, Sy, _, rfl, .inl (SqL.of hSy), fun Hd hHd => ?_⟩
      have s1 := same_upd (o := .lst ((syF (k + r) gb val).map oV)) hHd
      refine ⟨_, rfl, p, c, 2, rfl, hp5.same s1, by decide, by decide, fun v H6 a6 b6 sm6 hp6 => ?_⟩
      have sm56 := (same_toB s1).trans sm6
      have hSy6 := sm56.lst hp5 hSy
      refine ⟨rfl, _, rfl, dec_case (fun _ => ?_) (fun _ => ?_)⟩
      · refine ⟨_, rfl, Sy, _, rfl, .inl ⟨SqL.of hSy6, fun l hl => ?_⟩⟩
        have s7 := same_upd (o := .tup ((syF (k + r) gb val).map oV)) hl
        have sm57 := sm56.trans (same_toB s7)
        exact keyC Dn _ k r Da W Go Gv Sy Pl Cg l bd v10 c' gb val ch k1 kr (hp6.same s7) (sm57.tup hp5 hW) (sm57.lst hp5 hSy) (sm57.lst hp5 hCg) hsub hchg lc hb (.inr (SqT.of upd_same)) fun H9 sm9 hp9 => kn H9 l (sm57.trans sm9) hp9
      · exact keyC Dn _ k r Da W Go Gv Sy Pl Cg Hd bd v10 c' gb val ch k1 kr hp6 (sm56.tup hp5 hW) hSy6 (sm56.lst hp5 hCg) hsub hchg lc hb (.inl (SqL.of (sm6.lst (hp5.same s1) upd_same))) fun H9 sm9 hp9 => kn H9 Hd (sm56.trans sm9) hp9
    obtain ⟨tlB, hB, keyB⟩ := tailB
    refine ⟨_, pss_cons (ps_asg (pcall D.shape hr3 (pa_cons (pv 0) (pa_cons pe_int pa_nil))) (pg_tup rfl (pgs_cons (pg_name (i := 2) nd rfl (.inl rfl)) (pgs_cons (pg_name (i := 3) nd rfl (.inl rfl)) pgs_nil))))
      (pss_cons (ps_setLc (i := 4) (own := [("_law_x", 14)]) (g := gName 14) (tt := tYes) rfl nd rfl rfl (sw_true rfl rfl rfl (by decide +kernel)) (pi_range1 rfl mr (pa_cons (pv 2) pa_nil))
        (blkOk_by (N := nAgr) (sc := defScope sAgrees) (by decide +kernel)) (fun _ _ _ _ _ => pg_name (i := 14) nd rfl (Or.inl rfl)) (fun _ _ _ _ _ => pts_nil)
        (fun _ _ _ _ _ => pe_tup (pa_cons (pv 14) (pa_cons (pcall D.symbol hr3 (pa_cons (pv 0) pa_nil)) pa_nil))))
      (pss_cons (ps_set (i := 5) nd rfl (.inr rfl) (pcall D.thru hr1 (pa_cons (pv 1) (pa_cons (pv 4) (pa_cons (pe_op op_add (pv 2) (pv 3)) pa_nil)))))
      (pss_cons (ps_set (i := 6) nd rfl (.inr rfl) (pcall D.some' hr3 (pa_cons (pv 0) (pa_cons (pe_ix ix_list (pe_lst (pa_cons pe_int (pa_cons pe_int (pa_cons (pcall D.take hr2 (pa_cons (pv 0) (pa_cons (pe_op op_add (pv 3) pe_int) pa_nil))) (pa_cons (pcall D.take hr2 (pa_cons (pv 0) (pa_cons (pe_op op_add (pe_op op_add (pv 2) (pv 3)) pe_int) pa_nil))) pa_nil)))))
          (pcall D.take hr2 (pa_cons (pv 0) (pa_cons pe_int pa_nil))) (fun _ _ => rfl)) (pa_cons (pe_op op_add (pv 2) (pv 3)) pa_nil)))))
      (pss_cons (ps_set (i := 7) nd rfl (.inr rfl) (pe_lc (own := [("_law_x", 14)]) (g := gName 14) (tt := tTest (tOp (rIn K true) (tVar 14) (tVar 6))) rfl nd (pi_range1 rfl mr (pa_cons (pe_op op_add (pv 2) (pv 3)) pa_nil))
        (blkOk_by (N := nAgr) (sc := defScope sAgrees) (by decide +kernel)) (fun _ _ _ _ _ => pg_name (i := 14) nd rfl (Or.inl rfl)) (fun _ _ _ _ _ => pts_one (pt_cmpR op_notIn_seq (pv 14) (pv 6) (by rfl))) (fun _ _ _ _ _ => pv 14)))
      (pss_cons (ps_setLc (i := 8) (own := [("_law_x", 14)]) (g := gName 14) (tt := tYes) (te := tIf (tTest (tOp (rIn K false) (tVar 14) (tVar 7))) (tOp (rIxT K) (tVar 5) (tVar 14)) (tC .non)) rfl nd rfl rfl (sw_true rfl rfl rfl (by decide +kernel)) (pi_range1 rfl mr (pa_cons (pe_op op_add (pv 2) (pv 3)) pa_nil))
        (blkOk_by (N := nAgr) (sc := defScope sAgrees) (by decide +kernel)) (fun _ _ _ _ _ => pg_name (i := 14) nd rfl (Or.inl rfl)) (fun _ _ _ _ _ => pts_nil)
        (fun _ _ _ _ _ => pe_ifExp (pt_cmpR op_in_seq (pv 14) (pv 7) (by rfl)) (pe_ix ix_tup (pv 5) (pv 14) (fun _ _ => rfl)) pe_non))
      (pss_cons (ps_if (pt_cmpR op_lt (pe_callB call_len_seq (by rfl) ml PySem.boot_len (pa_cons (pv 7) pa_nil)) (pv 2) (nomark _))
        (pss_one (ps_ret (pe_cmpR (op_eqD hu64) (pcall D.told hr (pa_cons (pv 8) (pa_cons (pv 2) (pa_cons pe_bl pa_nil)))) (pe_tup (pa_cons pe_str (pa_cons (pe_lst (pa_cons pe_bl (pa_cons pe_str pa_nil))) pa_nil))) (nomark _)))) pss_nil)
      (pss_cons (ps_set (i := 9) nd rfl (.inl rfl) (pe_op op_fdiv (pe_op op_sub (pe_callB call_len_seq (by rfl) ml PySem.boot_len (pa_cons (pv 7) pa_nil)) (pv 2)) pe_int))
      (pss_cons (ps_setLc (i := 11) (own := [("_law_at", 10)]) (g := gName 10) (tt := tYes) (te := tOp (rIxL K) (tVar 7) (tVar 10)) rfl nd rfl rfl (sw_true rfl rfl rfl (by decide +kernel))
        (pi_list (pcall D.some' hr3 (pa_cons (pv 0) (pa_cons (pe_ix ix_list (pe_lst (pa_cons (pv 9) (pa_cons (pcall D.take hr2 (pa_cons (pv 0) (pa_cons (pe_op op_add (pv 9) pe_int) pa_nil))) pa_nil))) (pcall D.take hr2 (pa_cons (pv 0) (pa_cons pe_int pa_nil))) (fun _ _ => rfl))
          (pa_cons (pe_callB call_len_seq (by rfl) ml PySem.boot_len (pa_cons (pv 7) pa_nil)) pa_nil)))))
        (blkOk_by (N := nAgr) (sc := defScope sAgrees) (by decide +kernel)) (fun _ _ _ _ _ => pg_name (i := 10) nd rfl (Or.inl rfl)) (fun _ _ _ _ _ => pts_nil) (fun _ _ _ _ _ => pe_ix ix_list (pv 7) (pv 10) (fun _ _ => rfl)))
      (pss_cons (ps_set (i := 12) nd rfl (.inl rfl) (pe_lst pa_nil))
      (pss_cons (ps_for PassesOwn.never rfl (pi_list (pe_op op_cat (pe_lst (pa_cons (pe_un un_neg pe_int) pa_nil)) (pv 11))) (pg_name (i := 10) nd rfl (.inl rfl))
        (pss_cons (ps_if (pt_cmpR op_ge (pv 10) pe_int (nomark _))
          (pss_cons (ps_expr (pe_bm PySem.F.plainAttrs_list PySem.F.slot_list_append PySem.F.type_list_append mt_append (pv 12) (pa_cons (pv 10) pa_nil)))
          (pss_one (ps_asg (pe_op op_xor (pe_ix ix_list (pv 8) (pv 10) (fun _ _ => rfl)) (pe_op op_add pe_int (pcall D.take hr2 (pa_cons (pv 0) (pa_cons pe_int pa_nil))))) (pg_sub (pv 8) (pv 10) set_list)))) pss_nil)
        hB))
      (pss_one (ps_ret pe_bl)))))))))))), ?_⟩
    -- k, r
    refine ⟨_, rfl, p, c, rfl, hp, fun k r t H1 k1 kr sm1 hp1 ht => ?_⟩
    refine ⟨t, _, rfl, ht, rfl, _, _, rfl, _, _, rfl, rfl, ?_⟩
    -- data
    refine ⟨_, rfl, _, rfl, by omega, by omega, fun Da hDa => ?_⟩
    obtain ⟨hDap, hDac⟩ := hp1.nep hDa
    rw [Int.toNat_natCast]
    refine lc_range (lo := 0) (n := k) (fun i H' => SameB p H1 H' ∧ PoolAt H' p c ∧ ∃ (pts : List (F × F)) (ts : List Addr), pts.map (·.1) = (List.range i).map fN ∧ H' Da = some (.lst (ts.map V.ref)) ∧ ts.length = pts.length ∧ ∀ (j : Nat) (t : Addr) (q : F × F), ts[j]? = some t → pts[j]? = some q → SqT K H' t [e1 q.1, e1 q.2])
      ⟨same_toB (same_upd hDa), hp1.same (same_upd hDa), [], [], rfl, upd_same, rfl, fun j t q h => nomatch h⟩ (fun i H' hi hP => ?_) (fun H2 hP => ?_)
    · obtain ⟨sm, hq, pts, ts, e0, hD, hlen, htt⟩ := hP
      refine ⟨rfl, ?_⟩
      refine ⟨_, rfl, _, rfl, p, c, rfl, hq, fun z H3 sm3 hq3 => ⟨by show 2 ≤ sizeLine; decide, fun tt htt' => ?_⟩⟩
      have s4 := same_upd (o := .tup [.int (0 + (i : Int)), e1 z]) htt'
      have sm34 := sm3.trans (same_toB s4)
      have hD4 := sm34.lst hq hD
      have hl : pts.length = i := by
        have := congrArg List.length e0
        rw [List.length_map, List.length_map, List.length_range] at this
        exact this
      refine ⟨_, hD4, by rw [List.length_map, hlen, hl]; exact small1000 (by omega), sameB_mut (sm.trans sm34) hDa, (hq3.same s4).upd hDap hDac, pts ++ [(fN i, z)], ts ++ [tt], ?_, ?_, ?_, fun j t q h1 h2 => ?_⟩
      · rw [List.map_append, e0, List.range_succ, List.map_append]
        rfl
      · rw [upd_same, List.map_append]
        rfl
      · rw [List.length_append, List.length_append, hlen]
        rfl
      · refine sq_upd_lst ?_ hD4
        by_cases hj : j < ts.length
        · rw [List.getElem?_append_left hj] at h1
          rw [List.getElem?_append_left (by omega)] at h2
          exact sm34.tup hq (htt j t q h1 h2)
        · have ej : j = ts.length := by
            have := (List.getElem?_eq_some_iff.mp h1).1
            rw [List.length_append] at this
            simp only [List.length_cons, List.length_nil] at this
            omega
          subst ej
          rw [List.getElem?_append_right (Nat.le_refl _), Nat.sub_self] at h1
          rw [hlen, List.getElem?_append_right (Nat.le_refl _), Nat.sub_self] at h2
          cases h1
          cases h2
          show SqT K _ tt [e1 (fN i), e1 z]
          rw [show [e1 (fN i), e1 z] = [V.int (0 + (i : Int)), e1 z] by rw [e1_fN (by omega), Int.zero_add]]
          exact SqT.of upd_same
    obtain ⟨sm2, hp2, pts, ts, e0, hD2, hlen, htt⟩ := hP
    have hP2 : PtsAt K H2 Da pts := ⟨ts, SqL.of hD2, hlen, htt⟩
    have lpts : pts.length = k := by
      have := congrArg List.length e0
      rw [List.length_map, List.length_map, List.length_range] at this
      exact this
    have smH2 := sm1.trans sm2
    have hnd : (pts.map (·.1)).Nodup := by
      rw [e0]
      exact fN_nodup (by omega)
    -- word
    refine ⟨_, rfl, _, rfl, _, rfl, _, rfl, _, _, rfl, rfl, f, Da, k + r, pts, rfl, hf.sameB smH2 hp hfp, hP2, hnd, by omega, kr, fun c' W H3 sm3 lc hW3 => ?_⟩
    have smH3 := smH2.trans (same_toB sm3)
    have hp3 := hp2.same sm3
    -- gone
    refine ⟨_, rfl, _, rfl, _, rfl, _, _, rfl, rfl, p, c, _, rfl, hp3, by omega, by omega, fun g1 H4 a4 b4 sm4 hp4 => ?_⟩
    refine ⟨_, rfl, _, rfl, _, rfl, _, _, rfl, rfl, _, _, rfl, rfl, p, c, _, rfl, hp4, by omega, by omega, fun g2 H5 a5 b5 sm5 hp5 => ?_⟩
    refine ⟨by show 4 ≤ sizeLine; decide, fun l hl => ?_⟩
    have s6 := same_upd (o := .lst [V.int 0, .int 0, .int g1, .int g2]) hl
    refine ⟨_, rfl, p, c, 4, rfl, hp5.same s6, by decide, by decide, fun g3 H6 a6 b6 sm6 hp6 => ?_⟩
    have hL6 := sm6.lst (hp5.same s6) (xs := [V.int 0, .int 0, .int g1, .int g2]) upd_same
    have hm : ∃ m : Nat, atI [V.int 0, .int 0, .int g1, .int g2] g3 = some (.int m) ∧ m ≤ k + r := by
      rcases (show g3 = 0 ∨ g3 = 1 ∨ g3 = 2 ∨ g3 = 3 by omega) with rfl | rfl | rfl | rfl
      · exact ⟨0, rfl, by omega⟩
      · exact ⟨0, rfl, by omega⟩
      · exact ⟨g1.toNat, by show some (V.int _) = some (V.int _); congr 2; omega, by omega⟩
      · exact ⟨g2.toNat, by show some (V.int _) = some (V.int _); congr 2; omega, by omega⟩
    obtain ⟨m, hat, hmk⟩ := hm
    refine ⟨l, _, _, _, rfl, rfl, SqL.of hL6, hat, _, rfl, _, rfl, _, _, rfl, rfl, p, c, m, k + r, rfl, hp6, hmk, kr, fun sel Go H7 hsel hsl sm7 hp7 hGo => ?_⟩
    have sm37 := sm4.trans (sm5.trans ((same_toB s6).trans (sm6.trans sm7)))
    have smH7 := smH3.trans sm37
    have hW7 := sm37.tup hp3 hW3
    -- given
    refine ⟨_, rfl, _, rfl, _, _, rfl, rfl, _, rfl, by omega, by omega, fun Gv hGv => ?_⟩
    obtain ⟨hGvp, hGvc⟩ := hp7.nep hGv
    generalize hgb : (fun j : Nat => !decide (j ∈ sel)) = gb
    refine lc_range (lo := 0) (n := k + r) (fun i H' => Same H7 H' ∧ H' Gv = some (.lst (nL ((List.range i).filter gb)))) ⟨same_upd hGv, upd_same⟩ (fun i H' hi hP => ?_) (fun H8 hP => ?_)
    · obtain ⟨sm, hd⟩ := hP
      refine ⟨rfl, ?_⟩
      show tTest (tOp (rIn K true) (tVar 14) (tVar 6)) [some (.ref p), some (.ref f), some (.int k), some (.int r), some (.ref Da), some (.ref W), some (.ref Go), none, none, none, none, none, none, none, some (.int (0 + (i : Int)))] _ _
      rw [Int.zero_add]
      refine ⟨_, rfl, _, rfl, Go, _, rfl, .inl (SqL.of (sm _ _ hGo)), rfl, flat_nL sel, _, rfl, ?_⟩
      show if (!inV (V.int (i : Int)) (nL sel)) = true then _ else _
      rw [inV_nL, show (!decide (i ∈ sel)) = gb i by rw [← hgb]]
      rw [List.range_succ, List.filter_append, List.filter_cons]
      cases hb : gb i with
      | true =>
        refine iteT ⟨_, rfl, _, hd, ?_, same_mut sm hGv, ?_⟩
        · rw [nL_len]
          refine small1000 (Nat.le_trans (List.length_filter_le _ _) ?_)
          rw [List.length_range]
          omega
        · rw [upd_same, if_pos rfl, List.filter_nil, nL_snoc]
      | false =>
        refine iteF ⟨sm, ?_⟩
        rw [if_neg Bool.false_ne_true, List.filter_nil, List.append_nil]
        exact hd
    obtain ⟨sm8, hGv8⟩ := hP
    have hGv8 : H8 Gv = some (.lst (nL (gvL (k + r) gb))) := hGv8
    have hp8 := hp7.same sm8
    have hW8 := same_tup sm8 hW7
    have smH8 := smH7.trans (same_toB sm8)
    have lgv : (gvL (k + r) gb).length ≤ 16 := Nat.le_trans (gv_len _ _) kr
    -- symbols
    refine ⟨_, rfl, _, rfl, _, _, rfl, rfl, _, rfl, by omega, by omega, fun Sy hSy => ?_⟩
    refine lc_range (lo := 0) (n := k + r) (fun i H' => Same H8 H' ∧ H' Sy = some (.lst ((syF i gb fun j => ev c' (fN j)).map oV))) ⟨same_upd hSy, upd_same⟩ (fun i H' hi hP => ?_) (fun H9 hP => ?_)
    · obtain ⟨sm, hd⟩ := hP
      refine ⟨rfl, ?_⟩
      show tIf (tTest (tOp (rIn K false) (tVar 14) (tVar 7))) (tOp (rIxT K) (tVar 5) (tVar 14)) (tC .non) [some (.ref p), some (.ref f), some (.int k), some (.int r), some (.ref Da), some (.ref W), some (.ref Go), some (.ref Gv), none, none, none, none, none, none, some (.int (0 + (i : Int)))] _ _
      rw [Int.zero_add]
      refine ⟨_, rfl, _, rfl, Gv, _, rfl, .inl (SqL.of (sm _ _ hGv8)), rfl, flat_nL _, _, rfl, ?_⟩
      show if inV (V.int (i : Int)) (nL (gvL (k + r) gb)) = true then _ else _
      rw [inV_nL, show decide (i ∈ gvL (k + r) gb) = gb i by rw [Bool.eq_iff_iff, decide_eq_true_eq, gv_mem]; exact ⟨fun z => z.2, fun z => ⟨hi, z⟩⟩]
      have hsn : (syF (i + 1) gb fun j => ev c' (fN j)).map oV = (syF i gb fun j => ev c' (fN j)).map oV ++ [oV (if gb i = true then some (ev c' (fN i)) else none)] := by
        unfold syF
        rw [List.range_succ, List.map_append, List.map_append]
        rfl
      have hln : ((syF i gb fun j => ev c' (fN j)).map oV).length < sizeLine := by
        rw [List.length_map, syF_len]
        exact small1000 (by omega)
      cases hb : gb i with
      | true =>
        rw [hb, if_pos rfl] at hsn
        refine iteT ⟨_, rfl, _, rfl, W, _, _, _, rfl, rfl, same_tup sm hW8, at_eL (j := i) rfl (by rw [wordL_length]; exact hi), _, hd, hln, same_mut sm hSy, ?_⟩
        rw [upd_same, hsn, wordL_co hi]
        rfl
      | false =>
        rw [hb, if_neg Bool.false_ne_true] at hsn
        refine iteF ⟨_, hd, hln, same_mut sm hSy, ?_⟩
        rw [upd_same, hsn]
        rfl
    obtain ⟨sm9, hSy9⟩ := hP
    have hp9 := hp8.same sm9
    have smH9 := smH8.trans (same_toB sm9)
    have hGv9 := sm9 _ _ hGv8
    have hW9 := same_tup sm9 hW8
    -- lost?
    refine ⟨_, rfl, Gv, _, rfl, .inl (SqL.of hGv9), _, rfl, _, _, rfl, rfl, _, rfl, dec_case (fun hlt => ?_) (fun hge => ?_)⟩
    · rw [nL_len] at hlt
      refine ⟨_, rfl, _, rfl, Sy, k, true, syF (k + r) gb fun j => ev c' (fN j), [], rfl, .inl (SqL.of hSy9), by rw [syF_len]; exact kr, k1, fun hk => ?_, fun _ tt l2 H10 sm10 htt hl2 => ?_⟩
      · rw [gp_len] at hk
        omega
      · refine ⟨by show 2 ≤ sizeLine; decide, fun l3 hl3 => ⟨by show 2 ≤ sizeLine; decide, fun t3 ht3 => ?_⟩⟩
        have s11 := same_upd (o := .lst [.bl true, .str "lost"]) hl3
        have s12 := same_upd (o := .tup [.str "beyond", .ref l3]) ht3
        have s1 := sm10.trans (s11.trans s12)
        refine ⟨.tuple [.str "beyond", .list [.bool true, .str "lost"]], .tuple [.str "beyond", .list [.bool true, .str "lost"]], .tup (same_tup (s11.trans s12) htt) (.cons (.str _) (.cons (.lst (SqL.of ((s11.trans s12) _ _ hl2)) (.cons (.bl _) (.cons (.str _) .nil))) .nil)),
          .tup (SqT.of upd_same) (.cons (.str _) (.cons (.lst (SqL.of (s12 _ _ upd_same)) (.cons (.bl _) (.cons (.str _) .nil))) .nil)), by decide +kernel, by decide +kernel, ?_⟩
        exact kq _ (smH9.trans (same_toB s1)) (hp9.same s1)
    · rw [nL_len] at hge
      refine ⟨_, rfl, Gv, _, rfl, .inl (SqL.of hGv9), _, rfl, _, _, rfl, rfl, _, _, rfl, rfl, ⟨by decide, by decide⟩, ?_⟩
      obtain ⟨bd, hbd⟩ : ∃ bd : Nat, (((nL (gvL (k + r) gb)).length : Int) - (k : Int)) / 2 = (bd : Int) := ⟨((((nL (gvL (k + r) gb)).length : Int) - (k : Int)) / 2).toNat, by rw [nL_len]; omega⟩
      show gName 9 (V.int ((((nL (gvL (k + r) gb)).length : Int) - (k : Int)) / 2)) _ _ _
      rw [hbd]
      rw [nL_len] at hbd
      have hbd2 : 2 * bd + k ≤ (gvL (k + r) gb).length := by omega
      -- places
      refine ⟨_, rfl, _, rfl, _, rfl, _, rfl, _, _, rfl, rfl, p, c, _, rfl, hp9, by omega, by omega, fun b1 H10 a10 b10 sm10 hp10 => ?_⟩
      refine ⟨by show 2 ≤ sizeLine; decide, fun l2 hl2 => ?_⟩
      have s11 := same_upd (o := .lst [V.int bd, .int b1]) hl2
      refine ⟨_, rfl, p, c, 2, rfl, hp10.same s11, by decide, by decide, fun b2 H12 a12 b12 sm12 hp12 => ?_⟩
      have hL12 := sm12.lst (hp10.same s11) (xs := [V.int bd, .int b1]) upd_same
      have hm2 : ∃ m : Nat, atI [V.int bd, .int b1] b2 = some (.int m) ∧ m ≤ bd := by
        rcases (show b2 = 0 ∨ b2 = 1 by omega) with rfl | rfl
        · exact ⟨bd, rfl, by omega⟩
        · exact ⟨b1.toNat, by show some (V.int _) = some (V.int _); congr 2; omega, by omega⟩
      obtain ⟨m2, hat2, hm2⟩ := hm2
      have sm912 := sm10.trans ((same_toB s11).trans sm12)
      have hGv12 := sm912.lst hp9 hGv9
      refine ⟨l2, _, _, _, rfl, rfl, SqL.of hL12, hat2, _, rfl, Gv, _, rfl, .inl (SqL.of hGv12), p, c, m2, (gvL (k + r) gb).length, congrArg (fun z : Nat => [V.ref p, .int (m2 : Int), .int (z : Int)]) (nL_len _), hp12, by omega, lgv, fun sel2 Ls H13 hsel2 hsl2 sm13 hp13 hLs => ?_⟩
      have sm913 := sm912.trans sm13
      have hGv13 := sm913.lst hp9 hGv9
      have hSy13 := sm913.lst hp9 hSy9
      have hW13 := sm913.tup hp9 hW9
      have smH13 := smH9.trans sm913
      refine ⟨Ls, rfl, ⟨_, SqL.of hLs⟩, fun Pl hPl => ?_⟩
      generalize hpl : (sel2.map fun j => (gvL (k + r) gb).getD j 0) = pl
      have lpl : pl.length = sel2.length := by rw [← hpl, List.length_map]
      have hplsub : pl.Sublist (gvL (k + r) gb) := by rw [← hpl]; exact pick_sub hsel2
      refine lc_list (xs := nL sel2) (fun i H' => Same H13 H' ∧ H' Pl = some (.lst (nL (pl.take i)))) ⟨same_upd hPl, upd_same⟩ (fun i H' _ hP => SqL.of (hP.1 _ _ hLs)) (fun i y H' hy hP => ?_) (fun H14 hP => ?_)
      · obtain ⟨sm, hd⟩ := hP
        have hi : i < sel2.length := by
          have := (List.getElem?_eq_some_iff.mp hy).1
          rw [nL_len] at this
          exact this
        obtain ⟨a, ha⟩ : ∃ a, sel2[i]? = some a := ⟨_, List.getElem?_eq_getElem hi⟩
        rw [nL_at ha] at hy
        cases hy
        have hla : a < (gvL (k + r) gb).length := List.mem_range.mp (hsel2.subset (List.mem_of_getElem? ha))
        have hga : (gvL (k + r) gb)[a]? = some ((gvL (k + r) gb).getD a 0) := by
          rw [List.getD_eq_getElem?_getD, List.getElem?_eq_getElem hla]
          rfl
        refine ⟨rfl, ?_⟩
        refine ⟨_, rfl, _, rfl, Gv, _, _, _, rfl, rfl, SqL.of (sm _ _ hGv13), atI_nat (j := a) (nL_at hga), _, hd, ?_, same_mut sm hPl, ?_⟩
        · rw [nL_len, List.length_take]
          exact small1000 (by omega)
        · have hpi : pl[i]? = some ((gvL (k + r) gb).getD a 0) := by rw [← hpl, List.getElem?_map, ha]; rfl
          rw [upd_same, take_snoc hpi, nL_snoc]
      obtain ⟨sm14, hPl14⟩ := hP
      rw [nL_len, ← lpl, List.take_length] at hPl14
      have hp14 := hp13.same sm14
      have smH14 := smH13.trans (same_toB sm14)
      have hSy14 := sm14 _ _ hSy13
      have hW14 := same_tup sm14 hW13
      -- changed
      refine ⟨Nat.zero_le _, fun Cg hCg => ?_⟩
      have s15 := same_upd (o := .lst []) hCg
      refine ⟨1, rfl, by show 1 ≤ sizeLine; decide, fun l0 hl0 => ?_⟩
      have s16 := same_upd (o := .lst [V.int (-1)]) hl0
      have s1416 := s15.trans s16
      refine ⟨_, rfl, l0, Pl, _, _, rfl, rfl, upd_same, s1416 _ _ hPl14, ?_, fun It hIt => ?_⟩
      · rw [nL_len]
        exact Nat.le_of_lt (small1000 (by show 1 + _ ≤ 1000; omega))
      have s17 := same_upd (o := .lst ([V.int (-1)] ++ nL pl)) hIt
      have s1417 := s1416.trans s17
      have hCg17 := (s16.trans s17) _ _ (show (upd H14 Cg (.lst [])) Cg = some (.lst []) from upd_same)
      have hSy17 := s1417 _ _ hSy14
      have nSyCg : Sy ≠ Cg := ne_of_none hSy14 hCg
      have nSyIt : Sy ≠ It := ne_of_none (s1416 _ _ hSy14) hIt
      have nCgIt : Cg ≠ It := ne_of_none (s16 _ _ (show (upd H14 Cg (.lst [])) Cg = some (.lst []) from upd_same)) hIt
      have hSyH8 : H8 Sy = none := hSy
      obtain ⟨hSyp, hSyc⟩ := hp8.nep hSyH8
      obtain ⟨hCgp, hCgc⟩ := hp14.nep hCg
      have sm814 := ((same_toB (p := p) sm9).trans sm913).trans (same_toB sm14)
      have hCgH8 : H8 Cg = none := sm814.free hCgp hCg
      have plm : ∀ {j a : Nat}, pl[j]? = some a → a < k + r ∧ gb a = true := fun h => gv_mem.mp (hplsub.subset (List.mem_of_getElem? h))
      have pnd : pl.Nodup := (gv_nodup _ _).sublist hplsub
      have lpb : pl.length ≤ bd := by omega
      refine ⟨It, rfl, ⟨_, SqL.of upd_same⟩, ?_⟩
      refine for_list (xs := [V.int (-1)] ++ nL pl) (fun i σ H' => ∃ (v10 v13 : Option V) (val : Nat → F), σ = [some (.ref p), some (.ref f), some (.int k), some (.int r), some (.ref Da), some (.ref W), some (.ref Go), some (.ref Gv), some (.ref Sy), some (.int bd), v10, some (.ref Pl), some (.ref Cg), v13, none] ∧
          SameB p H8 H' ∧ PoolAt H' p c ∧ H' It = some (.lst ([V.int (-1)] ++ nL pl)) ∧ H' Sy = some (.lst ((syF (k + r) gb val).map oV)) ∧ H' Cg = some (.lst (nL (pl.take (i - 1)))) ∧ Chg (k + r) gb c' val (pl.take (i - 1)))
        ⟨none, none, _, rfl, sm814.trans (same_toB s1417), hp14.same s1417, upd_same, hSy17, hCg17, Chg.start _ _ _⟩ (fun i σ H' _ hP => ?_) (fun i y σ H' hy hP => ?_) (fun σ H' hP => ?_)
      · obtain ⟨_, _, _, _, _, _, hIt', _⟩ := hP
        exact SqL.of hIt'
      · obtain ⟨v10, v13, val, rfl, smB, hpB, hItB, hSyB, hCgB, hch⟩ := hP
        cases i with
        | zero =>
          cases hy
          refine ⟨_, rfl, _, _, rfl, rfl, _, rfl, dec_false (by decide) ?_⟩
          refine keyB _ H' k r Da W Go Gv Sy Pl Cg bd _ v13 c' gb val (pl.take 0) k1 kr hpB (smB.tup hp8 hW8) hSyB hCgB ((List.take_sublist _ _).trans hplsub) hch (by omega) ?_ fun H19 Hd sm19 hp19 => ?_
          · rw [List.take_zero]
            show 2 * 0 + k ≤ _
            omega
          · exact ⟨_, _, val, rfl, smB.trans sm19, hp19, sm19.lst hpB hItB, sm19.lst hpB hSyB, sm19.lst hpB hCgB, hch⟩
        | succ j =>
          have hj : j < pl.length := by
            have := (List.getElem?_eq_some_iff.mp hy).1
            rw [List.length_append, nL_len] at this
            simp only [List.length_cons, List.length_nil] at this
            omega
          obtain ⟨a, ha⟩ : ∃ a, pl[j]? = some a := ⟨_, List.getElem?_eq_getElem hj⟩
          have hy2 : ([V.int (-1)] ++ nL pl)[j + 1]? = some (.int (a : Nat)) := nL_at ha
          rw [hy2] at hy
          cases hy
          obtain ⟨han, hga⟩ := plm ha
          have hch0 : Chg (k + r) gb c' val (pl.take j) := hch
          have hCg0 : H' Cg = some (.lst (nL (pl.take j))) := hCgB
          have hna : a ∉ pl.take j := not_mem_take pnd ha
          have hva : ev c' (fN a) = val a := Classical.byContradiction fun z => hna ((hch0 a han hga).mp z)
          refine ⟨_, rfl, _, _, rfl, rfl, _, rfl, dec_true (by show (0 : Int) ≤ (a : Nat); omega) ?_⟩
          refine ⟨_, rfl, .inl ⟨rfl, _, SqL.of hCg0⟩, _, rfl, Cg, _, _, rfl, rfl, hCg0, by rw [nL_len, List.length_take]; exact small1000 (by omega), ?_⟩
          have smC := sameB_mut (o := .lst (nL (pl.take j) ++ [.int (a : Nat)])) smB hCgH8
          have hpC := hpB.upd (o := .lst (nL (pl.take j) ++ [.int (a : Nat)])) hCgp hCgc
          have hSyC : (upd H' Cg (.lst (nL (pl.take j) ++ [.int (a : Nat)]))) Sy = some (.lst ((syF (k + r) gb val).map oV)) := by rw [upd_ne nSyCg]; exact hSyB
          have hItC : (upd H' Cg (.lst (nL (pl.take j) ++ [.int (a : Nat)]))) It = some (.lst ([V.int (-1)] ++ nL pl)) := by rw [upd_ne (Ne.symm nCgIt)]; exact hItB
          have hCgC : (upd H' Cg (.lst (nL (pl.take j) ++ [.int (a : Nat)]))) Cg = some (.lst (nL (pl.take (j + 1)))) := by rw [upd_same, take_snoc ha, nL_snoc]
          generalize (upd H' Cg (.lst (nL (pl.take j) ++ [.int (a : Nat)]))) = HC at smC hpC hSyC hItC hCgC
          refine ⟨_, rfl, _, rfl, Sy, _, _, _, rfl, rfl, SqL.of hSyC, atI_nat (j := a) (syV_at han hga), _, rfl, p, c, 127, rfl, hpC, by decide, by decide, fun tv HT aT bT smT hpT => ?_⟩
          obtain ⟨v', hx, hne⟩ := xor_ne (val a) aT bT
          have hSyT := smT.lst hpC hSyC
          refine ⟨_, _, rfl, rfl, _, _, rfl, rfl, _, rfl, _, rfl, Sy, _, _, a, rfl, rfl, hSyT, ixN_at rfl (by rw [List.length_map, syF_len]; exact han), ?_⟩
          have eset : ((syF (k + r) gb val).map oV).set a (.int (Builtin.bitXor (eI (val a)) (1 + tv))) = (syF (k + r) gb (put val a v')).map oV := by
            rw [hx, ← syF_set hga, List.map_set]
            rfl
          have hSyF : (upd HT Sy (.lst (((syF (k + r) gb val).map oV).set a (.int (Builtin.bitXor (eI (val a)) (1 + tv)))))) Sy = some (.lst ((syF (k + r) gb (put val a v')).map oV)) := by rw [upd_same, eset]
          have smF := sameB_mut (o := .lst (((syF (k + r) gb val).map oV).set a (.int (Builtin.bitXor (eI (val a)) (1 + tv))))) (smC.trans smT) hSyH8
          have hpF := hpT.upd (o := .lst (((syF (k + r) gb val).map oV).set a (.int (Builtin.bitXor (eI (val a)) (1 + tv))))) hSyp hSyc
          have hItF : (upd HT Sy (.lst (((syF (k + r) gb val).map oV).set a (.int (Builtin.bitXor (eI (val a)) (1 + tv)))))) It = some (.lst ([V.int (-1)] ++ nL pl)) := by rw [upd_ne (Ne.symm nSyIt)]; exact smT.lst hpC hItC
          have hCgF : (upd HT Sy (.lst (((syF (k + r) gb val).map oV).set a (.int (Builtin.bitXor (eI (val a)) (1 + tv)))))) Cg = some (.lst (nL (pl.take (j + 1)))) := by rw [upd_ne (Ne.symm nSyCg)]; exact smT.lst hpC hCgC
          have hchF : Chg (k + r) gb c' (put val a v') (pl.take (j + 1)) := by
            rw [take_snoc ha]
            exact hch0.put (by rw [hva]; exact hne)
          have hl1 : (pl.take (j + 1)).length ≤ bd := by
            rw [List.length_take]
            omega
          exact keyB _ _ k r Da W Go Gv Sy Pl Cg bd _ v13 c' gb (put val a v') (pl.take (j + 1)) k1 kr hpF (smF.tup hp8 hW8) hSyF hCgF ((List.take_sublist _ _).trans hplsub) hchF (by omega) (by omega) fun H19 Hd sm19 hp19 =>
            ⟨_, _, put val a v', rfl, smF.trans sm19, hp19, sm19.lst hpF hItF, sm19.lst hpF hSyF, sm19.lst hpF hCgF, hchF⟩
      · obtain ⟨v10, v13, val, rfl, smB, hpB, hItB, hSyB, hCgB, hch⟩ := hP
        exact kq _ (smH8.trans smB) hpB
end
end Mv
/-! The law. -/
namespace Mv
open PySem PySem.Spec PyProof.Rows L2 MV
section
variable {P : Program} {w : World} {K : PySem.W.Frag} {mg : Str → Option Value} {base : Heap}
def spLaw (K : PySem.W.Frag) : Sp := fun vs H Q _ => ∃ (a : Addr) (ns : List Int), vs = [.ref a] ∧ SqL K H a (ns.map V.int) ∧ ns.length ≤ 63 ∧ ∀ H', Q (.bl true) H'
theorem scLaw : FnScope ["_law_script", "_law_pool_here", "_law_field_here", "_law_turn"] ["_law_script"] (defScope sLaw) := ⟨rfl, rfl, rfl, by decide +kernel, rfl, by decide +kernel, by decide +kernel⟩
theorem ok_law {f fP fF fA : Addr} {fd gP gF gA : FuncData} (F0 : Fun K "law" "law" sLaw f fd) (DP : Df P w K mg base CX0 1 "_law_pool" ["_law_script"] (spPool K) fP gP) (DF : Df P w K mg base CX0 1 "_law_field" [] spField fF gF)
    (DA : Df P w K mg base CX0 9 "_law_agrees" ["_law_pool_here", "_law_field_here"] spAgrees fA gA) (mr : mg "range" = none) : FnOk P w K mg base CX0 10 f fd ["_law_script"] (spLaw K) := by
  refine F0.ok scLaw (fun vs H Q E h => ?_) (fun cdv A outer s H vs Q E hr h => ?_)
  · obtain ⟨a, ns, rfl, _⟩ := h
    rfl
  · obtain ⟨a, ns, rfl, hS, ln, kq⟩ := h
    have nd := scLaw.nd
    have hr1 : Room 1 _ := hr.mono (by decide)
    refine ⟨_, pss_cons (ps_set (i := 1) nd rfl (.inl rfl) (pcall DP hr1 (pa_cons (pv 0) pa_nil)))
      (pss_cons (ps_set (i := 2) nd rfl (.inl rfl) (pe_call0 DF.ok hr1 rfl DF.mg DF.kp DF.bd .nil pass0))
      (pss_cons (ps_for PassesOwn.never rfl (pi_range1 rfl mr (pa_cons pe_int pa_nil)) (pg_name (i := 3) nd rfl (.inl rfl))
        (pss_one (ps_if (pt_not (pt_val (pcall DA hr (pa_cons (pv 1) (pa_cons (pv 2) pa_nil))))) (pss_one (ps_ret pe_bl)) pss_nil)))
      (pss_one (ps_ret pe_bl)))), ?_⟩
    refine ⟨_, rfl, a, ns, rfl, hS, ln, fun p c H1 sm1 hp1 => ?_⟩
    refine ⟨rfl, fun f H2 sm2 hf0 hf2 => ?_⟩
    have hp2 := hp1.same sm2
    have hfp : f ≠ p := by
      obtain ⟨cells, a, rest, left, small, seed, turn, h1, _⟩ := hp1
      exact (ne_of_none h1 hf0).symm
    refine ⟨_, rfl, by decide, by decide, ?_⟩
    refine for_range (lo := 0) (n := 2) (fun i σ H' => ∃ v, σ = [some (.ref a), some (.ref p), some (.ref f), v] ∧ PoolAt H' p c ∧ FieldAt H' f) ⟨none, rfl, hp2, hf2⟩ (fun i σ H' hi hP => ?_) (fun σ H' hP => ?_)
    · obtain ⟨v, rfl, hp, hf⟩ := hP
      refine ⟨_, rfl, _, rfl, p, c, f, rfl, hp, hf, hfp, fun H3 sm3 hp3 => ⟨_, rfl, iteF ⟨_, rfl, hp3, hf.sameB sm3 hp hfp⟩⟩⟩
    · obtain ⟨v, rfl, hp, hf⟩ := hP
      exact kq H'
end
end Mv
/-! The defs joined. -/
namespace Mv
open PySem PySem.Spec PyProof.Rows L2 MV
/-- an error of the class at S is what «except S» names -/
theorem exm_self {K : PySem.W.Frag} {S : Addr} (h1 : PySem.W.subIn K (.ref S) (.type "BaseException") = some true) (h2 : PySem.W.isClsIn K S = true) (h3 : PySem.W.typeIn K (.ref S) = some (.type "type")) (h4 : PySem.W.subIn K (.ref S) (.ref S) = some true) :
    PySem.W.exmOne K (.ref S) (.ref S) = some true := by
  have q1 : (PySem.W.subIn K (.ref S) (.type "BaseException") == some true) = true := by rw [h1] <;> rfl
  have q2 : ((PySem.W.clsIn K S).isSome && PySem.W.typeIn K (.ref S) == some (.type "type")) = true := by
    have h2' : (PySem.W.clsIn K S).isSome = true := h2
    rw [h2', h3] <;> rfl
  show (if (PySem.W.subIn K (.ref S) (.type "BaseException") == some true) = true then (if ((PySem.W.clsIn K S).isSome && PySem.W.typeIn K (.ref S) == some (.type "type")) = true then PySem.W.subIn K (.ref S) (.ref S) else none) else none) = some true
  rw [if_pos q1, if_pos q2]
  exact h4
theorem kit_sub {K : PySem.W.Frag} {S B : Addr} (h2 : PySem.W.isClsIn K B = true) (h3 : PySem.W.typeIn K (.ref B) = some (.type "type")) (h4 : PySem.W.subIn K (.ref S) (.ref B) = some true) : PySem.W.kitOne K (.ref S) (.ref B) = some true := by
  have q2 : ((PySem.W.clsIn K B).isSome && PySem.W.typeIn K (.ref B) == some (.type "type")) = true := by
    have h2' : (PySem.W.clsIn K B).isSome = true := h2
    rw [h2', h3] <;> rfl
  show (if (Value.ref S == Value.ref B) = true then some true else (if ((PySem.W.clsIn K B).isSome && PySem.W.typeIn K (.ref B) == some (.type "type")) = true then PySem.W.subIn K (.ref S) (.ref B) else none)) = some true
  rw [if_pos q2]
  split
  · rfl
  · exact h4
theorem along_of {K : PySem.W.Frag} {B : Addr} {o : Option Value} {nm q : Str} {N : Addr} {bs : List Value} {m : List Value} {sn : List Str} {sub : List Value} {ab hd : Bool} {col : Option Bool} {dd : Option Addr} {k0 k1 k2 k3 k5 : Option Value} {nw : String}
    (x : K.lookup B = some (excClassObj nm q B N bs m hd sn sub ab col dd k0 k1 k2 k3 k5 nw)) (n : Str) (h : PySem.W.findIn K (.ref B) n = some o) : PySem.W.alongIn K n (.ref B :: m) = some o := by
  rw [← h]
  show PySem.W.alongIn K n (.ref B :: m) = (match K.lookup B with
      | some ⟨_, _, .cls cd, _⟩ => PySem.W.alongIn K n cd.mro
      | _ => none)
  rw [x] <;> rfl
theorem all_mk {P : Program} {w : World} {K : PySem.W.Frag} {h : Heap} {mg : Str → Option Value} {fa C B fI cc cda : Addr} (X : K.In h) (G : h.Ns mainGlobals mg) (hfa : mg "law" = some (.ref fa))
    {f1 f2 f3 f4 f5 f6 f7 f8 f9 f10 f11 f12 f13 f14 f15 f16 f17 f18 f19 f20 f21 f22 f23 f24 f25 f26 f27 f28 f29 f30 : Addr} {g1 g2 g3 g4 g5 g6 g7 g8 g9 g10 g11 g12 g13 g14 g15 g16 g17 g18 g19 g20 g21 g22 g23 g24 g25 g26 g27 g28 g29 g30 : FuncData}
    {nm q : Str} {N : Addr} {bs : List Value} {sn : List Str} {sub : List Value} {ab : Bool} {col : Option Bool} {dd : Option Addr} {m0 m1 m2 m3 m5 : Option Value}
    {nmB qB : Str} {NB : Addr} {bsB : List Value} {snB : List Str} {subB : List Value} {abB hdB : Bool} {colB : Option Bool} {ddB : Option Addr} {n0 n1 n2 n3 n5 : Option Value} {nwB : String}
    {oc doc pm ct ccl cl : Value} {od an cdd cld : Option Addr} {osl ccs csl : Array (Option Value)} {vs : Array Value} {file : Str} {tf tm : Tok}
    (aC : PySem.W.nsIn K mainGlobals "Beyond" = some (some (.ref C)))
    (aB : PySem.W.nsIn K mainGlobals "VaultError" = some (some (.ref B)))
    (xC : K.lookup C = some (excClassObj nm q C N bs (.ref B :: exT) true sn sub ab col dd m0 m1 m2 m3 m5 "Exception.__new__"))
    (xB : K.lookup B = some (excClassObj nmB qB B NB bsB exT hdB snB subB abB colB ddB n0 n1 n2 n3 n5 nwB))
    (sa : PySem.W.findIn K (.ref C) "__setattr__" = some (some (.builtin "object.__setattr__"))) (ga : PySem.W.findIn K (.ref C) "__getattribute__" = some (some (.builtin "BaseException.__getattribute__"))) (gg : PySem.W.findIn K (.ref C) "__getattr__" = some none) (nw : PySem.W.findIn K (.ref C) "word" = some none)
    (iC : PySem.W.findIn K (.ref C) "__init__" = some (some (.ref fI))) (tI : PySem.W.typeIn K (.ref fI) = some (.type "function")) (kC : PySem.W.keepIn K (.ref C) = true)
    (eC : PySem.W.subIn K (.ref C) (.type "BaseException") = some true) (eE : PySem.W.subIn K (.ref C) (.type "Exception") = some true) (tC : PySem.W.typeIn K (.ref C) = some (.type "type")) (hC : PySem.W.hasDictIn K C = true) (jC : PySem.W.isClsIn K C = true) (sC : PySem.W.subIn K (.ref C) (.ref C) = some true)
    (iB : PySem.W.findIn K (.ref B) "__init__" = some (some (.builtin "Exception.__init__"))) (tB : PySem.W.typeIn K (.ref B) = some (.type "type")) (jB : PySem.W.isClsIn K B = true) (sB : PySem.W.subIn K (.ref C) (.ref B) = some true)
    (op : PySem.W.nsIn K PySem.cStatics "thirdparty.any" = some none)
    (lI : K.lookup fI = some ⟨oc, od, .func (PySem.W.ksFn "__init__" "Beyond.__init__" (L2.defArgs sBInit) (L2.defBody sBInit) (L2.defScope sBInit) .none .none doc pm an (.ref cda) ct cc), osl⟩) (cI : PySem.W.codeIn K (.ref cda) "Beyond.__init__" = true)
    (lcd : K.lookup cda = some ⟨ccl, cdd, .fields vs, ccs⟩) (hv : vs[2]? = some (.str file tf)) (hfile : (P.main.file == file) = true)
    (lcc : K.lookup cc = some ⟨cl, cld, .cell (some (.ref C)), csl⟩) (htop : (P.main.scope.names.lookup ("super" : Str)).isSome = false)
    (oa : PySem.W.findIn K (.ref C) "__class__" = some (some (.builtin "object.__class__"))) (on : PySem.W.specialIn K (.builtin "object.__class__") "__get__" = some (some (.builtin "getset_descriptor.__get__"))) (ot : PySem.W.takesIn K (.builtin "object.__class__") = some true) (om : PySem.W.mroIn K C (.type "object") = some true)
    (aM : PySem.W.nsIn K mainGlobals "MODULUS" = some (some (.int 131 tm)))
    (zlen : PySem.W.nsIn K mainGlobals "len" = some none)
    (ztuple : PySem.W.nsIn K mainGlobals "tuple" = some none)
    (zrange : PySem.W.nsIn K mainGlobals "range" = some none)
    (zmax : PySem.W.nsIn K mainGlobals "max" = some none)
    (zmin : PySem.W.nsIn K mainGlobals "min" = some none)
    (zenum : PySem.W.nsIn K mainGlobals "enumerate" = some none)
    (zlist : PySem.W.nsIn K mainGlobals "list" = some none)
    (zint : PySem.W.nsIn K mainGlobals "int" = some none)
    (zbool : PySem.W.nsIn K mainGlobals "bool" = some none)
    (zsum : PySem.W.nsIn K mainGlobals "sum" = some none)
    (zisi : PySem.W.nsIn K mainGlobals "isinstance" = some none)
    (zsuper : PySem.W.nsIn K mainGlobals "super" = some none)
    (a1 : PySem.W.nsIn K mainGlobals "added" = some (some (.ref f1))) (F1 : Fun K "added" "added" sAdded f1 g1)
    (a2 : PySem.W.nsIn K mainGlobals "times" = some (some (.ref f2))) (F2 : Fun K "times" "times" sTimes f2 g2)
    (a3 : PySem.W.nsIn K mainGlobals "power" = some (some (.ref f3))) (F3 : Fun K "power" "power" sPower f3 g3)
    (a4 : PySem.W.nsIn K mainGlobals "inverse" = some (some (.ref f4))) (F4 : Fun K "inverse" "inverse" sInverse f4 g4)
    (a5 : PySem.W.nsIn K mainGlobals "over" = some (some (.ref f5))) (F5 : Fun K "over" "over" sOver f5 g5)
    (a6 : PySem.W.nsIn K mainGlobals "trimmed" = some (some (.ref f6))) (F6 : Fun K "trimmed" "trimmed" sTrimmed f6 g6)
    (a7 : PySem.W.nsIn K mainGlobals "coefficient_at" = some (some (.ref f7))) (F7 : Fun K "coefficient_at" "coefficient_at" sCoef f7 g7)
    (a8 : PySem.W.nsIn K mainGlobals "poly_added" = some (some (.ref f8))) (F8 : Fun K "poly_added" "poly_added" sPAdd f8 g8)
    (a9 : PySem.W.nsIn K mainGlobals "poly_value" = some (some (.ref f9))) (F9 : Fun K "poly_value" "poly_value" sPVal f9 g9)
    (a10 : PySem.W.nsIn K mainGlobals "poly_times" = some (some (.ref f10))) (F10 : Fun K "poly_times" "poly_times" sPMul f10 g10)
    (a11 : PySem.W.nsIn K mainGlobals "poly_divided" = some (some (.ref f11))) (F11 : Fun K "poly_divided" "poly_divided" sPDiv f11 g11)
    (a12 : PySem.W.nsIn K mainGlobals "poly_through" = some (some (.ref f12))) (F12 : Fun K "poly_through" "poly_through" sPThru f12 g12)
    (a13 : PySem.W.nsIn K mainGlobals "word_of" = some (some (.ref f13))) (F13 : Fun K "word_of" "word_of" sWordOf f13 g13)
    (a14 : PySem.W.nsIn K mainGlobals "unlike_places" = some (some (.ref f14))) (F14 : Fun K "unlike_places" "unlike_places" sUnlike f14 g14)
    (a15 : PySem.W.nsIn K mainGlobals "given_points" = some (some (.ref f15))) (F15 : Fun K "given_points" "given_points" sGiven f15 g15)
    (a16 : PySem.W.nsIn K mainGlobals "near_quotient" = some (some (.ref f16))) (F16 : Fun K "near_quotient" "near_quotient" sNear f16 g16)
    (a17 : PySem.W.nsIn K mainGlobals "corrected" = some (some (.ref f17))) (F17 : Fun K "corrected" "corrected" sCorr f17 g17)
    (a18 : PySem.W.nsIn K mainGlobals "_law_mixed" = some (some (.ref f18))) (F18 : Fun K "_law_mixed" "_law_mixed" sMixed f18 g18)
    (a19 : PySem.W.nsIn K mainGlobals "_law_take" = some (some (.ref f19))) (F19 : Fun K "_law_take" "_law_take" sTake f19 g19)
    (a20 : PySem.W.nsIn K mainGlobals "_law_symbol" = some (some (.ref f20))) (F20 : Fun K "_law_symbol" "_law_symbol" sSymbol f20 g20)
    (a21 : PySem.W.nsIn K mainGlobals "_law_shape" = some (some (.ref f21))) (F21 : Fun K "_law_shape" "_law_shape" sShape f21 g21)
    (a22 : PySem.W.nsIn K mainGlobals "_law_is_row" = some (some (.ref f22))) (F22 : Fun K "_law_is_row" "_law_is_row" sIsRow f22 g22)
    (a23 : PySem.W.nsIn K mainGlobals "_law_is_told" = some (some (.ref f23))) (F23 : Fun K "_law_is_told" "_law_is_told" sIsTold f23 g23)
    (a24 : PySem.W.nsIn K mainGlobals "_law_some" = some (some (.ref f24))) (F24 : Fun K "_law_some" "_law_some" sSome f24 g24)
    (a25 : PySem.W.nsIn K mainGlobals "_law_pool" = some (some (.ref f25))) (F25 : Fun K "_law_pool" "_law_pool" sPool f25 g25)
    (a26 : PySem.W.nsIn K mainGlobals "_law_field" = some (some (.ref f26))) (F26 : Fun K "_law_field" "_law_field" sField f26 g26)
    (a27 : PySem.W.nsIn K mainGlobals "_law_through" = some (some (.ref f27))) (F27 : Fun K "_law_through" "_law_through" sThru f27 g27)
    (a28 : PySem.W.nsIn K mainGlobals "_law_told" = some (some (.ref f28))) (F28 : Fun K "_law_told" "_law_told" sTold f28 g28)
    (a29 : PySem.W.nsIn K mainGlobals "_law_agrees" = some (some (.ref f29))) (F29 : Fun K "_law_agrees" "_law_agrees" sAgrees f29 g29)
    (a30 : PySem.W.nsIn K mainGlobals "law" = some (some (.ref f30))) (F30 : Fun K "law" "law" sLaw f30 g30)
    : ∃ fd : FuncData, (∀ (s : Shared) (v : Value), BindsTo s fd ⟨[v], []⟩ [("_law_script", v)]) ∧ ∀ base : Heap, K.In base → base.Ns mainGlobals mg → FnOk P w K mg base CX0 10 fa fd ["_law_script"] (spLaw K) := by
  have e0 := hfa.symm.trans (PySem.W.mg_of X G a30)
  cases e0
  have bzlen := PySem.W.mg_none_of X G zlen
  have bztuple := PySem.W.mg_none_of X G ztuple
  have bzrange := PySem.W.mg_none_of X G zrange
  have bzmax := PySem.W.mg_none_of X G zmax
  have bzmin := PySem.W.mg_none_of X G zmin
  have bzenum := PySem.W.mg_none_of X G zenum
  have bzlist := PySem.W.mg_none_of X G zlist
  have bzint := PySem.W.mg_none_of X G zint
  have bzbool := PySem.W.mg_none_of X G zbool
  have bzsum := PySem.W.mg_none_of X G zsum
  have bzisi := PySem.W.mg_none_of X G zisi
  have bzsuper := PySem.W.mg_none_of X G zsuper
  have B1 := F1.binds (ps := ["a", "b"]) fun _ _ _ _ _ _ us hl => match us, hl with | [_, _], _ => rfl
  have B2 := F2.binds (ps := ["a", "b"]) fun _ _ _ _ _ _ us hl => match us, hl with | [_, _], _ => rfl
  have B3 := F3.binds (ps := ["a", "n"]) fun _ _ _ _ _ _ us hl => match us, hl with | [_, _], _ => rfl
  have B4 := F4.binds (ps := ["a"]) fun _ _ _ _ _ _ us hl => match us, hl with | [_], _ => rfl
  have B5 := F5.binds (ps := ["a", "b"]) fun _ _ _ _ _ _ us hl => match us, hl with | [_, _], _ => rfl
  have B6 := F6.binds (ps := ["row"]) fun _ _ _ _ _ _ us hl => match us, hl with | [_], _ => rfl
  have B7 := F7.binds (ps := ["p", "k"]) fun _ _ _ _ _ _ us hl => match us, hl with | [_, _], _ => rfl
  have B8 := F8.binds (ps := ["p", "q"]) fun _ _ _ _ _ _ us hl => match us, hl with | [_, _], _ => rfl
  have B9 := F9.binds (ps := ["p", "x"]) fun _ _ _ _ _ _ us hl => match us, hl with | [_, _], _ => rfl
  have B10 := F10.binds (ps := ["p", "q"]) fun _ _ _ _ _ _ us hl => match us, hl with | [_, _], _ => rfl
  have B11 := F11.binds (ps := ["p", "q"]) fun _ _ _ _ _ _ us hl => match us, hl with | [_, _], _ => rfl
  have B12 := F12.binds (ps := ["points"]) fun _ _ _ _ _ _ us hl => match us, hl with | [_], _ => rfl
  have B13 := F13.binds (ps := ["p", "size"]) fun _ _ _ _ _ _ us hl => match us, hl with | [_, _], _ => rfl
  have B14 := F14.binds (ps := ["word", "points"]) fun _ _ _ _ _ _ us hl => match us, hl with | [_, _], _ => rfl
  have B15 := F15.binds (ps := ["symbols", "k"]) fun _ _ _ _ _ _ us hl => match us, hl with | [_, _], _ => rfl
  have B16 := F16.binds (ps := ["points", "k"]) fun _ _ _ _ _ _ us hl => match us, hl with | [_, _], _ => rfl
  have B17 := F17.binds (ps := ["symbols", "k"]) fun _ _ _ _ _ _ us hl => match us, hl with | [_, _], _ => rfl
  have B18 := F18.binds (ps := ["_law_number", "_law_turn", "_law_many"]) fun _ _ _ _ _ _ us hl => match us, hl with | [_, _, _], _ => rfl
  have B19 := F19.binds (ps := ["_law_pool_here", "_law_many"]) fun _ _ _ _ _ _ us hl => match us, hl with | [_, _], _ => rfl
  have B20 := F20.binds (ps := ["_law_pool_here"]) fun _ _ _ _ _ _ us hl => match us, hl with | [_], _ => rfl
  have B21 := F21.binds (ps := ["_law_pool_here", "_law_most"]) fun _ _ _ _ _ _ us hl => match us, hl with | [_, _], _ => rfl
  have B22 := F22.binds (ps := ["_law_actual", "_law_due"]) fun _ _ _ _ _ _ us hl => match us, hl with | [_, _], _ => rfl
  have B23 := F23.binds (ps := ["_law_told_here", "_law_word", "_law_places"]) fun _ _ _ _ _ _ us hl => match us, hl with | [_, _, _], _ => rfl
  have B24 := F24.binds (ps := ["_law_pool_here", "_law_many", "_law_from_many"]) fun _ _ _ _ _ _ us hl => match us, hl with | [_, _, _], _ => rfl
  have B25 := F25.binds (ps := ["_law_script"]) fun _ _ _ _ _ _ us hl => match us, hl with | [_], _ => rfl
  have B26 := F26.binds (ps := []) fun _ _ _ _ _ _ us hl => match us, hl with | [], _ => rfl
  have B27 := F27.binds (ps := ["_law_field_here", "_law_points", "_law_many"]) fun _ _ _ _ _ _ us hl => match us, hl with | [_, _, _], _ => rfl
  have B28 := F28.binds (ps := ["_law_symbols", "_law_k", "_law_named"]) fun _ _ _ _ _ _ us hl => match us, hl with | [_, _, _], _ => rfl
  have B29 := F29.binds (ps := ["_law_pool_here", "_law_field_here"]) fun _ _ _ _ _ _ us hl => match us, hl with | [_, _], _ => rfl
  have B30 := F30.binds (ps := ["_law_script"]) fun _ _ _ _ _ _ us hl => match us, hl with | [_], _ => rfl
  have T : Byd P K mg C B fI cc cda :=
    { gC := PySem.W.mg_of X G aC, cls := ⟨nm, q, N, bs, sn, sub, ab, col, dd, m0, m1, m2, m3, m5, xC⟩, sa := sa, ga := ga, gg := gg, noW := nw, iC := iC, tI := tI, kC := kC, exC := eC, inE := eE, tyC := tC, hdC := hC, te := exm_self eC jC tC sC,
      aB := along_of xB _ iB, op := op, fn := ⟨oc, od, doc, pm, ct, an, osl, lI, cI⟩, code := ⟨ccl, cdd, vs, ccs, file, tf, lcd, hv, hfile⟩, cell := ⟨cl, cld, csl, lcc⟩, noS := bzsuper, top := htop }
  have N0 : BydIs K C := ⟨oa, on, ot, om⟩
  have xf : XfC K C := ⟨ga, gg, eC, hC⟩
  have gB : mg "VaultError" = some (.ref B) := PySem.W.mg_of X G aB
  have isB := kit_sub (S := C) jB tB sB
  have gm : mg "MODULUS" = some (.int 131 tm) := PySem.W.mg_of X G aM
  have KB : KBinds K g17 ["symbols", "k"] ["k", "symbols"] gK gKV := by
    obtain ⟨_, _, _, _, _, _, _, _, _, hfd, _⟩ := F17.ex
    rw [hfd]
    exact kb_corr
  refine ⟨g30, fun s v => ?_, fun base _ _ => ?_⟩
  · obtain ⟨_, _, _, _, _, _, _, _, _, hfd, _⟩ := F30.ex
    rw [hfd]
    exact .of_eq rfl
  have D1 : Df P w K mg base CX0 1 "added" ["a", "b"] spAdded f1 g1 := ⟨ok_added (w := w) (F0 := F1) , PySem.W.mg_of X G a1, F1.kp, B1⟩
  have D2 : Df P w K mg base CX0 1 "times" ["a", "b"] spTimes f2 g2 := ⟨ok_times (w := w) (F0 := F2) (gm := gm), PySem.W.mg_of X G a2, F2.kp, B2⟩
  have D3 : Df P w K mg base CX0 2 "power" ["a", "n"] spPower f3 g3 := ⟨ok_power (w := w) (F0 := F3) (DT := D2), PySem.W.mg_of X G a3, F3.kp, B3⟩
  have D4 : Df P w K mg base CX0 3 "inverse" ["a"] spInverse f4 g4 := ⟨ok_inverse (w := w) (F0 := F4) (DP := D3), PySem.W.mg_of X G a4, F4.kp, B4⟩
  have D5 : Df P w K mg base CX0 4 "over" ["a", "b"] spOver f5 g5 := ⟨ok_over (w := w) (F0 := F5) (DT := D2) (DI := D4), PySem.W.mg_of X G a5, F5.kp, B5⟩
  have D6 : Df P w K mg base CX0 1 "trimmed" ["row"] (spTrimmed K) f6 g6 := ⟨ok_trimmed (w := w) (F0 := F6) (ml := bzlen) (mt := bztuple), PySem.W.mg_of X G a6, F6.kp, B6⟩
  have D7 : Df P w K mg base CX0 1 "coefficient_at" ["p", "k"] (spCoef K) f7 g7 := ⟨ok_coef (w := w) (F0 := F7) (ml := bzlen), PySem.W.mg_of X G a7, F7.kp, B7⟩
  have D8 : Df P w K mg base CX0 2 "poly_added" ["p", "q"] (spPAdd K) f8 g8 := ⟨ok_padd (w := w) (F0 := F8) (DT := D6) (DA := D1) (DC := D7) (ml := bzlen) (mr := bzrange) (mm := bzmax), PySem.W.mg_of X G a8, F8.kp, B8⟩
  have D9 : Df P w K mg base CX0 2 "poly_value" ["p", "x"] (spPVal K) f9 g9 := ⟨ok_pval (w := w) (F0 := F9) (DA := D1) (DT := D2), PySem.W.mg_of X G a9, F9.kp, B9⟩
  have D10 : Df P w K mg base CX0 2 "poly_times" ["p", "q"] (spPMul K) f10 g10 := ⟨ok_pmul (w := w) (F0 := F10) (DR := D6) (DA := D1) (DT := D2) (ml := bzlen) (me := bzenum), PySem.W.mg_of X G a10, F10.kp, B10⟩
  have D11 : Df P w K mg base CX0 4 "poly_divided" ["p", "q"] (spPDiv K) f11 g11 := ⟨ok_pdiv (w := w) (F0 := F11) (DR := D6) (DA := D1) (DT := D2) (DI := D4) (ml := bzlen) (me := bzenum) (mli := bzlist) (mr := bzrange), PySem.W.mg_of X G a11, F11.kp, B11⟩
  have D12 : Df P w K mg base CX0 5 "poly_through" ["points"] (spPThru K) f12 g12 := ⟨ok_pthru (w := w) (F0 := F12) (DV := D9) (DO := D5) (DA := D1) (DD := D8) (DM := D10), PySem.W.mg_of X G a12, F12.kp, B12⟩
  have D13 : Df P w K mg base CX0 3 "word_of" ["p", "size"] (spWordOf K) f13 g13 := ⟨ok_wordOf (w := w) (F0 := F13) (DV := D9) (mr := bzrange) (mt := bztuple), PySem.W.mg_of X G a13, F13.kp, B13⟩
  have D14 : Df P w K mg base CX0 1 "unlike_places" ["word", "points"] (spUnlike K) f14 g14 := ⟨ok_unlike (w := w) (F0 := F14) , PySem.W.mg_of X G a14, F14.kp, B14⟩
  have D15 : Df P w K mg base (L2.CX P w) 3 "given_points" ["symbols", "k"] (spGiven K C) f15 g15 := ⟨ok_given (w := w) (F0 := F15) (T := T) (ml := bzlen) (me := bzenum), PySem.W.mg_of X G a15, F15.kp, B15⟩
  have D16 : Df P w K mg base CX0 6 "near_quotient" ["points", "k"] (spNear K) f16 g16 := ⟨ok_near (w := w) (F0 := F16) (DM := D10) (DT := D12) (DD := D11) (DA := D8) (ml := bzlen), PySem.W.mg_of X G a16, F16.kp, B16⟩
  have D17 : Df P w K mg base (L2.CX P w) 7 "corrected" ["symbols", "k"] (spCorr K C) f17 g17 := ⟨ok_corr (w := w) (F0 := F17) (DG := D15) (DN := D16) (DW := D13) (DU := D14) (ml := bzlen) (mt := bztuple), PySem.W.mg_of X G a17, F17.kp, B17⟩
  have D18 : Df P w K mg base CX0 1 "_law_mixed" ["_law_number", "_law_turn", "_law_many"] spMixed f18 g18 := ⟨ok_mixed (w := w) (F0 := F18) (mi := bzint), PySem.W.mg_of X G a18, F18.kp, B18⟩
  have D19 : Df P w K mg base CX0 2 "_law_take" ["_law_pool_here", "_law_many"] spTake f19 g19 := ⟨ok_take (w := w) (F0 := F19) (DM := D18) (ml := bzlen) (mi := bzint), PySem.W.mg_of X G a19, F19.kp, B19⟩
  have D20 : Df P w K mg base CX0 3 "_law_symbol" ["_law_pool_here"] spSymbol f20 g20 := ⟨ok_symbol (w := w) (F0 := F20) (DT := D19), PySem.W.mg_of X G a20, F20.kp, B20⟩
  have D21 : Df P w K mg base CX0 3 "_law_shape" ["_law_pool_here", "_law_most"] (spShape K) f21 g21 := ⟨ok_shape (w := w) (F0 := F21) (DT := D19) (mm := bzmin), PySem.W.mg_of X G a21, F21.kp, B21⟩
  have D22 : Df P w K mg base CX0 1 "_law_is_row" ["_law_actual", "_law_due"] (spIsRow K) f22 g22 := ⟨ok_isRow (w := w) (F0 := F22) (ml := bzlen) (mt := bztuple) (mi := bzint) (mb := bzbool) (ms := bzisi) (mr := bzrange), PySem.W.mg_of X G a22, F22.kp, B22⟩
  have D23 : Df P w K mg base CX0 2 "_law_is_told" ["_law_told_here", "_law_word", "_law_places"] (spIsTold K) f23 g23 := ⟨ok_isTold (w := w) (F0 := F23) (DR := D22) (ml := bzlen) (mt := bztuple) (ms := bzisi), PySem.W.mg_of X G a23, F23.kp, B23⟩
  have D24 : Df P w K mg base CX0 3 "_law_some" ["_law_pool_here", "_law_many", "_law_from_many"] spSome f24 g24 := ⟨ok_some (w := w) (F0 := F24) (DT := D19) (ml := bzlen) (mli := bzlist) (mr := bzrange), PySem.W.mg_of X G a24, F24.kp, B24⟩
  have D25 : Df P w K mg base CX0 1 "_law_pool" ["_law_script"] (spPool K) f25 g25 := ⟨ok_pool (w := w) (F0 := F25) (ml := bzlen) (mi := bzint) (mli := bzlist), PySem.W.mg_of X G a25, F25.kp, B25⟩
  have D26 : Df P w K mg base CX0 1 "_law_field" [] spField f26 g26 := ⟨ok_field (w := w) (F0 := F26) (mr := bzrange), PySem.W.mg_of X G a26, F26.kp, B26⟩
  have D27 : Df P w K mg base CX0 1 "_law_through" ["_law_field_here", "_law_points", "_law_many"] (spThru K) f27 g27 := ⟨ok_thru (w := w) (F0 := F27) (mr := bzrange) (ml := bzlen) (ms := bzsum) (mi := bzint) (mt := bztuple), PySem.W.mg_of X G a27, F27.kp, B27⟩
  have D28 : Df P w K mg base CX0 8 "_law_told" ["_law_symbols", "_law_k", "_law_named"] (spTold K) f28 g28 := ⟨ok_told (w := w) (F0 := F28) (DC := D17) (KB := KB) (T := T) (N := N0) (gB := gB) (isB := isB) (xf := xf) (ms := bzisi), PySem.W.mg_of X G a28, F28.kp, B28⟩
  have D29 : Df P w K mg base CX0 9 "_law_agrees" ["_law_pool_here", "_law_field_here"] spAgrees f29 g29 := ⟨ok_agrees (w := w) (F0 := F29) (D := ⟨D19, D20, D21, D27, D24, D28, D23⟩) (mr := bzrange) (ml := bzlen) (mli := bzlist) (mt := bztuple), PySem.W.mg_of X G a29, F29.kp, B29⟩
  exact ok_law (w := w) (F0 := F30) (DP := D25) (DF := D26) (DA := D29) (mr := bzrange)
theorem walk_law {l : PySem.W.OpenLaw} {q : Program} {loose : List Str} {XP : (Str → Option Value) → Heap → Prop} {YP : World → Heap → Prop} {d : DefRec} {K : Params → PySem.W.Frag} (hn : l.most = some 63) (hdf : d.params.defaults = [])
    (hY : ∀ (w : World) (h : Heap), YP w h → (K w.params).In h)
    (F : ∀ (w : World) (mg : Str → Option Value) (fa : Addr) (h : Heap), (K w.params).In h → h.Ns mainGlobals mg → mg d.name = some (.ref fa) →
      ∃ fd : FuncData, (∀ (s : Shared) (u : Value), BindsTo s fd ⟨[u], []⟩ [("_law_script", u)]) ∧ ∀ base : Heap, (K w.params).In base → base.Ns mainGlobals mg → FnOk l.prog w (K w.params) mg base CX0 10 fa fd ["_law_script"] (spLaw (K w.params))) :
    PySem.W.WalkO q loose XP YP l.row.toRowW d [] (fun f vs => PySem.call f vs) :=
  L2.walk_of (n := 63) (k := 10) (x := "_law_script") (CX := fun _ => CX0) (sp := fun w => spLaw (K w.params)) hn (by decide) hdf ⟨rfl, by decide, by decide⟩ hY F (fun _ _ a ns hl _ hS => ⟨a, ns, rfl, hS, hl, fun _ => rfl⟩) fun _ _ _ _ _ z => z
end Mv
open PySem PySem.W PyProof.Rows
set_option maxRecDepth 100000 in
set_option maxHeartbeats 0 in
theorem PySem.Challenge.cw_mendvault_k09_whole_corrected_rows_holds : PySem.Challenge.rw_mendvault_k09_whole_corrected_rows.Holds := by
  w_on; o_law; k_head; (case hw => w_witness2)
  k_fill
  refine Mv.walk_law (l := PySem.Challenge.rw_mendvault_k09_whole_corrected_rows) rfl rfl (fun w h Y => PySem.W.kIn_of Y) ?F
  case F =>
    intro w mg fa h KX G hmg
    refine' Mv.all_mk KX G hmg ?aC ?aB ?xC ?xB ?sa ?ga ?gg ?nw ?iC ?tI ?kC ?eC ?eE ?tC ?hC ?jC ?sC ?iB ?tB ?jB ?sB ?op ?lI ?cI ?lcd ?hv ?hfile ?lcc ?htop ?oa ?on ?ot ?om ?aM ?zlen ?ztuple ?zrange ?zmax ?zmin ?zenum ?zlist ?zint ?zbool ?zsum ?zisi ?zsuper ?a1 ?F1 ?a2 ?F2 ?a3 ?F3 ?a4 ?F4 ?a5 ?F5 ?a6 ?F6 ?a7 ?F7 ?a8 ?F8 ?a9 ?F9 ?a10 ?F10 ?a11 ?F11 ?a12 ?F12 ?a13 ?F13 ?a14 ?F14 ?a15 ?F15 ?a16 ?F16 ?a17 ?F17 ?a18 ?F18 ?a19 ?F19 ?a20 ?F20 ?a21 ?F21 ?a22 ?F22 ?a23 ?F23 ?a24 ?F24 ?a25 ?F25 ?a26 ?F26 ?a27 ?F27 ?a28 ?F28 ?a29 ?F29 ?a30 ?F30
    (case aC => k_is)
    (case aB => k_is)
    (case xC => k_is)
    (case xB => k_is)
    (case sa => k_is)
    (case ga => k_is)
    (case gg => k_is)
    (case nw => k_is)
    (case iC => k_is)
    (case tI => k_is)
    (case kC => k_is)
    (case eC => k_is)
    (case eE => k_is)
    (case tC => k_is)
    (case hC => k_is)
    (case jC => k_is)
    (case sC => first | k_is | rfl)
    (case iB => k_is)
    (case tB => k_is)
    (case jB => k_is)
    (case sB => k_is)
    (case op => k_is)
    (case lI => k_is)
    (case cI => k_is)
    (case lcd => k_is)
    (case hv => rfl)
    (case hfile => decide +kernel)
    (case lcc => k_is)
    (case htop => decide +kernel)
    (case oa => k_is)
    (case on => k_is)
    (case ot => k_is)
    (case om => k_is)
    (case aM => k_is)
    (case zlen => k_is)
    (case ztuple => k_is)
    (case zrange => k_is)
    (case zmax => k_is)
    (case zmin => k_is)
    (case zenum => k_is)
    (case zlist => k_is)
    (case zint => k_is)
    (case zbool => k_is)
    (case zsum => k_is)
    (case zisi => k_is)
    (case zsuper => k_is)
    (case a1 => k_is)
    (case F1 => refine' L2.fun_mk ?l ?c ?k; (case l => k_is); (case c => k_is); (case k => k_is))
    (case a2 => k_is)
    (case F2 => refine' L2.fun_mk ?l ?c ?k; (case l => k_is); (case c => k_is); (case k => k_is))
    (case a3 => k_is)
    (case F3 => refine' L2.fun_mk ?l ?c ?k; (case l => k_is); (case c => k_is); (case k => k_is))
    (case a4 => k_is)
    (case F4 => refine' L2.fun_mk ?l ?c ?k; (case l => k_is); (case c => k_is); (case k => k_is))
    (case a5 => k_is)
    (case F5 => refine' L2.fun_mk ?l ?c ?k; (case l => k_is); (case c => k_is); (case k => k_is))
    (case a6 => k_is)
    (case F6 => refine' L2.fun_mk ?l ?c ?k; (case l => k_is); (case c => k_is); (case k => k_is))
    (case a7 => k_is)
    (case F7 => refine' L2.fun_mk ?l ?c ?k; (case l => k_is); (case c => k_is); (case k => k_is))
    (case a8 => k_is)
    (case F8 => refine' L2.fun_mk ?l ?c ?k; (case l => k_is); (case c => k_is); (case k => k_is))
    (case a9 => k_is)
    (case F9 => refine' L2.fun_mk ?l ?c ?k; (case l => k_is); (case c => k_is); (case k => k_is))
    (case a10 => k_is)
    (case F10 => refine' L2.fun_mk ?l ?c ?k; (case l => k_is); (case c => k_is); (case k => k_is))
    (case a11 => k_is)
    (case F11 => refine' L2.fun_mk ?l ?c ?k; (case l => k_is); (case c => k_is); (case k => k_is))
    (case a12 => k_is)
    (case F12 => refine' L2.fun_mk ?l ?c ?k; (case l => k_is); (case c => k_is); (case k => k_is))
    (case a13 => k_is)
    (case F13 => refine' L2.fun_mk ?l ?c ?k; (case l => k_is); (case c => k_is); (case k => k_is))
    (case a14 => k_is)
    (case F14 => refine' L2.fun_mk ?l ?c ?k; (case l => k_is); (case c => k_is); (case k => k_is))
    (case a15 => k_is)
    (case F15 => refine' L2.fun_mk ?l ?c ?k; (case l => k_is); (case c => k_is); (case k => k_is))
    (case a16 => k_is)
    (case F16 => refine' L2.fun_mk ?l ?c ?k; (case l => k_is); (case c => k_is); (case k => k_is))
    (case a17 => k_is)
    (case F17 => refine' L2.fun_mk ?l ?c ?k; (case l => k_is); (case c => k_is); (case k => k_is))
    (case a18 => k_is)
    (case F18 => refine' L2.fun_mk ?l ?c ?k; (case l => k_is); (case c => k_is); (case k => k_is))
    (case a19 => k_is)
    (case F19 => refine' L2.fun_mk ?l ?c ?k; (case l => k_is); (case c => k_is); (case k => k_is))
    (case a20 => k_is)
    (case F20 => refine' L2.fun_mk ?l ?c ?k; (case l => k_is); (case c => k_is); (case k => k_is))
    (case a21 => k_is)
    (case F21 => refine' L2.fun_mk ?l ?c ?k; (case l => k_is); (case c => k_is); (case k => k_is))
    (case a22 => k_is)
    (case F22 => refine' L2.fun_mk ?l ?c ?k; (case l => k_is); (case c => k_is); (case k => k_is))
    (case a23 => k_is)
    (case F23 => refine' L2.fun_mk ?l ?c ?k; (case l => k_is); (case c => k_is); (case k => k_is))
    (case a24 => k_is)
    (case F24 => refine' L2.fun_mk ?l ?c ?k; (case l => k_is); (case c => k_is); (case k => k_is))
    (case a25 => k_is)
    (case F25 => refine' L2.fun_mk ?l ?c ?k; (case l => k_is); (case c => k_is); (case k => k_is))
    (case a26 => k_is)
    (case F26 => refine' L2.fun_mk ?l ?c ?k; (case l => k_is); (case c => k_is); (case k => k_is))
    (case a27 => k_is)
    (case F27 => refine' L2.fun_mk ?l ?c ?k; (case l => k_is); (case c => k_is); (case k => k_is))
    (case a28 => k_is)
    (case F28 => refine' L2.fun_mk ?l ?c ?k; (case l => k_is); (case c => k_is); (case k => k_is))
    (case a29 => k_is)
    (case F29 => refine' L2.fun_mk ?l ?c ?k; (case l => k_is); (case c => k_is); (case k => k_is))
    (case a30 => k_is)
    (case F30 => refine' L2.fun_mk ?l ?c ?k; (case l => k_is); (case c => k_is); (case k => k_is))
