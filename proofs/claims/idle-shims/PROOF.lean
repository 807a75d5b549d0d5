import PyProof.Rows.All
import Wide.All
import OpenK.AllK
import Wide.FinOn
import HandS.ForMost
import HandS.Deep
import HandS.More
import HandS.Walk
import HandS.Wide
import HandS.WordsExc
import HandS.TryOnly
import HandS.ExcOwn
import KE.KDictItemsList
import KE.KDictZip
import KE.KTurns
import PySem.Challenge.RW_shimright_k24_whole_idle_shims
set_option Elab.async false
set_option linter.all false
set_option maxRecDepth 100000
set_option maxHeartbeats 4000000
set_option exponentiation.threshold 10000
namespace Sh
/-! ### fractions: pairs of ints -/
abbrev Q := Int × Int
def zero : Q := (0, 1)
def one : Q := (1, 1)
def mone : Q := (-1, 1)
def fr (t b : Int) : Q := (t / ((Int.gcd t b : Nat) : Int), b / ((Int.gcd t b : Nat) : Int))
def plus (q r : Q) : Q := fr (q.1 * r.2 + r.1 * q.2) (q.2 * r.2)
def minus (q r : Q) : Q := fr (q.1 * r.2 - r.1 * q.2) (q.2 * r.2)
def times (q r : Q) : Q := fr (q.1 * r.1) (q.2 * r.2)
def over (q r : Q) : Q := fr (q.1 * r.2) (q.2 * r.1)
def below (q r : Q) : Bool := decide (q.1 * r.2 < r.1 * q.2)
/-- in lowest terms -/
def Nm (q : Q) : Prop := 0 < q.2 ∧ Int.gcd q.1 q.2 = 1

theorem gcd_pos_right {t b : Int} (h : 0 < b) : 0 < Int.gcd t b := Nat.pos_of_ne_zero fun e => by
  have := (Int.gcd_eq_zero_iff.mp e).2
  omega
theorem fr_pos {t b : Int} (h : 0 < b) : 0 < (fr t b).2 := by
  have hg := gcd_pos_right (t := t) h
  have hd : ((Int.gcd t b : Nat) : Int) ∣ b := Int.gcd_dvd_right _ _
  show 0 < b / ((Int.gcd t b : Nat) : Int)
  obtain ⟨c, hc⟩ := hd
  generalize Int.gcd t b = g at *
  have hg' : (0 : Int) < (g : Int) := by omega
  rw [hc, Int.mul_ediv_cancel_left _ (by omega)]
  rcases Int.lt_trichotomy c 0 with h1 | h1 | h1
  · have := Int.mul_neg_of_pos_of_neg hg' h1
    omega
  · subst h1
    simp at hc
    omega
  · exact h1
theorem fr_nm {t b : Int} (h : 0 < b) : Nm (fr t b) := by
  refine ⟨fr_pos h, ?_⟩
  have hg := gcd_pos_right (t := t) h
  show Int.gcd (t / ((Int.gcd t b : Nat) : Int)) (b / ((Int.gcd t b : Nat) : Int)) = 1
  exact Int.gcd_ediv_gcd_ediv_gcd hg
theorem fr_self {q : Q} (h : Nm q) : fr q.1 q.2 = q := by
  unfold fr
  rw [h.2]
  simp
theorem plus_nm {q r : Q} (hq : 0 < q.2) (hr : 0 < r.2) : Nm (plus q r) := fr_nm (Int.mul_pos hq hr)
theorem minus_nm {q r : Q} (hq : 0 < q.2) (hr : 0 < r.2) : Nm (minus q r) := fr_nm (Int.mul_pos hq hr)
theorem times_nm {q r : Q} (hq : 0 < q.2) (hr : 0 < r.2) : Nm (times q r) := fr_nm (Int.mul_pos hq hr)
theorem over_nm {q r : Q} (hq : 0 < q.2) (hr : 0 < r.1) : Nm (over q r) := fr_nm (Int.mul_pos hq hr)
theorem nm_zero : Nm zero := ⟨by decide, by decide⟩
theorem nm_one : Nm one := ⟨by decide, by decide⟩
theorem nm_mone : Nm mone := ⟨by decide, by decide⟩
theorem plus_zero {q : Q} (h : Nm q) : plus q zero = q := by
  show fr (q.1 * 1 + 0 * q.2) (q.2 * 1) = q
  rw [Int.zero_mul, Int.add_zero, Int.mul_one, Int.mul_one]
  exact fr_self h
theorem fr_zero {b : Int} (h : 0 < b) : fr 0 b = zero := by
  unfold fr
  have e : Int.gcd 0 b = b.natAbs := Int.gcd_zero_left b
  rw [e]
  have e2 : ((b.natAbs : Nat) : Int) = b := by omega
  rw [e2, Int.zero_ediv, Int.ediv_self (by omega)]
  rfl
theorem times_zero_left {r : Q} (h : 0 < r.2) : times zero r = zero := by
  show fr (0 * r.1) (1 * r.2) = zero
  rw [Int.zero_mul, Int.one_mul]
  exact fr_zero h
theorem minus_zero {q : Q} (h : Nm q) : minus zero q = (-q.1, q.2) := by
  show fr (0 * q.2 - q.1 * 1) (1 * q.2) = (-q.1, q.2)
  have e : (0 * q.2 - q.1 * 1 : Int) = -q.1 := by omega
  rw [e, Int.one_mul]
  exact fr_self (q := (-q.1, q.2)) ⟨h.1, by show Int.gcd (-q.1) q.2 = 1; rw [Int.neg_gcd]; exact h.2⟩
theorem nm_neg {q : Q} (h : Nm q) : Nm (-q.1, q.2) := ⟨h.1, by show Int.gcd (-q.1) q.2 = 1; rw [Int.neg_gcd]; exact h.2⟩
theorem minus_minus {q : Q} (h : Nm q) : minus zero (minus zero q) = q := by
  rw [minus_zero h, minus_zero (nm_neg h)]
  show (- -q.1, q.2) = q
  rw [Int.neg_neg]
theorem over_one {q : Q} (h : Nm q) : over q one = q := by
  show fr (q.1 * 1) (q.2 * 1) = q
  rw [Int.mul_one, Int.mul_one]
  exact fr_self h
theorem times_one {q : Q} (h : Nm q) : times q one = q := by
  show fr (q.1 * 1) (q.2 * 1) = q
  rw [Int.mul_one, Int.mul_one]
  exact fr_self h
theorem below_zero_right {q : Q} : below q zero = decide (q.1 < 0) := by
  unfold below zero
  simp
theorem below_zero_left {q : Q} : below zero q = decide (0 < q.1) := by
  unfold below zero
  simp
theorem nm_eq_zero {q : Q} (h : Nm q) (e : q.1 = 0) : q = zero := by
  obtain ⟨a, b⟩ := q
  simp only at e
  subst e
  have h1 := h.1
  have h2 := h.2
  simp only [Int.gcd_zero_left] at h1 h2
  show (0, b) = (0, 1)
  have : b = 1 := by omega
  rw [this]

/-! ### rows, plans, rules -/
structure Row where
  a : List Q
  b : List Q
  c : Q
  deriving DecidableEq
structure Plan where
  sizes : List (Q × Q)
  shims : List (Q × Q)
  demands : List Row
abbrev Step := List Row × List Row
def isPlain (r : Row) : Bool := (r.a ++ r.b).all (fun x => decide (x = zero)) && !below r.c zero
def putOn (rows : List Row) (r : Row) : List Row := if isPlain r = false ∧ r ∉ rows then rows ++ [r] else rows
def boundRow (n m k : Nat) (sign c : Q) : Row := ⟨List.replicate n zero, (List.replicate m zero).set k sign, c⟩
def putBounds (n m : Nat) (rows : List Row) (k : Nat) (s : Q × Q) : List Row := putOn (putOn rows (boundRow n m k one (minus zero s.1))) (boundRow n m k mone s.2)
def boundsLoop (n m : Nat) : Nat → List (Q × Q) → List Row → List Row
  | _, [], rows => rows
  | k, s :: ss, rows => boundsLoop n m (k + 1) ss (putBounds n m rows k s)
def firstRows (p : Plan) : List Row := boundsLoop p.sizes.length p.shims.length 0 p.shims (p.demands.foldl putOn [])
def mix (xs : List Q) (m : Q) (ys : List Q) (n : Q) : List Q := List.zipWith (fun x y => plus (times x m) (times y n)) xs ys
def at_ (l : List Q) (k : Nat) : Q := l.getD k zero
def taken (lo hi : Row) (k : Nat) : Row :=
  let m := minus zero (at_ hi.b k)
  let n := at_ lo.b k
  ⟨mix lo.a m hi.a n, mix lo.b m hi.b n, plus (times lo.c m) (times hi.c n)⟩
def lowsOf (rows : List Row) (k : Nat) : List Row := rows.filter fun r => below zero (at_ r.b k)
def highsOf (rows : List Row) (k : Nat) : List Row := rows.filter fun r => below (at_ r.b k) zero
def leftOf (rows : List Row) (k : Nat) : List Row := rows.filter fun r => decide (at_ r.b k = zero)
def crossIn (k : Nat) (lo : Row) (highs : List Row) (acc : List Row) : List Row := highs.foldl (fun acc hi => putOn acc (taken lo hi k)) acc
def cross (k : Nat) (lows highs : List Row) (acc : List Row) : List Row := lows.foldl (fun acc lo => crossIn k lo highs acc) acc
def takenOut (rows : List Row) (k : Nat) : Step × List Row := ((lowsOf rows k, highsOf rows k), cross k (lowsOf rows k) (highsOf rows k) (leftOf rows k))
def ruleLoop : Nat → List Step → List Row → List Step × List Row
  | 0, st, rows => (st, rows)
  | k + 1, st, rows => ruleLoop k ((takenOut rows k).1 :: st) (takenOut rows k).2
def ruleOf (p : Plan) : List Step × List Row := ruleLoop p.shims.length [] (firstRows p)
def addUp (f : Q) (ps : List (Q × Q)) : Q := ps.foldl (fun f p => plus f (times p.1 p.2)) f
def pairs (r : Row) (made ch : List Q) : List (Q × Q) := r.a.zip made ++ r.b.zip ch
def worth (r : Row) (made ch : List Q) : Q := addUp r.c (pairs r made ch)
def lowest (r : Row) (made ch : List Q) (k : Nat) : Q := over (minus zero (worth r made ch)) (at_ r.b k)
def better (best : Option Q) (w : Q) : Option Q := match best with
  | none => some w
  | some b => if below b w then some w else some b
def bestOf (lows : List Row) (made ch : List Q) (k : Nat) : Option Q := lows.foldl (fun best r => better best (lowest r made ch k)) none
def choose : List Step → List Q → List Q → List Q
  | [], _, ch => ch
  | s :: ss, made, ch => choose ss made (ch ++ [(bestOf s.1 made ch ch.length).getD zero])
def refused (rows : List Row) (made : List Q) : Bool := rows.any fun r => below (worth r made []) zero
def chosenBy (rule : List Step × List Row) (made : List Q) : Option (List Q) := if refused rule.2 made then none else some (choose rule.1 made [])

/-! ### one thing more in a list -/
def ins {α : Type} (j : Nat) (x : α) (l : List α) : List α := l.take j ++ [x] ++ l.drop j
def wider (p : Plan) (j : Nat) (s : Q × Q) : Plan := ⟨p.sizes, ins j s p.shims, p.demands.map fun r => ⟨r.a, ins j zero r.b, r.c⟩⟩
def wr (j : Nat) (r : Row) : Row := ⟨r.a, ins j zero r.b, r.c⟩
end Sh
namespace Sh
/-! ### what an insertion keeps -/
theorem ins_length {α : Type} {j : Nat} {x : α} {l : List α} : (ins j x l).length = l.length + 1 := by
  unfold ins
  simp only [List.length_append, List.length_take, List.length_drop, List.length_cons, List.length_nil]
  omega
theorem ins_get_lt {α : Type} {j k : Nat} {x : α} {l : List α} (h : k < j) (hj : j ≤ l.length) : (ins j x l)[k]? = l[k]? := by
  unfold ins
  rw [List.append_assoc, List.getElem?_append_left (by rw [List.length_take]; omega), List.getElem?_take_of_lt h]
theorem ins_get_eq {α : Type} {j : Nat} {x : α} {l : List α} (hj : j ≤ l.length) : (ins j x l)[j]? = some x := by
  unfold ins
  have e : (List.take j l).length = j := by rw [List.length_take]; omega
  rw [List.append_assoc, List.getElem?_append_right (by omega), e, Nat.sub_self]
  rfl
theorem ins_get_gt {α : Type} {j k : Nat} {x : α} {l : List α} (h : j ≤ k) (hj : j ≤ l.length) : (ins j x l)[k + 1]? = l[k]? := by
  unfold ins
  have e : (List.take j l).length = j := by rw [List.length_take]; omega
  rw [List.append_assoc, List.getElem?_append_right (by omega), e]
  have e2 : k + 1 - j = (k - j) + 1 := by omega
  rw [e2, List.singleton_append, List.getElem?_cons_succ, List.getElem?_drop]
  congr 1
  omega
theorem at_lt {j k : Nat} {x : Q} {l : List Q} (h : k < j) (hj : j ≤ l.length) : at_ (ins j x l) k = at_ l k := by
  unfold at_
  rw [List.getD_eq_getElem?_getD, List.getD_eq_getElem?_getD, ins_get_lt h hj]
theorem at_eq {j : Nat} {x : Q} {l : List Q} (hj : j ≤ l.length) : at_ (ins j x l) j = x := by
  unfold at_
  rw [List.getD_eq_getElem?_getD, ins_get_eq hj]
  rfl
theorem at_gt {j k : Nat} {x : Q} {l : List Q} (h : j ≤ k) (hj : j ≤ l.length) : at_ (ins j x l) (k + 1) = at_ l k := by
  unfold at_
  rw [List.getD_eq_getElem?_getD, List.getD_eq_getElem?_getD, ins_get_gt h hj]
/-- the place of k among the wider ones -/
def up (j k : Nat) : Nat := if k < j then k else k + 1
theorem up_ne (j k : Nat) : up j k ≠ j := by unfold up; split <;> omega
theorem at_up {j k : Nat} {x : Q} {l : List Q} (hj : j ≤ l.length) : at_ (ins j x l) (up j k) = at_ l k := by
  unfold up
  split
  · exact at_lt (by assumption) hj
  · exact at_gt (by omega) hj
theorem ins_inj {α : Type} {j : Nat} {x : α} {l m : List α} (hl : j ≤ l.length) (hm : j ≤ m.length) (h : ins j x l = ins j x m) : l = m := by
  unfold ins at h
  rw [List.append_assoc, List.append_assoc] at h
  have e : (l.take j).length = (m.take j).length := by rw [List.length_take, List.length_take]; omega
  obtain ⟨h1, h2⟩ := List.append_inj h e
  have h3 : l.drop j = m.drop j := by simpa using h2
  rw [← List.take_append_drop j l, ← List.take_append_drop j m, h1, h3]
theorem all_ins {α : Type} {j : Nat} {x : α} {l : List α} (p : α → Bool) (hx : p x = true) : (ins j x l).all p = l.all p := by
  unfold ins
  rw [List.all_append, List.all_append, List.all_cons, List.all_nil, hx]
  conv => rhs; rw [← List.take_append_drop j l, List.all_append]
  simp
theorem zipWith_ins {α β γ : Type} {f : α → β → γ} {j : Nat} {x : α} {y : β} {l : List α} {m : List β} (h : l.length = m.length) : List.zipWith f (ins j x l) (ins j y m) = ins j (f x y) (List.zipWith f l m) := by
  unfold ins
  have e : (l.take j).length = (m.take j).length := by rw [List.length_take, List.length_take, h]
  have e2 : (l.take j ++ [x]).length = (m.take j ++ [y]).length := by rw [List.length_append, List.length_append, e]; rfl
  rw [List.zipWith_append e2, List.zipWith_append e, List.take_zipWith, List.drop_zipWith]
  rfl
theorem set_ins_up {j k : Nat} {x s : Q} {l : List Q} (hj : j ≤ l.length) : (ins j x l).set (up j k) s = ins j x (l.set k s) := by
  apply List.ext_getElem?
  intro i
  have hj2 : j ≤ (l.set k s).length := by rw [List.length_set]; exact hj
  have key : ∀ i', up j i' = i → ((ins j x l).set (up j k) s)[i]? = (ins j x (l.set k s))[i]? := by
    intro i' e
    subst e
    rw [List.getElem?_set, ins_length]
    have e1 : (ins j x (l.set k s))[up j i']? = (l.set k s)[i']? := by
      unfold up
      split
      · exact ins_get_lt (by assumption) hj2
      · exact ins_get_gt (by omega) hj2
    have e2 : (ins j x l)[up j i']? = l[i']? := by
      unfold up
      split
      · exact ins_get_lt (by assumption) hj
      · exact ins_get_gt (by omega) hj
    rw [e1, e2, List.getElem?_set]
    have hk : up j k = up j i' ↔ k = i' := by unfold up; split <;> split <;> omega
    by_cases h : k = i'
    · rw [if_pos (hk.mpr h), if_pos h]
      subst h
      have : up j k < l.length + 1 ↔ k < l.length := by unfold up; split <;> omega
      simp only [this]
    · rw [if_neg (fun e => h (hk.mp e)), if_neg h]
  rcases Nat.lt_trichotomy i j with h | h | h
  · exact key i (by unfold up; rw [if_pos h])
  · subst h
    rw [List.getElem?_set_ne (up_ne i k), ins_get_eq hj, ins_get_eq hj2]
  · exact key (i - 1) (by unfold up; rw [if_neg (by omega)]; omega)
theorem rep_ins (j m : Nat) (h : j ≤ m) : List.replicate (m + 1) zero = ins j zero (List.replicate m zero) := by
  apply List.ext_getElem?
  intro i
  have hj : j ≤ (List.replicate m zero).length := by rw [List.length_replicate]; exact h
  rcases Nat.lt_trichotomy i j with q | q | q
  · rw [ins_get_lt q hj, List.getElem?_replicate, List.getElem?_replicate, if_pos (by omega), if_pos (by omega)]
  · subst q
    rw [ins_get_eq hj, List.getElem?_replicate, if_pos (by omega)]
  · obtain ⟨i', rfl⟩ : ∃ i', i = i' + 1 := ⟨i - 1, by omega⟩
    rw [ins_get_gt (by omega) hj, List.getElem?_replicate, List.getElem?_replicate]
    by_cases q2 : i' < m
    · rw [if_pos (by omega), if_pos q2]
    · rw [if_neg (by omega), if_neg q2]

/-! ### rows that are wider by an idle shim -/
/-- well formed: m shims, all numbers in lowest terms -/
structure Rk (m : Nat) (r : Row) : Prop where
  len : r.b.length = m
  nb : ∀ q ∈ r.b, Nm q
  na : ∀ q ∈ r.a, Nm q
  nc : Nm r.c
theorem wr_inj {j m : Nat} {r s : Row} (hr : r.b.length = m) (hs : s.b.length = m) (hj : j ≤ m) (h : wr j r = wr j s) : r = s := by
  unfold wr at h
  obtain ⟨a, b, c⟩ := r
  obtain ⟨a', b', c'⟩ := s
  simp only [Row.mk.injEq] at h
  simp only at hr hs
  obtain ⟨h1, h2, h3⟩ := h
  have h4 := ins_inj (by omega) (by omega) h2
  subst h1 h3 h4
  rfl
theorem plain_wr {j : Nat} {r : Row} : isPlain (wr j r) = isPlain r := by
  unfold isPlain wr
  simp only
  rw [List.all_append, List.all_append, all_ins _ (by decide)]
theorem nm_at {m k : Nat} {r : Row} (h : Rk m r) : Nm (at_ r.b k) := by
  unfold at_
  rw [List.getD_eq_getElem?_getD]
  cases e : r.b[k]? with
  | none => exact nm_zero
  | some q => exact h.nb q (List.mem_of_getElem? e)
theorem mem_zipWith {α β γ : Type} {f : α → β → γ} : ∀ {xs : List α} {ys : List β} {z : γ}, z ∈ List.zipWith f xs ys → ∃ x ∈ xs, ∃ y ∈ ys, z = f x y
  | [], _, z, h => by simp at h
  | _ :: _, [], z, h => by simp at h
  | x :: xs, y :: ys, z, h => by
    rw [List.zipWith_cons_cons] at h
    rcases List.mem_cons.mp h with e | h
    · exact ⟨x, by simp, y, by simp, e⟩
    · obtain ⟨x', hx, y', hy, e⟩ := mem_zipWith h
      exact ⟨x', List.mem_cons_of_mem _ hx, y', List.mem_cons_of_mem _ hy, e⟩
theorem mix_nm {xs ys : List Q} {m n : Q} (hx : ∀ q ∈ xs, Nm q) (hy : ∀ q ∈ ys, Nm q) (hm : Nm m) (hn : Nm n) : ∀ q ∈ mix xs m ys n, Nm q := by
  intro q h
  obtain ⟨x, h1, y, h2, e⟩ := mem_zipWith h
  rw [e]
  exact plus_nm (times_nm (hx x h1).1 hm.1).1 (times_nm (hy y h2).1 hn.1).1
theorem taken_rk {m k : Nat} {lo hi : Row} (hl : Rk m lo) (hh : Rk m hi) : Rk m (taken lo hi k) := by
  have n1 : Nm (minus zero (at_ hi.b k)) := minus_nm nm_zero.1 (nm_at hh).1
  have n2 : Nm (at_ lo.b k) := nm_at hl
  refine ⟨?_, mix_nm hl.nb hh.nb n1 n2, mix_nm hl.na hh.na n1 n2, plus_nm (times_nm hl.nc.1 n1.1).1 (times_nm hh.nc.1 n2.1).1⟩
  show (mix _ _ _ _).length = m
  unfold mix
  rw [List.length_zipWith, hl.len, hh.len, Nat.min_self]
theorem taken_wr {m j k : Nat} {lo hi : Row} (hl : Rk m lo) (hh : Rk m hi) (hj : j ≤ m) : taken (wr j lo) (wr j hi) (up j k) = wr j (taken lo hi k) := by
  have hjl : j ≤ lo.b.length := by rw [hl.len]; exact hj
  have hjh : j ≤ hi.b.length := by rw [hh.len]; exact hj
  have n1 : Nm (minus zero (at_ hi.b k)) := minus_nm nm_zero.1 (nm_at hh).1
  have n2 : Nm (at_ lo.b k) := nm_at hl
  unfold taken wr
  simp only
  rw [at_up hjl, at_up hjh]
  congr 1
  unfold mix
  rw [zipWith_ins (by rw [hl.len, hh.len]), times_zero_left n1.1, times_zero_left n2.1, plus_zero nm_zero]

/-- W is R made wider, and the idle rows L, U besides, at any places -/
structure Rel (m j : Nat) (L U W R : List Row) : Prop where
  hj : j ≤ m
  mid : W.filter (fun r => decide (at_ r.b j = zero)) = R.map (wr j)
  low : W.filter (fun r => below zero (at_ r.b j)) = L
  upp : W.filter (fun r => below (at_ r.b j) zero) = U
  kr : ∀ r ∈ R, Rk m r
  kw : ∀ r ∈ W, Nm (at_ r.b j)
theorem tri {q : Q} (h : Nm q) : q = zero ∨ below zero q = true ∨ below q zero = true := by
  rw [below_zero_left, below_zero_right, decide_eq_true_eq, decide_eq_true_eq]
  rcases Int.lt_trichotomy q.1 0 with e | e | e
  · exact .inr (.inr e)
  · exact .inl (nm_eq_zero h e)
  · exact .inr (.inl e)
theorem wr_at {j m : Nat} {r : Row} (h : r.b.length = m) (hj : j ≤ m) : at_ (wr j r).b j = zero := at_eq (by rw [h]; exact hj)
theorem below_zz : below zero zero = false := by decide
section
variable {m j : Nat} {L U W R : List Row}
theorem Rel.mem (h : Rel m j L U W R) {r : Row} (hr : r.b.length = m) : wr j r ∈ W ↔ r ∈ R := by
  have e : wr j r ∈ W ↔ wr j r ∈ W.filter (fun r => decide (at_ r.b j = zero)) := by
    rw [List.mem_filter, decide_eq_true_eq]
    exact ⟨fun x => ⟨x, wr_at hr h.hj⟩, fun x => x.1⟩
  rw [e, h.mid, List.mem_map]
  constructor
  · rintro ⟨s, hs, q⟩
    rw [← wr_inj (h.kr s hs).len hr h.hj q]
    exact hs
  · intro x
    exact ⟨r, x, rfl⟩
theorem Rel.put (h : Rel m j L U W R) {r : Row} (hr : Rk m r) : Rel m j L U (putOn W (wr j r)) (putOn R r) := by
  unfold putOn
  rw [plain_wr]
  by_cases c : isPlain r = false ∧ r ∉ R
  · rw [if_pos c, if_pos ⟨c.1, fun x => c.2 ((h.mem hr.len).mp x)⟩]
    have ez : at_ (wr j r).b j = zero := wr_at hr.len h.hj
    refine ⟨h.hj, ?_, ?_, ?_, fun s hs => ?_, fun s hs => ?_⟩
    · rw [List.filter_append, h.mid, List.map_append, List.filter_cons, ez, if_pos (by decide)]
      rfl
    · rw [List.filter_append, h.low, List.filter_cons, ez, below_zz]
      simp
    · rw [List.filter_append, h.upp, List.filter_cons, ez, below_zz]
      simp
    · rcases List.mem_append.mp hs with q | q
      · exact h.kr s q
      · rw [List.mem_singleton.mp q]; exact hr
    · rcases List.mem_append.mp hs with q | q
      · exact h.kw s q
      · rw [List.mem_singleton.mp q, ez]; exact nm_zero
  · rw [if_neg c, if_neg fun x => c ⟨x.1, fun y => x.2 ((h.mem hr.len).mpr y)⟩]
    exact h
/-- what the rows at k are, where the idle ones have nothing at k -/
theorem Rel.pick (h : Rel m j L U W R) {k : Nat} (hL : ∀ r ∈ L, at_ r.b (up j k) = zero) (hU : ∀ r ∈ U, at_ r.b (up j k) = zero) (p : Q → Bool) (hp : p zero = false) :
    W.filter (fun r => p (at_ r.b (up j k))) = (R.filter fun r => p (at_ r.b k)).map (wr j) := by
  have e1 : W.filter (fun r => p (at_ r.b (up j k))) = (W.filter (fun r => decide (at_ r.b j = zero))).filter (fun r => p (at_ r.b (up j k))) := by
    rw [List.filter_filter]
    refine List.filter_congr fun r hr => ?_
    rcases tri (h.kw r hr) with q | q | q
    · rw [q]; simp
    · have : r ∈ L := by rw [← h.low]; exact List.mem_filter.mpr ⟨hr, q⟩
      rw [hL r this, hp]; simp
    · have : r ∈ U := by rw [← h.upp]; exact List.mem_filter.mpr ⟨hr, q⟩
      rw [hU r this, hp]; simp
  rw [e1, h.mid, List.filter_map]
  congr 1
  refine List.filter_congr fun r hr => ?_
  show p (at_ (wr j r).b (up j k)) = p (at_ r.b k)
  have := at_up (k := k) (x := zero) (l := r.b) (by rw [(h.kr r hr).len]; exact h.hj)
  unfold wr
  rw [this]
theorem Rel.left (h : Rel m j L U W R) {k : Nat} (hL : ∀ r ∈ L, at_ r.b (up j k) = zero) (hU : ∀ r ∈ U, at_ r.b (up j k) = zero) : Rel m j L U (leftOf W (up j k)) (leftOf R k) := by
  unfold leftOf
  refine ⟨h.hj, ?_, ?_, ?_, fun r hr => h.kr r (List.mem_filter.mp hr).1, fun r hr => h.kw r (List.mem_filter.mp hr).1⟩
  · rw [List.filter_filter]
    have : (W.filter fun a => decide (at_ a.b j = zero) && decide (at_ a.b (up j k) = zero)) = (W.filter (fun r => decide (at_ r.b j = zero))).filter (fun r => decide (at_ r.b (up j k) = zero)) := by
      rw [List.filter_filter]
      refine List.filter_congr fun r hr => ?_
      rw [Bool.and_comm]
    rw [this, h.mid, List.filter_map]
    congr 1
    refine List.filter_congr fun r hr => ?_
    show decide (at_ (wr j r).b (up j k) = zero) = decide (at_ r.b k = zero)
    have := at_up (k := k) (x := zero) (l := r.b) (by rw [(h.kr r hr).len]; exact h.hj)
    unfold wr
    rw [this]
  · have : (W.filter fun r => decide (at_ r.b (up j k) = zero)).filter (fun r => below zero (at_ r.b j)) = (W.filter fun r => below zero (at_ r.b j)).filter (fun r => decide (at_ r.b (up j k) = zero)) := by
      rw [List.filter_filter, List.filter_filter]
      refine List.filter_congr fun r hr => ?_
      rw [Bool.and_comm]
    rw [this, h.low]
    exact List.filter_eq_self.mpr fun r hr => decide_eq_true (hL r hr)
  · have : (W.filter fun r => decide (at_ r.b (up j k) = zero)).filter (fun r => below (at_ r.b j) zero) = (W.filter fun r => below (at_ r.b j) zero).filter (fun r => decide (at_ r.b (up j k) = zero)) := by
      rw [List.filter_filter, List.filter_filter]
      refine List.filter_congr fun r hr => ?_
      rw [Bool.and_comm]
    rw [this, h.upp]
    exact List.filter_eq_self.mpr fun r hr => decide_eq_true (hU r hr)
theorem Rel.cross1 {k : Nat} {lo : Row} (hlo : Rk m lo) : ∀ {hs : List Row} {W R : List Row}, (∀ r ∈ hs, Rk m r) → Rel m j L U W R → Rel m j L U (crossIn (up j k) (wr j lo) (hs.map (wr j)) W) (crossIn k lo hs R)
  | [], _, _, _, h => h
  | x :: hs, W, R, hk, h => by
    show Rel m j L U (crossIn (up j k) (wr j lo) (hs.map (wr j)) (putOn W (taken (wr j lo) (wr j x) (up j k)))) (crossIn k lo hs (putOn R (taken lo x k)))
    rw [taken_wr hlo (hk x List.mem_cons_self) h.hj]
    exact Rel.cross1 hlo (fun r hr => hk r (List.mem_cons_of_mem _ hr)) (h.put (taken_rk hlo (hk x List.mem_cons_self)))
theorem Rel.cross {k : Nat} {hs : List Row} (hk : ∀ r ∈ hs, Rk m r) : ∀ {ls : List Row} {W R : List Row}, (∀ r ∈ ls, Rk m r) → Rel m j L U W R → Rel m j L U (Sh.cross (up j k) (ls.map (wr j)) (hs.map (wr j)) W) (Sh.cross k ls hs R)
  | [], _, _, _, h => h
  | x :: ls, W, R, hl, h => by
    show Rel m j L U (Sh.cross (up j k) (ls.map (wr j)) (hs.map (wr j)) (crossIn (up j k) (wr j x) (hs.map (wr j)) W)) (Sh.cross k ls hs (crossIn k x hs R))
    exact Rel.cross hk (fun r hr => hl r (List.mem_cons_of_mem _ hr)) (Rel.cross1 (hl x List.mem_cons_self) hk h)
def wst (j : Nat) (s : Step) : Step := (s.1.map (wr j), s.2.map (wr j))
theorem Rel.out (h : Rel m j L U W R) {k : Nat} (hL : ∀ r ∈ L, at_ r.b (up j k) = zero) (hU : ∀ r ∈ U, at_ r.b (up j k) = zero) :
    (takenOut W (up j k)).1 = wst j (takenOut R k).1 ∧ Rel m j L U (takenOut W (up j k)).2 (takenOut R k).2 := by
  have e1 : lowsOf W (up j k) = (lowsOf R k).map (wr j) := h.pick hL hU (fun q => below zero q) below_zz
  have e2 : highsOf W (up j k) = (highsOf R k).map (wr j) := h.pick hL hU (fun q => below q zero) below_zz
  unfold takenOut
  rw [e1, e2]
  exact ⟨rfl, Rel.cross (fun r hr => h.kr r (List.mem_filter.mp hr).1) (fun r hr => h.kr r (List.mem_filter.mp hr).1) (h.left hL hU)⟩
end
end Sh
namespace Sh
/-! ### the idle shim itself -/
/-- what fr gives is stable -/
def Sb (q : Q) : Prop := fr q.1 q.2 = q
theorem Nm.sb {q : Q} (h : Nm q) : Sb q := fr_self h
theorem fr_sb (t b : Int) : Sb (fr t b) := by
  by_cases h : Int.gcd t b = 0
  · obtain ⟨h1, h2⟩ := Int.gcd_eq_zero_iff.mp h
    subst h1 h2
    rfl
  · have hg : 0 < Int.gcd t b := Nat.pos_of_ne_zero h
    have e : Int.gcd (fr t b).1 (fr t b).2 = 1 := Int.gcd_ediv_gcd_ediv_gcd hg
    show fr (fr t b).1 (fr t b).2 = fr t b
    generalize fr t b = q at *
    unfold fr
    rw [e]
    simp
theorem plus_sb {q r : Q} : Sb (plus q r) := fr_sb _ _
theorem plus_zero_sb {q : Q} (h : Sb q) : plus q zero = q := by
  show fr (q.1 * 1 + 0 * q.2) (q.2 * 1) = q
  rw [Int.zero_mul, Int.add_zero, Int.mul_one, Int.mul_one]
  exact h
theorem addUp_sb : ∀ {ps : List (Q × Q)} {f : Q}, Sb f → Sb (addUp f ps)
  | [], _, h => h
  | p :: ps, f, _ => addUp_sb (ps := ps) (f := plus f (times p.1 p.2)) plus_sb
theorem addUp_app (f : Q) (xs ys : List (Q × Q)) : addUp f (xs ++ ys) = addUp (addUp f xs) ys := by
  unfold addUp
  rw [List.foldl_append]
theorem addUp_zeros {f : Q} (hf : Sb f) : ∀ {ps : List (Q × Q)}, (∀ p ∈ ps, p.1 = zero ∧ 0 < p.2.2) → addUp f ps = f
  | [], _ => rfl
  | p :: ps, h => by
    show addUp (plus f (times p.1 p.2)) ps = f
    obtain ⟨e1, e2⟩ := h p List.mem_cons_self
    rw [e1, times_zero_left e2, plus_zero_sb hf]
    exact addUp_zeros hf fun q hq => h q (List.mem_cons_of_mem _ hq)

section
variable {n m j : Nat} {lo hi : Q}
def il (n m j : Nat) (lo : Q) : Row := boundRow n (m + 1) j one (minus zero lo)
def ih (n m j : Nat) (hi : Q) : Row := boundRow n (m + 1) j mone hi
theorem at_set_self {l : Nat} {k : Nat} {x : Q} (h : k < l) : at_ ((List.replicate l zero).set k x) k = x := by
  unfold at_
  rw [List.getD_eq_getElem?_getD, List.getElem?_set_self (by rw [List.length_replicate]; exact h)]
  rfl
theorem at_set_ne {l : Nat} {k i : Nat} {x : Q} (h : k ≠ i) : at_ ((List.replicate l zero).set k x) i = zero := by
  unfold at_
  rw [List.getD_eq_getElem?_getD, List.getElem?_set_ne h, List.getElem?_replicate]
  split <;> rfl
theorem il_at (h : j ≤ m) : at_ (il n m j lo).b j = one := at_set_self (by omega)
theorem ih_at (h : j ≤ m) : at_ (ih n m j hi).b j = mone := at_set_self (by omega)
theorem il_up (k : Nat) : at_ (il n m j lo).b (up j k) = zero := at_set_ne (Ne.symm (up_ne j k))
theorem ih_up (k : Nat) : at_ (ih n m j hi).b (up j k) = zero := at_set_ne (Ne.symm (up_ne j k))
theorem not_plain {l k : Nat} {s c : Q} (h : k < l) (hs : s ≠ zero) : isPlain (boundRow n l k s c) = false := by
  unfold isPlain
  rw [Bool.and_eq_false_iff]
  left
  rw [List.all_append, Bool.and_eq_false_iff]
  right
  rw [List.all_eq_false]
  refine ⟨s, ?_, by simp [hs]⟩
  refine List.mem_of_getElem? (i := k) ?_
  show ((List.replicate l zero).set k s)[k]? = some s
  rw [List.getElem?_set_self (by rw [List.length_replicate]; exact h)]
theorem bound_rk {l k : Nat} {s c : Q} (hs : Nm s) (hc : Nm c) : Rk l (boundRow n l k s c) := by
  refine ⟨by show ((List.replicate l zero).set k s).length = l; rw [List.length_set, List.length_replicate], fun q hq => ?_, fun q hq => ?_, hc⟩
  · rcases List.mem_or_eq_of_mem_set hq with h | h
    · rw [List.eq_of_mem_replicate h]; exact nm_zero
    · rw [h]; exact hs
  · rw [List.eq_of_mem_replicate hq]; exact nm_zero
theorem Rel.idle {W R : List Row} (h : Rel m j [] [] W R) (hlo : Nm lo) (hhi : Nm hi) : Rel m j [il n m j lo] [ih n m j hi] (putBounds n (m + 1) W j (lo, hi)) R := by
  have hj := h.hj
  have e1 : putOn W (il n m j lo) = W ++ [il n m j lo] := by
    unfold putOn
    refine if_pos ⟨not_plain (by omega) (by decide), fun hm => ?_⟩
    have : il n m j lo ∈ W.filter (fun r => below zero (at_ r.b j)) := List.mem_filter.mpr ⟨hm, by rw [il_at hj]; decide⟩
    rw [h.low] at this
    cases this
  have e2 : putOn (W ++ [il n m j lo]) (ih n m j hi) = W ++ [il n m j lo] ++ [ih n m j hi] := by
    unfold putOn
    refine if_pos ⟨not_plain (by omega) (by decide), fun hm => ?_⟩
    rcases List.mem_append.mp hm with q | q
    · have : ih n m j hi ∈ W.filter (fun r => below (at_ r.b j) zero) := List.mem_filter.mpr ⟨q, by rw [ih_at hj]; decide⟩
      rw [h.upp] at this
      cases this
    · have e := List.mem_singleton.mp q
      have := ih_at (n := n) (hi := hi) hj
      rw [e, il_at hj] at this
      exact absurd this (by decide)
  have e3 : putBounds n (m + 1) W j (lo, hi) = W ++ [il n m j lo] ++ [ih n m j hi] := by
    show putOn (putOn W (il n m j lo)) (ih n m j hi) = _
    rw [e1, e2]
  rw [e3]
  have d1 : decide (one = zero) = false := by decide
  have d2 : decide (mone = zero) = false := by decide
  have d3 : below zero one = true := by decide
  have d4 : below zero mone = false := by decide
  have d5 : below one zero = false := by decide
  have d6 : below mone zero = true := by decide
  refine ⟨hj, ?_, ?_, ?_, h.kr, fun r hr => ?_⟩
  · rw [List.filter_append, List.filter_append, h.mid, List.filter_cons, List.filter_cons, il_at hj, ih_at hj, d1, d2]
    simp
  · rw [List.filter_append, List.filter_append, h.low, List.filter_cons, List.filter_cons, il_at hj, ih_at hj, d3, d4]
    simp
  · rw [List.filter_append, List.filter_append, h.upp, List.filter_cons, List.filter_cons, il_at hj, ih_at hj, d5, d6]
    simp
  · rcases List.mem_append.mp hr with q | q
    · rcases List.mem_append.mp q with q | q
      · exact h.kw r q
      · rw [List.mem_singleton.mp q, il_at hj]; exact nm_one
    · rw [List.mem_singleton.mp q, ih_at hj]; exact nm_mone
theorem taken_plain (hj : j ≤ m) (hlo : Nm lo) (hhi : Nm hi) (hb : below hi lo = false) : isPlain (taken (il n m j lo) (ih n m j hi) j) = true := by
  have n1 : minus zero (at_ (ih n m j hi).b j) = one := by rw [ih_at hj]; decide
  have n2 : at_ (il n m j lo).b j = one := il_at hj
  unfold taken
  rw [n1, n2]
  unfold isPlain
  simp only
  rw [Bool.and_eq_true, List.all_append, Bool.and_eq_true]
  refine ⟨⟨?_, ?_⟩, ?_⟩
  · rw [List.all_eq_true]
    intro q hq
    obtain ⟨x, h1, y, h2, e⟩ := mem_zipWith hq
    have ex : x = zero := List.eq_of_mem_replicate h1
    have ey : y = zero := List.eq_of_mem_replicate h2
    rw [e, ex, ey]
    decide
  · rw [List.all_eq_true]
    intro q hq
    obtain ⟨i, hi'⟩ := List.mem_iff_getElem?.mp hq
    have hz : (mix (il n m j lo).b one (ih n m j hi).b one)[i]? = some q := hi'
    unfold mix at hz
    rw [List.getElem?_zipWith] at hz
    have g1 : (il n m j lo).b[i]? = if j = i then (if j < m + 1 then some one else none) else (if i < m + 1 then some zero else none) := by
      show ((List.replicate (m + 1) zero).set j one)[i]? = _
      rw [List.getElem?_set, List.length_replicate, List.getElem?_replicate]
    have g2 : (ih n m j hi).b[i]? = if j = i then (if j < m + 1 then some mone else none) else (if i < m + 1 then some zero else none) := by
      show ((List.replicate (m + 1) zero).set j mone)[i]? = _
      rw [List.getElem?_set, List.length_replicate, List.getElem?_replicate]
    rw [g1, g2] at hz
    by_cases c : j = i
    · rw [if_pos c, if_pos c, if_pos (by omega), if_pos (by omega)] at hz
      have e := Option.some.inj hz
      rw [← e]
      decide
    · rw [if_neg c, if_neg c] at hz
      by_cases c2 : i < m + 1
      · rw [if_pos c2] at hz
        have e := Option.some.inj hz
        rw [← e]
        decide
      · rw [if_neg c2] at hz
        cases hz
  · show (!below (plus (times (minus zero lo) one) (times hi one)) zero) = true
    rw [times_one (minus_nm nm_zero.1 hlo.1), times_one hhi, minus_zero hlo, below_zero_right, Bool.not_eq_true', decide_eq_false_iff_not]
    have hb' : ¬ hi.1 * lo.2 < lo.1 * hi.2 := by
      unfold below at hb
      exact of_decide_eq_false hb
    have h1 : 0 ≤ (-lo.1) * hi.2 + hi.1 * lo.2 := by
      rw [Int.neg_mul]
      omega
    show ¬ ((-lo.1) * hi.2 + hi.1 * lo.2) / ((Int.gcd ((-lo.1) * hi.2 + hi.1 * lo.2) (lo.2 * hi.2) : Nat) : Int) < 0
    have := Int.ediv_nonneg (a := (-lo.1) * hi.2 + hi.1 * lo.2) (b := ((Int.gcd ((-lo.1) * hi.2 + hi.1 * lo.2) (lo.2 * hi.2) : Nat) : Int)) h1 (Int.natCast_nonneg _)
    omega
theorem Rel.gone {W R : List Row} (h : Rel m j [il n m j lo] [ih n m j hi] W R) (hlo : Nm lo) (hhi : Nm hi) (hb : below hi lo = false) :
    takenOut W j = (([il n m j lo], [ih n m j hi]), R.map (wr j)) ∧ Rel m j [] [] (R.map (wr j)) R := by
  have hj := h.hj
  refine ⟨?_, ?_⟩
  · unfold takenOut
    have e1 : lowsOf W j = [il n m j lo] := h.low
    have e2 : highsOf W j = [ih n m j hi] := h.upp
    have e3 : leftOf W j = R.map (wr j) := h.mid
    rw [e1, e2, e3]
    have e4 : Sh.cross j [il n m j lo] [ih n m j hi] (R.map (wr j)) = putOn (R.map (wr j)) (taken (il n m j lo) (ih n m j hi) j) := rfl
    rw [e4]
    unfold putOn
    rw [if_neg fun x => by rw [taken_plain hj hlo hhi hb] at x; exact absurd x.1 (by decide)]
  · have ez : ∀ r ∈ R, at_ (wr j r).b j = zero := fun r hr => wr_at (h.kr r hr).len hj
    refine ⟨hj, ?_, ?_, ?_, h.kr, fun r hr => ?_⟩
    · refine List.filter_eq_self.mpr fun r hr => ?_
      obtain ⟨s, hs, e⟩ := List.mem_map.mp hr
      rw [← e, ez s hs]
      decide
    · refine List.filter_eq_nil_iff.mpr fun r hr => ?_
      obtain ⟨s, hs, e⟩ := List.mem_map.mp hr
      rw [← e, ez s hs]
      decide
    · refine List.filter_eq_nil_iff.mpr fun r hr => ?_
      obtain ⟨s, hs, e⟩ := List.mem_map.mp hr
      rw [← e, ez s hs]
      decide
    · obtain ⟨s, hs, e⟩ := List.mem_map.mp hr
      rw [← e, ez s hs]
      exact nm_zero
end
theorem Rel.eq {m j : Nat} {W R : List Row} (h : Rel m j [] [] W R) : W = R.map (wr j) := by
  rw [← h.mid]
  refine (List.filter_eq_self.mpr fun r hr => ?_).symm
  rcases tri (h.kw r hr) with q | q | q
  · exact decide_eq_true q
  · have : r ∈ W.filter (fun r => below zero (at_ r.b j)) := List.mem_filter.mpr ⟨hr, q⟩
    rw [h.low] at this
    cases this
  · have : r ∈ W.filter (fun r => below (at_ r.b j) zero) := List.mem_filter.mpr ⟨hr, q⟩
    rw [h.upp] at this
    cases this

/-! ### the first rows -/
theorem bound_wr {n m j k : Nat} {s c : Q} (hj : j ≤ m) : boundRow n (m + 1) (up j k) s c = wr j (boundRow n m k s c) := by
  unfold boundRow wr
  simp only
  rw [rep_ins j m hj, set_ins_up (by rw [List.length_replicate]; exact hj)]
structure Good (p : Plan) : Prop where
  some : 0 < p.sizes.length
  sh : ∀ s ∈ p.shims, Nm s.1 ∧ Nm s.2 ∧ below s.2 s.1 = false
  de : ∀ r ∈ p.demands, Rk p.shims.length r
  la : ∀ r ∈ p.demands, r.a.length = p.sizes.length
section
variable {n m j : Nat} {L U : List Row}
theorem Rel.bounds {W R : List Row} {k : Nat} {s : Q × Q} (h : Rel m j L U W R) (h1 : Nm s.1) (h2 : Nm s.2) : Rel m j L U (putBounds n (m + 1) W (up j k) s) (putBounds n m R k s) := by
  unfold putBounds
  rw [bound_wr h.hj, bound_wr h.hj]
  exact (h.put (bound_rk nm_one (minus_nm nm_zero.1 h1.1))).put (bound_rk nm_mone h2)
theorem bounds_lt : ∀ {ss : List (Q × Q)} {i : Nat} {W R : List Row}, i + ss.length ≤ j → (∀ s ∈ ss, Nm s.1 ∧ Nm s.2 ∧ below s.2 s.1 = false) → Rel m j L U W R → Rel m j L U (boundsLoop n (m + 1) i ss W) (boundsLoop n m i ss R)
  | [], _, _, _, _, _, h => h
  | s :: ss, i, W, R, hi, hs, h => by
    rw [List.length_cons] at hi
    have e : up j i = i := by unfold up; rw [if_pos (by omega)]
    have h' := h.bounds (n := n) (k := i) (hs s List.mem_cons_self).1 (hs s List.mem_cons_self).2.1
    rw [e] at h'
    exact bounds_lt (ss := ss) (by omega) (fun t ht => hs t (List.mem_cons_of_mem _ ht)) h'
theorem bounds_ge : ∀ {ss : List (Q × Q)} {i : Nat} {W R : List Row}, j ≤ i → (∀ s ∈ ss, Nm s.1 ∧ Nm s.2 ∧ below s.2 s.1 = false) → Rel m j L U W R → Rel m j L U (boundsLoop n (m + 1) (i + 1) ss W) (boundsLoop n m i ss R)
  | [], _, _, _, _, _, h => h
  | s :: ss, i, W, R, hi, hs, h => by
    have e : up j i = i + 1 := by unfold up; rw [if_neg (by omega)]
    have h' := h.bounds (n := n) (k := i) (hs s List.mem_cons_self).1 (hs s List.mem_cons_self).2.1
    rw [e] at h'
    exact bounds_ge (ss := ss) (by omega) (fun t ht => hs t (List.mem_cons_of_mem _ ht)) h'
theorem bounds_app : ∀ (xs ys : List (Q × Q)) (i : Nat) (R : List Row), boundsLoop n m i (xs ++ ys) R = boundsLoop n m (i + xs.length) ys (boundsLoop n m i xs R)
  | [], ys, i, R => rfl
  | x :: xs, ys, i, R => by
    show boundsLoop n m (i + 1) (xs ++ ys) (putBounds n m R i x) = _
    rw [bounds_app xs ys (i + 1), List.length_cons]
    show boundsLoop n m (i + 1 + xs.length) ys _ = boundsLoop n m (i + (xs.length + 1)) ys _
    rw [show i + 1 + xs.length = i + (xs.length + 1) by omega]
    rfl
theorem rel_demands : ∀ {ds W R : List Row}, (∀ r ∈ ds, Rk m r) → Rel m j L U W R → Rel m j L U ((ds.map (wr j)).foldl putOn W) (ds.foldl putOn R)
  | [], _, _, _, h => h
  | d :: ds, W, R, hd, h => rel_demands (ds := ds) (fun r hr => hd r (List.mem_cons_of_mem _ hr)) (h.put (hd d List.mem_cons_self))
theorem rel_nil (hj : j ≤ m) : Rel m j [] [] [] [] := ⟨hj, rfl, rfl, rfl, (fun r h => nomatch h), (fun r h => nomatch h)⟩
end
theorem rel_first {p : Plan} {j : Nat} {lo hi : Q} (g : Good p) (hj : j ≤ p.shims.length) (hlo : Nm lo) (hhi : Nm hi) :
    Rel p.shims.length j [il p.sizes.length p.shims.length j lo] [ih p.sizes.length p.shims.length j hi] (firstRows (wider p j (lo, hi))) (firstRows p) := by
  unfold firstRows
  show Rel _ _ _ _ (boundsLoop p.sizes.length (ins j (lo, hi) p.shims).length 0 (ins j (lo, hi) p.shims) ((p.demands.map (wr j)).foldl putOn [])) _
  rw [ins_length]
  have h0 := rel_demands (j := j) g.de (rel_nil hj)
  have e : p.shims = p.shims.take j ++ p.shims.drop j := (List.take_append_drop j p.shims).symm
  have ej : (p.shims.take j).length = j := by rw [List.length_take]; omega
  conv =>
    rhs
    rw [e, bounds_app, Nat.zero_add]
  unfold ins
  rw [List.append_assoc, bounds_app, Nat.zero_add, ej, List.take_append_drop]
  have h1 := bounds_lt (n := p.sizes.length) (i := 0) (ss := p.shims.take j) (by omega) (fun s hs => g.sh s (List.mem_of_mem_take hs)) h0
  have h2 := h1.idle (n := p.sizes.length) hlo hhi
  exact bounds_ge (Nat.le_refl j) (fun s hs => g.sh s (List.mem_of_mem_drop hs)) h2

/-! ### the rule -/
section
variable {n m j : Nat} {lo hi : Q}
theorem rule_low : ∀ (k : Nat) (S1 S2 : List Step) (W R : List Row), k ≤ j → Rel m j [] [] W R →
    ∃ (Y : List Step) (W' R' : List Row), ruleLoop k S1 W = (Y.map (wst j) ++ S1, W') ∧ ruleLoop k S2 R = (Y ++ S2, R') ∧ Y.length = k ∧ Rel m j [] [] W' R'
  | 0, S1, S2, W, R, _, h => ⟨[], W, R, rfl, rfl, rfl, h⟩
  | k + 1, S1, S2, W, R, hk, h => by
    have e : up j k = k := by unfold up; rw [if_pos (by omega)]
    have o := h.out (k := k) (fun r hr => nomatch hr) (fun r hr => nomatch hr)
    rw [e] at o
    obtain ⟨o1, o2⟩ := o
    obtain ⟨Y, W', R', h1, h2, h3, h4⟩ := rule_low k ((takenOut W k).1 :: S1) ((takenOut R k).1 :: S2) _ _ (by omega) o2
    refine ⟨Y ++ [(takenOut R k).1], W', R', ?_, ?_, ?_, h4⟩
    · show ruleLoop k ((takenOut W k).1 :: S1) (takenOut W k).2 = _
      rw [h1, o1]
      simp
    · show ruleLoop k ((takenOut R k).1 :: S2) (takenOut R k).2 = _
      rw [h2]
      simp
    · simp [h3]
theorem rule_high : ∀ (d : Nat) (S : List Step) (W R : List Row), Rel m j [il n m j lo] [ih n m j hi] W R →
    ∃ (Z : List Step) (W' R' : List Row), ruleLoop (j + d + 1) (S.map (wst j)) W = ruleLoop (j + 1) ((Z ++ S).map (wst j)) W' ∧ ruleLoop (j + d) S R = ruleLoop j (Z ++ S) R' ∧ Z.length = d ∧ Rel m j [il n m j lo] [ih n m j hi] W' R'
  | 0, S, W, R, h => ⟨[], W, R, rfl, rfl, rfl, h⟩
  | d + 1, S, W, R, h => by
    have e : up j (j + d) = j + d + 1 := by unfold up; rw [if_neg (by omega)]
    have o := h.out (k := j + d) (fun r hr => by rw [List.mem_singleton.mp hr]; exact il_up _) (fun r hr => by rw [List.mem_singleton.mp hr]; exact ih_up _)
    rw [e] at o
    obtain ⟨o1, o2⟩ := o
    obtain ⟨Z, W', R', h1, h2, h3, h4⟩ := rule_high d ((takenOut R (j + d)).1 :: S) _ _ o2
    refine ⟨Z ++ [(takenOut R (j + d)).1], W', R', ?_, ?_, by simp [h3], h4⟩
    · show ruleLoop (j + d + 1) ((takenOut W (j + d + 1)).1 :: S.map (wst j)) (takenOut W (j + d + 1)).2 = _
      rw [o1]
      rw [List.map_cons] at h1
      rw [h1]
      simp
    · show ruleLoop (j + d) ((takenOut R (j + d)).1 :: S) (takenOut R (j + d)).2 = _
      rw [h2]
      simp
end
/-- the wider plan's rule is the plan's, and the idle shim's step at its place -/
theorem rule_wider {p : Plan} {j : Nat} {lo hi : Q} (g : Good p) (hj : j ≤ p.shims.length) (hlo : Nm lo) (hhi : Nm hi) (hb : below hi lo = false) :
    ∃ (Y S : List Step) (R : List Row), ruleOf p = (Y ++ S, R) ∧ Y.length = j ∧ ruleOf (wider p j (lo, hi)) = (Y.map (wst j) ++ ([il p.sizes.length p.shims.length j lo], [ih p.sizes.length p.shims.length j hi]) :: S.map (wst j), R.map (wr j)) := by
  have h0 := rel_first (j := j) g hj hlo hhi
  obtain ⟨d, hd⟩ : ∃ d, p.shims.length = j + d := ⟨p.shims.length - j, by omega⟩
  obtain ⟨Z, W', R', e1, e2, _, h1⟩ := rule_high d [] _ _ h0
  obtain ⟨o1, o2⟩ := h1.gone hlo hhi hb
  obtain ⟨Y, W2, R2, f1, f2, f3, h2⟩ := rule_low j ((takenOut W' j).1 :: (Z ++ []).map (wst j)) (Z ++ []) _ _ (Nat.le_refl j) o2
  refine ⟨Y, Z ++ [], R2, ?_, f3, ?_⟩
  · unfold ruleOf
    rw [hd, e2, f2]
  · unfold ruleOf
    show ruleLoop (ins j (lo, hi) p.shims).length [] _ = _
    rw [ins_length, hd]
    have e1' : ruleLoop (j + d + 1) [] (firstRows (wider p j (lo, hi))) = ruleLoop (j + 1) ((Z ++ []).map (wst j)) W' := e1
    rw [e1']
    show ruleLoop j ((takenOut W' j).1 :: (Z ++ []).map (wst j)) (takenOut W' j).2 = _
    rw [o1] at f1 ⊢
    rw [f1, h2.eq, ← hd]
end Sh
namespace Sh
/-! ### what holds of a rule's rows -/
theorem mem_putOn {rows : List Row} {r s : Row} (h : s ∈ putOn rows r) : s ∈ rows ∨ s = r := by
  unfold putOn at h
  split at h
  · rcases List.mem_append.mp h with q | q
    · exact .inl q
    · exact .inr (List.mem_singleton.mp q)
  · exact .inl h
theorem putOn_sub {rows : List Row} {r s : Row} (h : s ∈ rows) : s ∈ putOn rows r := by
  unfold putOn
  split
  · exact List.mem_append_left _ h
  · exact h
theorem putOn_self {rows : List Row} {r : Row} (h : isPlain r = false) : r ∈ putOn rows r := by
  unfold putOn
  by_cases q : r ∈ rows
  · split
    · exact List.mem_append_left _ q
    · exact q
  · rw [if_pos ⟨h, q⟩]
    exact List.mem_append_right _ (List.mem_singleton.mpr rfl)
theorem crossIn_sub {k : Nat} {lo s : Row} : ∀ {hs acc : List Row}, s ∈ acc → s ∈ crossIn k lo hs acc
  | [], _, h => h
  | x :: hs, acc, h => crossIn_sub (hs := hs) (putOn_sub h)
theorem cross_sub {k : Nat} {hs : List Row} {s : Row} : ∀ {ls acc : List Row}, s ∈ acc → s ∈ cross k ls hs acc
  | [], _, h => h
  | x :: ls, acc, h => cross_sub (ls := ls) (crossIn_sub h)
theorem crossIn_all {P : Row → Prop} {k : Nat} {lo : Row} : ∀ {hs acc : List Row}, (∀ h ∈ hs, P (taken lo h k)) → (∀ r ∈ acc, P r) → ∀ r ∈ crossIn k lo hs acc, P r
  | [], _, _, ha => ha
  | x :: hs, acc, hh, ha => crossIn_all (hs := hs) (acc := putOn acc (taken lo x k)) (fun y hy => hh y (List.mem_cons_of_mem _ hy)) fun r hr => by
    rcases mem_putOn hr with q | q
    · exact ha r q
    · rw [q]; exact hh x List.mem_cons_self
theorem cross_all {P : Row → Prop} {k : Nat} {hs : List Row} : ∀ {ls acc : List Row}, (∀ l ∈ ls, ∀ h ∈ hs, P (taken l h k)) → (∀ r ∈ acc, P r) → ∀ r ∈ cross k ls hs acc, P r
  | [], _, _, ha => ha
  | x :: ls, acc, hh, ha => cross_all (ls := ls) (acc := crossIn k x hs acc) (fun y hy => hh y (List.mem_cons_of_mem _ hy)) (crossIn_all (hh x List.mem_cons_self) ha)
section
variable {P : Nat → Row → Prop} (mono : ∀ t r, P t r → P (t + 1) r) (ht : ∀ t k lo hi, P t lo → P t hi → P (t + 1) (taken lo hi k))
include mono ht
theorem out_all {t k : Nat} {rows : List Row} (h : ∀ r ∈ rows, P t r) : (∀ r ∈ (takenOut rows k).1.1, P t r) ∧ (∀ r ∈ (takenOut rows k).1.2, P t r) ∧ ∀ r ∈ (takenOut rows k).2, P (t + 1) r := by
  refine ⟨fun r hr => h r (List.mem_filter.mp hr).1, fun r hr => h r (List.mem_filter.mp hr).1, ?_⟩
  refine cross_all (P := P (t + 1)) (fun l hl x hx => ht t k l x (h l (List.mem_filter.mp hl).1) (h x (List.mem_filter.mp hx).1)) fun r hr => mono t r (h r (List.mem_filter.mp hr).1)
theorem loop_all : ∀ (k t : Nat) (st : List Step) (rows : List Row), (∀ r ∈ rows, P t r) → (∀ s ∈ st, (∀ r ∈ s.1, P t r) ∧ ∀ r ∈ s.2, P t r) →
    (∀ s ∈ (ruleLoop k st rows).1, (∀ r ∈ s.1, P (t + k) r) ∧ ∀ r ∈ s.2, P (t + k) r) ∧ ∀ r ∈ (ruleLoop k st rows).2, P (t + k) r
  | 0, t, st, rows, h, hs => ⟨hs, h⟩
  | k + 1, t, st, rows, h, hs => by
    obtain ⟨a, b, c⟩ := out_all mono ht (k := k) h
    have ih := loop_all k (t + 1) ((takenOut rows k).1 :: st) (takenOut rows k).2 c fun s q => by
      rcases List.mem_cons.mp q with e | q
      · rw [e]; exact ⟨fun r hr => mono t r (a r hr), fun r hr => mono t r (b r hr)⟩
      · exact ⟨fun r hr => mono t r ((hs s q).1 r hr), fun r hr => mono t r ((hs s q).2 r hr)⟩
    rw [show t + (k + 1) = t + 1 + k by omega]
    exact ih
end
theorem bounds_all {P : Row → Prop} {n m : Nat} : ∀ (ss : List (Q × Q)) (i : Nat) (rows : List Row), (∀ s ∈ ss, ∀ k, P (boundRow n m k one (minus zero s.1)) ∧ P (boundRow n m k mone s.2)) → (∀ r ∈ rows, P r) → ∀ r ∈ boundsLoop n m i ss rows, P r
  | [], _, _, _, h => h
  | s :: ss, i, rows, hs, h => bounds_all ss (i + 1) (putBounds n m rows i s) (fun t ht => hs t (List.mem_cons_of_mem _ ht)) fun r hr => by
    rcases mem_putOn hr with q | q
    · rcases mem_putOn q with q | q
      · exact h r q
      · rw [q]; exact (hs s List.mem_cons_self i).1
    · rw [q]; exact (hs s List.mem_cons_self i).2
theorem demands_all {P : Row → Prop} : ∀ (ds rows : List Row), (∀ r ∈ ds, P r) → (∀ r ∈ rows, P r) → ∀ r ∈ ds.foldl putOn rows, P r
  | [], _, _, h => h
  | d :: ds, rows, hd, h => demands_all ds (putOn rows d) (fun r hr => hd r (List.mem_cons_of_mem _ hr)) fun r hr => by
    rcases mem_putOn hr with q | q
    · exact h r q
    · rw [q]; exact hd d List.mem_cons_self
theorem first_all {P : Row → Prop} {p : Plan} (hd : ∀ r ∈ p.demands, P r) (hs : ∀ s ∈ p.shims, ∀ k, P (boundRow p.sizes.length p.shims.length k one (minus zero s.1)) ∧ P (boundRow p.sizes.length p.shims.length k mone s.2)) : ∀ r ∈ firstRows p, P r :=
  bounds_all _ _ _ hs (demands_all _ _ hd fun r h => nomatch h)
/-- all rows of a rule, by levels -/
theorem rule_all {P : Nat → Row → Prop} {p : Plan} (mono : ∀ t r, P t r → P (t + 1) r) (ht : ∀ t k lo hi, P t lo → P t hi → P (t + 1) (taken lo hi k)) (hd : ∀ r ∈ p.demands, P 0 r)
    (hs : ∀ s ∈ p.shims, ∀ k, P 0 (boundRow p.sizes.length p.shims.length k one (minus zero s.1)) ∧ P 0 (boundRow p.sizes.length p.shims.length k mone s.2)) :
    (∀ s ∈ (ruleOf p).1, (∀ r ∈ s.1, P p.shims.length r) ∧ ∀ r ∈ s.2, P p.shims.length r) ∧ ∀ r ∈ (ruleOf p).2, P p.shims.length r := by
  have h := loop_all mono ht p.shims.length 0 [] (firstRows p) (first_all hd hs) (fun s h => nomatch h)
  rw [Nat.zero_add] at h
  exact h

/-! ### every shim has a low -/
def unit (m i : Nat) : List Q := (List.replicate m zero).set i one
theorem steps_ok {m : Nat} : ∀ (k : Nat) (st : List Step) (rows : List Row), k ≤ m → (∀ i < k, ∃ r ∈ rows, r.b = unit m i) →
    ∃ X : List Step, (ruleLoop k st rows).1 = X ++ st ∧ X.length = k ∧ ∀ (i : Nat) (s : Step), X[i]? = some s → s.1 ≠ [] ∧ ∀ r ∈ s.1, below zero (at_ r.b i) = true
  | 0, st, rows, _, _ => ⟨[], rfl, rfl, fun i s h => by simp at h⟩
  | k + 1, st, rows, hk, h => by
    have keep : ∀ i < k, ∃ r ∈ (takenOut rows k).2, r.b = unit m i := fun i hi => by
      obtain ⟨r, hr, e⟩ := h i (by omega)
      refine ⟨r, cross_sub (List.mem_filter.mpr ⟨hr, ?_⟩), e⟩
      rw [e]
      exact decide_eq_true (at_set_ne (by omega))
    obtain ⟨X, e1, e2, e3⟩ := steps_ok k ((takenOut rows k).1 :: st) (takenOut rows k).2 (by omega) keep
    refine ⟨X ++ [(takenOut rows k).1], ?_, by simp [e2], fun i s hi => ?_⟩
    · show (ruleLoop k ((takenOut rows k).1 :: st) (takenOut rows k).2).1 = _
      rw [e1]
      simp
    · rcases Nat.lt_trichotomy i X.length with q | q | q
      · rw [List.getElem?_append_left q] at hi
        exact e3 i s hi
      · rw [List.getElem?_append_right (by omega), q, Nat.sub_self] at hi
        have es : (takenOut rows k).1 = s := by simpa using hi
        rw [← es, q, e2]
        refine ⟨?_, fun r hr => (List.mem_filter.mp hr).2⟩
        obtain ⟨r, hr, e⟩ := h k (by omega)
        have : r ∈ lowsOf rows k := List.mem_filter.mpr ⟨hr, by rw [e]; show below zero (at_ (unit m k) k) = true; unfold unit; rw [at_set_self (by omega)]; decide⟩
        exact List.ne_nil_of_mem this
      · rw [List.getElem?_eq_none (by rw [List.length_append, List.length_singleton]; omega)] at hi
        cases hi
theorem bounds_sub {n m : Nat} {r : Row} : ∀ (ss : List (Q × Q)) (i : Nat) (rows : List Row), r ∈ rows → r ∈ boundsLoop n m i ss rows
  | [], _, _, h => h
  | s :: ss, i, rows, h => bounds_sub ss (i + 1) _ (putOn_sub (putOn_sub h))
theorem bounds_unit {n m : Nat} : ∀ (ss : List (Q × Q)) (i : Nat) (rows : List Row), i + ss.length ≤ m → ∀ k, i ≤ k → k < i + ss.length → ∃ r ∈ boundsLoop n m i ss rows, r.b = unit m k
  | [], i, _, _, k, h1, h2 => by rw [List.length_nil] at h2; omega
  | s :: ss, i, rows, hl, k, h1, h2 => by
    rw [List.length_cons] at hl h2
    by_cases e : k = i
    · subst e
      exact ⟨boundRow n m k one (minus zero s.1), bounds_sub ss (k + 1) _ (putOn_sub (putOn_self (not_plain (by omega) (by decide)))), rfl⟩
    · exact bounds_unit ss (i + 1) _ (by omega) k (by omega) (by omega)
/-- the steps of a rule: one for each shim, each with a low, all lows' parts above 0 -/
theorem rule_steps (p : Plan) : (ruleOf p).1.length = p.shims.length ∧ ∀ (i : Nat) (s : Step), (ruleOf p).1[i]? = some s → s.1 ≠ [] ∧ ∀ r ∈ s.1, below zero (at_ r.b i) = true := by
  obtain ⟨X, e1, e2, e3⟩ := steps_ok (m := p.shims.length) p.shims.length [] (firstRows p) (Nat.le_refl _) fun i hi =>
    bounds_unit p.shims 0 _ (by omega) i (by omega) (by omega)
  unfold ruleOf
  rw [e1, List.append_nil]
  exact ⟨e2, e3⟩
theorem rule_rk {p : Plan} (g : Good p) : (∀ s ∈ (ruleOf p).1, (∀ r ∈ s.1, Rk p.shims.length r ∧ r.a.length = p.sizes.length) ∧ ∀ r ∈ s.2, Rk p.shims.length r ∧ r.a.length = p.sizes.length) ∧ ∀ r ∈ (ruleOf p).2, Rk p.shims.length r ∧ r.a.length = p.sizes.length := by
  refine rule_all (P := fun _ r => Rk p.shims.length r ∧ r.a.length = p.sizes.length) (fun _ _ h => h) (fun _ k lo hi h1 h2 => ⟨taken_rk h1.1 h2.1, ?_⟩) (fun r hr => ⟨g.de r hr, g.la r hr⟩) fun s hs k => ?_
  · show (List.zipWith _ lo.a hi.a).length = _
    rw [List.length_zipWith, h1.2, h2.2, Nat.min_self]
  · obtain ⟨n1, n2, _⟩ := g.sh s hs
    exact ⟨⟨bound_rk nm_one (minus_nm nm_zero.1 n1.1), by show (List.replicate _ _).length = _; rw [List.length_replicate]⟩, bound_rk nm_mone n2, by show (List.replicate _ _).length = _; rw [List.length_replicate]⟩

/-! ### choices -/
theorem better_some (best : Option Q) (w : Q) : ∃ v, better best w = some v ∧ (v = w ∨ best = some v) := by
  cases best with
  | none => exact ⟨w, rfl, .inl rfl⟩
  | some b =>
    show ∃ v, (if below b w then some w else some b) = some v ∧ _
    split
    · exact ⟨w, rfl, .inl rfl⟩
    · exact ⟨b, rfl, .inr rfl⟩
theorem best_mem {made ch : List Q} {k : Nat} : ∀ (lows : List Row) (b : Option Q) (v : Q), lows.foldl (fun best r => better best (lowest r made ch k)) b = some v → b = some v ∨ ∃ r ∈ lows, v = lowest r made ch k
  | [], b, v, h => .inl h
  | r :: rs, b, v, h => by
    rcases best_mem rs _ v h with q | ⟨s, hs, e⟩
    · obtain ⟨u, e1, e2⟩ := better_some b (lowest r made ch k)
      have q : better b (lowest r made ch k) = some v := q
      rw [e1] at q
      have e3 := Option.some.inj q
      subst e3
      rcases e2 with e2 | e2
      · exact .inr ⟨r, List.mem_cons_self, e2⟩
      · exact .inl e2
    · exact .inr ⟨s, List.mem_cons_of_mem _ hs, e⟩
theorem best_some {made ch : List Q} {k : Nat} : ∀ (lows : List Row) (b : Option Q), (lows ≠ [] ∨ b ≠ none) → ∃ v, lows.foldl (fun best r => better best (lowest r made ch k)) b = some v
  | [], b, h => by
    cases b with
    | none => simp at h
    | some v => exact ⟨v, rfl⟩
  | r :: rs, b, _ => by
    obtain ⟨u, e1, _⟩ := better_some b (lowest r made ch k)
    exact best_some rs _ (.inr (by show better b (lowest r made ch k) ≠ none; rw [e1]; simp))
theorem addUp_pos : ∀ {ps : List (Q × Q)} {f : Q}, 0 < f.2 → (∀ p ∈ ps, 0 < p.1.2 ∧ 0 < p.2.2) → 0 < (addUp f ps).2
  | [], _, h, _ => h
  | p :: ps, f, h, hp => addUp_pos (ps := ps) (f := plus f (times p.1 p.2)) (plus_nm h (times_nm (hp p List.mem_cons_self).1 (hp p List.mem_cons_self).2).1).1 fun q hq => hp q (List.mem_cons_of_mem _ hq)
theorem pairs_pos {m : Nat} {r : Row} {made ch : List Q} (h : Rk m r) (hm : ∀ q ∈ made, 0 < q.2) (hc : ∀ q ∈ ch, 0 < q.2) : ∀ p ∈ pairs r made ch, 0 < p.1.2 ∧ 0 < p.2.2 := by
  intro p hp
  rcases List.mem_append.mp hp with q | q
  · exact ⟨(h.na _ (List.of_mem_zip q).1).1, hm _ (List.of_mem_zip q).2⟩
  · exact ⟨(h.nb _ (List.of_mem_zip q).1).1, hc _ (List.of_mem_zip q).2⟩
theorem worth_pos {m : Nat} {r : Row} {made ch : List Q} (h : Rk m r) (hm : ∀ q ∈ made, 0 < q.2) (hc : ∀ q ∈ ch, 0 < q.2) : 0 < (worth r made ch).2 := addUp_pos h.nc.1 (pairs_pos h hm hc)
theorem lowest_nm {m k : Nat} {r : Row} {made ch : List Q} (h : Rk m r) (hm : ∀ q ∈ made, 0 < q.2) (hc : ∀ q ∈ ch, 0 < q.2) (hb : below zero (at_ r.b k) = true) : Nm (lowest r made ch k) := by
  rw [below_zero_left, decide_eq_true_eq] at hb
  exact over_nm (minus_nm nm_zero.1 (worth_pos h hm hc)).1 hb
theorem best_nm {m k : Nat} {lows : List Row} {made ch : List Q} (h : ∀ r ∈ lows, Rk m r ∧ below zero (at_ r.b k) = true) (hm : ∀ q ∈ made, 0 < q.2) (hc : ∀ q ∈ ch, 0 < q.2) : Nm ((bestOf lows made ch k).getD zero) := by
  cases e : bestOf lows made ch k with
  | none => exact nm_zero
  | some v =>
    rcases best_mem lows none v e with q | ⟨r, hr, e2⟩
    · cases q
    · show Nm v
      rw [e2]
      exact lowest_nm (h r hr).1 hm hc (h r hr).2
/-- steps from the place i on -/
def Wf (m i : Nat) (st : List Step) : Prop := ∀ (k : Nat) (s : Step), st[k]? = some s → ∀ r ∈ s.1, Rk m r ∧ below zero (at_ r.b (i + k)) = true
theorem Wf.head {m i : Nat} {s : Step} {st : List Step} (h : Wf m i (s :: st)) : ∀ r ∈ s.1, Rk m r ∧ below zero (at_ r.b i) = true := h 0 s rfl
theorem Wf.tail {m i : Nat} {s : Step} {st : List Step} (h : Wf m i (s :: st)) : Wf m (i + 1) st := fun k t e => by
  have := h (k + 1) t e
  rwa [show i + (k + 1) = i + 1 + k by omega] at this

section
variable {m j n : Nat} {made : List Q} {lo hi : Q}
theorem zip_le {α β : Type} : ∀ {j : Nat} {x : α} {l : List α} {c : List β}, c.length ≤ j → j ≤ l.length → (ins j x l).zip c = l.zip c := by
  intro j x l c hc hj
  apply List.ext_getElem?
  intro i
  unfold List.zip
  rw [List.getElem?_zipWith, List.getElem?_zipWith]
  by_cases h : i < c.length
  · rw [ins_get_lt (by omega) hj]
  · have e : c[i]? = none := List.getElem?_eq_none (by omega)
    rw [e]
    cases (ins j x l)[i]? <;> cases l[i]? <;> rfl
theorem zip_split {α β : Type} {j : Nat} {x : α} {y : β} {l : List α} {c : List β} (hl : j ≤ l.length) (hc : j ≤ c.length) :
    (ins j x l).zip (ins j y c) = (l.take j).zip (c.take j) ++ (x, y) :: (l.drop j).zip (c.drop j) ∧ l.zip c = (l.take j).zip (c.take j) ++ (l.drop j).zip (c.drop j) := by
  have e : (l.take j).length = (c.take j).length := by rw [List.length_take, List.length_take]; omega
  constructor
  · unfold ins
    rw [List.append_assoc, List.append_assoc, List.zip_append e]
    rfl
  · conv => lhs; rw [← List.take_append_drop j l, ← List.take_append_drop j c]
    rw [List.zip_append e]
theorem worth_le {r : Row} {ch : List Q} (hr : r.b.length = m) (hj : j ≤ m) (hc : ch.length ≤ j) : worth (wr j r) made ch = worth r made ch := by
  unfold worth pairs wr
  simp only
  rw [zip_le hc (by omega)]
theorem worth_ge {r : Row} {ch : List Q} (hr : Rk m r) (hj : j ≤ m) (hc : j ≤ ch.length) (hl : 0 < lo.2) : worth (wr j r) made (ins j lo ch) = worth r made ch := by
  obtain ⟨e1, e2⟩ := zip_split (x := zero) (y := lo) (l := r.b) (c := ch) (by rw [hr.len]; exact hj) hc
  unfold worth pairs wr
  simp only
  rw [e1, e2, addUp_app, addUp_app, addUp_app, addUp_app]
  show addUp (plus (addUp (addUp r.c _) _) (times zero lo)) _ = _
  rw [times_zero_left hl, plus_zero_sb (addUp_sb (addUp_sb hr.nc.sb))]
theorem foldl_map_congr {α β γ : Type} {f : β → γ → β} {g : β → α → β} {h : α → γ} : ∀ (xs : List α) (b : β), (∀ x ∈ xs, ∀ b, f b (h x) = g b x) → (xs.map h).foldl f b = xs.foldl g b
  | [], _, _ => rfl
  | x :: xs, b, e => by
    show (xs.map h).foldl f (f b (h x)) = xs.foldl g (g b x)
    rw [e x List.mem_cons_self b]
    exact foldl_map_congr xs _ fun y hy => e y (List.mem_cons_of_mem _ hy)
theorem best_lt {lows : List Row} {ch : List Q} (hr : ∀ r ∈ lows, r.b.length = m) (hj : j ≤ m) (hc : ch.length < j) : bestOf (lows.map (wr j)) made ch ch.length = bestOf lows made ch ch.length := by
  unfold bestOf
  refine foldl_map_congr lows none fun r h b => ?_
  unfold lowest
  rw [worth_le (hr r h) hj (by omega)]
  show better b (over _ (at_ (ins j zero r.b) ch.length)) = _
  rw [at_lt hc (by rw [hr r h]; exact hj)]
theorem best_ge {lows : List Row} {ch : List Q} (hr : ∀ r ∈ lows, Rk m r) (hj : j ≤ m) (hc : j ≤ ch.length) (hl : 0 < lo.2) : bestOf (lows.map (wr j)) made (ins j lo ch) (ins j lo ch).length = bestOf lows made ch ch.length := by
  unfold bestOf
  refine foldl_map_congr lows none fun r h b => ?_
  unfold lowest
  rw [worth_ge (hr r h) hj hc hl, ins_length]
  show better b (over _ (at_ (ins j zero r.b) (ch.length + 1))) = _
  rw [at_gt hc (by rw [(hr r h).len]; exact hj)]
theorem ins_snoc {α : Type} {j : Nat} {x y : α} {l : List α} (h : j ≤ l.length) : ins j x l ++ [y] = ins j x (l ++ [y]) := by
  unfold ins
  rw [List.take_append_of_le_length h, List.drop_append_of_le_length h]
  simp
theorem ins_end {α : Type} {x : α} {l : List α} : ins l.length x l = l ++ [x] := by
  unfold ins
  simp
/-- behind the idle shim -/
theorem choose_ge (hj : j ≤ m) (hl : 0 < lo.2) : ∀ (S : List Step) (ch : List Q), (∀ s ∈ S, ∀ r ∈ s.1, Rk m r) → j ≤ ch.length → choose (S.map (wst j)) made (ins j lo ch) = ins j lo (choose S made ch)
  | [], _, _, _ => rfl
  | s :: S, ch, h, hc => by
    show choose (S.map (wst j)) made (ins j lo ch ++ [(bestOf (s.1.map (wr j)) made (ins j lo ch) (ins j lo ch).length).getD zero]) = ins j lo (choose S made (ch ++ [(bestOf s.1 made ch ch.length).getD zero]))
    rw [best_ge (h s List.mem_cons_self) hj hc hl, ins_snoc hc]
    exact choose_ge hj hl S _ (fun t ht => h t (List.mem_cons_of_mem _ ht)) (by rw [List.length_append]; omega)
/-- ahead of it -/
theorem choose_lt (hj : j ≤ m) (hm : ∀ q ∈ made, 0 < q.2) : ∀ (Y T1 T2 : List Step) (ch : List Q), Wf m ch.length Y → ch.length + Y.length ≤ j → (∀ q ∈ ch, 0 < q.2) →
    ∃ ch' : List Q, ch'.length = ch.length + Y.length ∧ (∀ q ∈ ch', 0 < q.2) ∧ choose (Y.map (wst j) ++ T1) made ch = choose T1 made ch' ∧ choose (Y ++ T2) made ch = choose T2 made ch'
  | [], T1, T2, ch, _, _, hc => ⟨ch, rfl, hc, rfl, rfl⟩
  | s :: Y, T1, T2, ch, w, hl, hc => by
    rw [List.length_cons] at hl
    have nb : 0 < ((bestOf s.1 made ch ch.length).getD zero).2 := (best_nm w.head hm hc).1
    obtain ⟨ch', e1, e2, e3, e4⟩ := choose_lt hj hm Y T1 T2 (ch ++ [(bestOf s.1 made ch ch.length).getD zero]) (by rw [List.length_append]; exact w.tail) (by rw [List.length_append, List.length_singleton]; omega) fun q hq => by
      rcases List.mem_append.mp hq with q1 | q1
      · exact hc q q1
      · rw [List.mem_singleton.mp q1]; exact nb
    refine ⟨ch', ?_, e2, ?_, ?_⟩
    · rw [e1, List.length_append, List.length_singleton, List.length_cons]
      omega
    · show choose (Y.map (wst j) ++ T1) made (ch ++ [(bestOf (s.1.map (wr j)) made ch ch.length).getD zero]) = _
      rw [best_lt (fun r hr => (w.head r hr).1.len) hj (by omega)]
      exact e3
    · exact e4
/-- at it -/
theorem choose_at (hj : j ≤ m) (hm : ∀ q ∈ made, 0 < q.2) (hlo : Nm lo) {T : List Step} {U : List Row} {ch : List Q} (hc : ∀ q ∈ ch, 0 < q.2) (hl : ch.length = j) : choose (([il n m j lo], U) :: T) made ch = choose T made (ins j lo ch) := by
  have e : bestOf [il n m j lo] made ch ch.length = some lo := by
    show some (lowest (il n m j lo) made ch ch.length) = some lo
    have e1 : worth (il n m j lo) made ch = minus zero lo := by
      show addUp (minus zero lo) (pairs (il n m j lo) made ch) = minus zero lo
      refine addUp_zeros (fr_sb _ _) fun p hp => ?_
      rcases List.mem_append.mp hp with q | q
      · exact ⟨List.eq_of_mem_replicate (List.of_mem_zip q).1, hm _ (List.of_mem_zip q).2⟩
      · refine ⟨?_, hc _ (List.of_mem_zip q).2⟩
        obtain ⟨i, hi⟩ := List.mem_iff_getElem?.mp q
        unfold List.zip at hi
        rw [List.getElem?_zipWith] at hi
        have hlt : i < ch.length := by
          rcases Nat.lt_or_ge i ch.length with h | h
          · exact h
          · rw [List.getElem?_eq_none h] at hi
            cases h2 : (il n m j lo).b[i]? <;> rw [h2] at hi <;> cases hi
        have e2 : (il n m j lo).b[i]? = some zero := by
          show ((List.replicate (m + 1) zero).set j one)[i]? = some zero
          rw [List.getElem?_set_ne (by omega), List.getElem?_replicate, if_pos (by omega)]
        rw [e2] at hi
        cases h3 : ch[i]? with
        | none => rw [h3] at hi; cases hi
        | some z =>
          rw [h3] at hi
          have := Option.some.inj hi
          rw [← this]
    unfold lowest
    rw [e1, minus_minus hlo, hl, il_at hj, over_one hlo]
  show choose T made (ch ++ [(bestOf [il n m j lo] made ch ch.length).getD zero]) = _
  rw [e, ← hl, ins_end]
  rfl
end
/-- THE LAW, in plain words: an idle shim changes no choice -/
theorem idle_shim {p : Plan} {j : Nat} {lo hi : Q} {made : List Q} (g : Good p) (hj : j ≤ p.shims.length) (hlo : Nm lo) (hhi : Nm hi) (hb : below hi lo = false) (hm : ∀ q ∈ made, 0 < q.2) :
    chosenBy (ruleOf (wider p j (lo, hi))) made = (chosenBy (ruleOf p) made).map (ins j lo) := by
  obtain ⟨Y, S, R, e1, e2, e3⟩ := rule_wider g hj hlo hhi hb
  have k := rule_rk g
  have st := rule_steps p
  rw [e1] at k st
  rw [e1, e3]
  have er : refused (R.map (wr j)) made = refused R made := by
    unfold refused
    rw [List.any_map]
    congr 1
    funext r
    show below (addUp r.c (r.a.zip made ++ (ins j zero r.b).zip [])) zero = below (addUp r.c (r.a.zip made ++ r.b.zip [])) zero
    rw [List.zip_nil_right, List.zip_nil_right]
  unfold chosenBy
  simp only
  rw [er]
  by_cases c : refused R made = true
  · rw [if_pos c, if_pos c]
    rfl
  · rw [if_neg c, if_neg c]
    have w : Wf p.shims.length 0 Y := fun i s hs r hr => by
      rw [Nat.zero_add]
      have hs' : (Y ++ S)[i]? = some s := by rw [List.getElem?_append_left (List.getElem?_eq_some_iff.mp hs).1]; exact hs
      exact ⟨((k.1 s (List.mem_of_getElem? hs')).1 r hr).1, (st.2 i s hs').2 r hr⟩
    obtain ⟨ch, f1, f2, f3, f4⟩ := choose_lt (j := j) hj hm Y (([il p.sizes.length p.shims.length j lo], [ih p.sizes.length p.shims.length j hi]) :: S.map (wst j)) S [] w (by rw [List.length_nil]; omega) (fun q h => nomatch h)
    rw [List.length_nil, Nat.zero_add, e2] at f1
    rw [f3, f4, choose_at hj hm hlo f2 f1, choose_ge hj hlo.1 S ch (fun s hs r hr => ((k.1 s (List.mem_append_right _ hs)).1 r hr).1) (by omega)]
    rfl
end Sh
namespace Sh
/-! ### sizes -/
/-- both parts below 2^n, the lower one above 0 -/
def Bd (n : Nat) (q : Q) : Prop := q.1.natAbs < 2 ^ n ∧ 0 < q.2 ∧ q.2.natAbs < 2 ^ n
theorem Bd.mono {n m : Nat} {q : Q} (h : Bd n q) (l : n ≤ m) : Bd m q := by
  have := Nat.pow_le_pow_right (n := 2) (by decide) l
  exact ⟨Nat.lt_of_lt_of_le h.1 this, h.2.1, Nat.lt_of_lt_of_le h.2.2 this⟩
theorem natAbs_ediv_le (t : Int) (g : Nat) (hd : (g : Int) ∣ t) : (t / (g : Int)).natAbs ≤ t.natAbs := by
  obtain ⟨c, hc⟩ := hd
  by_cases h : g = 0
  · subst h
    simp
  · rw [hc, Int.mul_ediv_cancel_left _ (by omega), Int.natAbs_mul]
    exact Nat.le_mul_of_pos_left _ (by simp; omega)
theorem fr_bd {t b : Int} {n : Nat} (h1 : t.natAbs < 2 ^ n) (h2 : 0 < b) (h3 : b.natAbs < 2 ^ n) : Bd n (fr t b) :=
  ⟨Nat.lt_of_le_of_lt (natAbs_ediv_le t _ (Int.gcd_dvd_left _ _)) h1, fr_pos h2, Nat.lt_of_le_of_lt (natAbs_ediv_le b _ (Int.gcd_dvd_right _ _)) h3⟩
theorem mul_lt2 {a b : Int} {n m : Nat} (h1 : a.natAbs < 2 ^ n) (h2 : b.natAbs < 2 ^ m) : (a * b).natAbs < 2 ^ (n + m) := by
  rw [Int.natAbs_mul, Nat.pow_add]
  exact Nat.mul_lt_mul'' h1 h2
theorem add_lt2 {a b : Int} {n : Nat} (h1 : a.natAbs < 2 ^ n) (h2 : b.natAbs < 2 ^ n) : (a + b).natAbs < 2 ^ (n + 1) := by
  have := Int.natAbs_add_le a b
  rw [Nat.pow_succ]
  omega
theorem sub_lt2 {a b : Int} {n : Nat} (h1 : a.natAbs < 2 ^ n) (h2 : b.natAbs < 2 ^ n) : (a - b).natAbs < 2 ^ (n + 1) := by
  have := Int.natAbs_sub_le a b
  rw [Nat.pow_succ]
  omega
theorem pow_le2 {n m : Nat} (h : n ≤ m) : 2 ^ n ≤ 2 ^ m := Nat.pow_le_pow_right (by decide) h
section
variable {n m : Nat} {q r : Q} (hq : Bd n q) (hr : Bd m r)
include hq hr
theorem cross_lt : (r.1 * q.2).natAbs < 2 ^ (n + m) := by rw [Nat.add_comm]; exact mul_lt2 hr.1 hq.2.2
theorem den_lt : (q.2 * r.2).natAbs < 2 ^ (n + m) := mul_lt2 hq.2.2 hr.2.2
theorem plus_bd : Bd (n + m + 1) (plus q r) := fr_bd (add_lt2 (mul_lt2 hq.1 hr.2.2) (cross_lt hq hr)) (Int.mul_pos hq.2.1 hr.2.1) (Nat.lt_of_lt_of_le (den_lt hq hr) (pow_le2 (by omega)))
theorem minus_bd : Bd (n + m + 1) (minus q r) := fr_bd (sub_lt2 (mul_lt2 hq.1 hr.2.2) (cross_lt hq hr)) (Int.mul_pos hq.2.1 hr.2.1) (Nat.lt_of_lt_of_le (den_lt hq hr) (pow_le2 (by omega)))
theorem times_bd : Bd (n + m) (times q r) := fr_bd (mul_lt2 hq.1 hr.1) (Int.mul_pos hq.2.1 hr.2.1) (den_lt hq hr)
theorem over_bd (h : 0 < r.1) : Bd (n + m) (over q r) := fr_bd (mul_lt2 hq.1 hr.2.2) (Int.mul_pos hq.2.1 h) (mul_lt2 hq.2.2 hr.1)
end
theorem bd_zero : Bd 1 zero := ⟨by decide, by decide, by decide⟩
theorem bd_one : Bd 1 one := ⟨by decide, by decide, by decide⟩
theorem bd_mone : Bd 1 mone := ⟨by decide, by decide, by decide⟩
/-- two fractions that may be reckoned with; .. that may be compared -/
def P2 (q r : Q) : Prop := ∃ a b, 0 < a ∧ 0 < b ∧ Bd a q ∧ Bd b r ∧ a + b ≤ 8990
def PB (q r : Q) : Prop := ∃ a b, 0 < a ∧ 0 < b ∧ Bd a q ∧ Bd b r ∧ a + b ≤ 400000
theorem P2.of {q r : Q} {a b : Nat} (hq : Bd a q) (hr : Bd b r) (h : a + b ≤ 8980) : P2 q r := ⟨a + 1, b + 1, by omega, by omega, hq.mono (by omega), hr.mono (by omega), by omega⟩
theorem PB.of {q r : Q} {a b : Nat} (hq : Bd a q) (hr : Bd b r) (h : a + b ≤ 300000) : PB q r := ⟨a + 1, b + 1, by omega, by omega, hq.mono (by omega), hr.mono (by omega), by omega⟩
theorem P2.pb {q r : Q} (h : P2 q r) : PB q r := by
  obtain ⟨a, b, h1, h2, h3, h4, h5⟩ := h
  exact ⟨a, b, h1, h2, h3, h4, by omega⟩

/-- rows: the parts below 2^x, c below 2^y -/
structure RB (x y : Nat) (r : Row) : Prop where
  a : ∀ q ∈ r.a, Bd x q
  b : ∀ q ∈ r.b, Bd x q
  c : Bd y r.c
theorem RB.mono {x y x' y' : Nat} {r : Row} (h : RB x y r) (hx : x ≤ x') (hy : y ≤ y') : RB x' y' r := ⟨fun q hq => (h.a q hq).mono hx, fun q hq => (h.b q hq).mono hx, h.c.mono hy⟩
theorem RB.at {x y k : Nat} {r : Row} (h : RB x y r) (hx : 1 ≤ x) : Bd x (at_ r.b k) := by
  unfold at_
  rw [List.getD_eq_getElem?_getD]
  cases e : r.b[k]? with
  | none => exact bd_zero.mono hx
  | some q => exact h.b q (List.mem_of_getElem? e)
theorem RB.taken {x y k : Nat} {lo hi : Row} (hl : RB x y lo) (hh : RB x y hi) (hx : 1 ≤ x) : RB (4 * x + 3) (2 * x + 2 * y + 3) (taken lo hi k) := by
  have n1 : Bd (1 + x + 1) (minus zero (at_ hi.b k)) := minus_bd bd_zero (hh.at hx)
  have n2 : Bd x (at_ lo.b k) := hl.at hx
  have mx : ∀ xs ys : List Q, (∀ q ∈ xs, Bd x q) → (∀ q ∈ ys, Bd x q) → ∀ q ∈ mix xs (minus zero (at_ hi.b k)) ys (at_ lo.b k), Bd (4 * x + 3) q := fun xs ys h1 h2 q hq => by
    obtain ⟨u, hu, v, hv, e⟩ := mem_zipWith hq
    rw [e]
    exact (plus_bd (times_bd (h1 u hu) n1) (times_bd (h2 v hv) n2)).mono (by omega)
  exact ⟨mx _ _ hl.a hh.a, mx _ _ hl.b hh.b, (plus_bd (times_bd hl.c n1) (times_bd hh.c n2)).mono (by omega)⟩
/-- what taken asks -/
def mixOk (xs : List Q) (m : Q) (ys : List Q) (n : Q) : Prop := ∀ p ∈ xs.zip ys, P2 p.1 m ∧ P2 p.2 n ∧ P2 (times p.1 m) (times p.2 n)
structure TkOk (lo hi : Row) (k : Nat) : Prop where
  n1 : P2 zero (at_ hi.b k)
  a : mixOk lo.a (minus zero (at_ hi.b k)) hi.a (at_ lo.b k)
  b : mixOk lo.b (minus zero (at_ hi.b k)) hi.b (at_ lo.b k)
  c1 : P2 lo.c (minus zero (at_ hi.b k))
  c2 : P2 hi.c (at_ lo.b k)
  c3 : P2 (times lo.c (minus zero (at_ hi.b k))) (times hi.c (at_ lo.b k))
theorem tkOk {x y k : Nat} {lo hi : Row} (hl : RB x y lo) (hh : RB x y hi) (hx : 1 ≤ x) (h1 : 4 * x + 3 ≤ 8000) (h2 : 2 * x + 2 * y + 3 ≤ 8000) : TkOk lo hi k := by
  have n1 : Bd (1 + x + 1) (minus zero (at_ hi.b k)) := minus_bd bd_zero (hh.at hx)
  have n2 : Bd x (at_ lo.b k) := hl.at hx
  have mx : ∀ xs ys : List Q, (∀ q ∈ xs, Bd x q) → (∀ q ∈ ys, Bd x q) → mixOk xs (minus zero (at_ hi.b k)) ys (at_ lo.b k) := fun xs ys g1 g2 p hp => by
    have u := g1 p.1 (List.of_mem_zip hp).1
    have v := g2 p.2 (List.of_mem_zip hp).2
    exact ⟨.of u n1 (by omega), .of v n2 (by omega), .of (times_bd u n1) (times_bd v n2) (by omega)⟩
  exact ⟨.of bd_zero (hh.at hx) (by omega), mx _ _ hl.a hh.a, mx _ _ hl.b hh.b, .of hl.c n1 (by omega), .of hh.c n2 (by omega), .of (times_bd hl.c n1) (times_bd hh.c n2) (by omega)⟩

/-! ### levels: how large the rows are, how many -/
def lx : Nat → Nat
  | 0 => 6
  | t + 1 => 4 * lx t + 3
def ly : Nat → Nat
  | 0 => 41
  | t + 1 => 2 * lx t + 2 * ly t + 3
theorem lx_pos : ∀ t, 1 ≤ lx t
  | 0 => by decide
  | t + 1 => by unfold lx; omega
def Lv (t : Nat) (r : Row) : Prop := RB (lx t) (ly t) r
theorem Lv.up (t : Nat) (r : Row) (h : Lv t r) : Lv (t + 1) r := by
  have := lx_pos t
  exact RB.mono h (show lx t ≤ 4 * lx t + 3 by omega) (show ly t ≤ 2 * lx t + 2 * ly t + 3 by omega)
theorem Lv.tk (t k : Nat) (lo hi : Row) (h1 : Lv t lo) (h2 : Lv t hi) : Lv (t + 1) (taken lo hi k) := RB.taken h1 h2 (lx_pos t)
theorem Lv.le {t u : Nat} {r : Row} (h : Lv t r) (l : t ≤ u) : Lv u r := by
  obtain ⟨d, rfl⟩ := Nat.exists_eq_add_of_le l
  clear l
  induction d with
  | zero => exact h
  | succ d ih => exact Lv.up _ _ ih
theorem Lv.two {t : Nat} {r : Row} (h : Lv t r) (l : t ≤ 2) : RB 111 251 r := h.le l
theorem putOn_len (rows : List Row) (r : Row) : (putOn rows r).length ≤ rows.length + 1 := by
  unfold putOn
  split
  · simp
  · omega
theorem crossIn_len {k : Nat} {lo : Row} : ∀ (hs acc : List Row), (crossIn k lo hs acc).length ≤ acc.length + hs.length
  | [], acc => Nat.le_refl _
  | h :: hs, acc => by
    have h1 := crossIn_len (k := k) (lo := lo) hs (putOn acc (taken lo h k))
    have h2 := putOn_len acc (taken lo h k)
    show (crossIn k lo hs (putOn acc (taken lo h k))).length ≤ _
    rw [List.length_cons]
    omega
theorem cross_len {k : Nat} {hs : List Row} : ∀ (ls acc : List Row), (cross k ls hs acc).length ≤ acc.length + ls.length * hs.length
  | [], acc => by show acc.length ≤ _; omega
  | l :: ls, acc => by
    have h1 := cross_len (k := k) (hs := hs) ls (crossIn k l hs acc)
    have h2 := crossIn_len (k := k) (lo := l) hs acc
    show (cross k ls hs (crossIn k l hs acc)).length ≤ _
    rw [List.length_cons, Nat.succ_mul]
    omega
theorem three_len (k : Nat) : ∀ rows : List Row, (lowsOf rows k).length + (highsOf rows k).length + (leftOf rows k).length ≤ rows.length
  | [] => Nat.le_refl 0
  | r :: rows => by
    have ih := three_len k rows
    unfold lowsOf highsOf leftOf at *
    rw [List.filter_cons, List.filter_cons, List.filter_cons, List.length_cons]
    rcases Int.lt_trichotomy (at_ r.b k).1 0 with h | h | h
    · have e1 : below zero (at_ r.b k) = false := by rw [below_zero_left]; exact decide_eq_false (by omega)
      have e2 : below (at_ r.b k) zero = true := by rw [below_zero_right]; exact decide_eq_true h
      have e3 : decide (at_ r.b k = zero) = false := decide_eq_false fun e => by rw [e] at h; exact absurd h (by decide)
      rw [e1, e2, e3]
      simp only [Bool.false_eq_true, if_false, if_true, List.length_cons]
      omega
    · have e1 : below zero (at_ r.b k) = false := by rw [below_zero_left]; exact decide_eq_false (by omega)
      have e2 : below (at_ r.b k) zero = false := by rw [below_zero_right]; exact decide_eq_false (by omega)
      rw [e1, e2]
      simp only [Bool.false_eq_true, if_false]
      split
      · rw [List.length_cons]; omega
      · omega
    · have e1 : below zero (at_ r.b k) = true := by rw [below_zero_left]; exact decide_eq_true h
      have e2 : below (at_ r.b k) zero = false := by rw [below_zero_right]; exact decide_eq_false (by omega)
      have e3 : decide (at_ r.b k = zero) = false := decide_eq_false fun e => by rw [e] at h; exact absurd h (by decide)
      rw [e1, e2, e3]
      simp only [Bool.false_eq_true, if_false, if_true, List.length_cons]
      omega
theorem quarter (a b n : Nat) (h : a + b ≤ n) : 4 * (a * b) ≤ n * n := by
  have h1 : 4 * (a * b) ≤ (a + b) * (a + b) := by
    rcases Nat.le_total a b with h | h
    · obtain ⟨d, rfl⟩ := Nat.exists_eq_add_of_le h
      have : (a + (a + d)) * (a + (a + d)) = 4 * (a * (a + d)) + d * d := by
        simp only [Nat.mul_add, Nat.add_mul, Nat.mul_comm d a]
        omega
      omega
    · obtain ⟨d, rfl⟩ := Nat.exists_eq_add_of_le h
      have : (b + d + b) * (b + d + b) = 4 * ((b + d) * b) + d * d := by
        simp only [Nat.mul_add, Nat.add_mul, Nat.mul_comm d b]
        omega
      omega
  exact Nat.le_trans h1 (Nat.mul_le_mul h h)
theorem out_len (rows : List Row) (k : Nat) : 4 * (takenOut rows k).2.length ≤ 4 * rows.length + rows.length * rows.length := by
  have h1 := three_len k rows
  have h2 := cross_len (k := k) (hs := highsOf rows k) (lowsOf rows k) (leftOf rows k)
  have h3 := quarter (lowsOf rows k).length (highsOf rows k).length rows.length (by omega)
  show 4 * (cross k (lowsOf rows k) (highsOf rows k) (leftOf rows k)).length ≤ _
  omega
/-- at most so many rows at a level -/
def lc : Nat → Nat
  | 0 => 14
  | 1 => 63
  | 2 => 1055
  | _ => 279311
theorem out_lc {rows : List Row} {k t : Nat} (ht : t ≤ 2) (h : rows.length ≤ lc t) : (takenOut rows k).2.length ≤ lc (t + 1) := by
  have h1 := out_len rows k
  have h2 := Nat.mul_le_mul h h
  have h3 : t = 0 ∨ t = 1 ∨ t = 2 := by omega
  rcases h3 with e | e | e <;> subst e <;> simp only [lc] at * <;> omega

/-! ### sums and choices -/
def sumOk : Q → List (Q × Q) → Prop
  | _, [] => True
  | f, p :: ps => P2 p.1 p.2 ∧ P2 f (times p.1 p.2) ∧ sumOk (plus f (times p.1 p.2)) ps
/-- f below 2^n; each pair's parts below 2^x, 2^z -/
theorem sum_bd {x z : Nat} : ∀ (ps : List (Q × Q)) (f : Q) (n : Nat), Bd n f → (∀ p ∈ ps, Bd x p.1 ∧ Bd z p.2) → n + ps.length * (x + z + 1) ≤ 8900 → sumOk f ps ∧ Bd (n + ps.length * (x + z + 1)) (addUp f ps)
  | [], f, n, h, _, _ => ⟨trivial, h.mono (by omega)⟩
  | p :: ps, f, n, h, hp, hl => by
    rw [List.length_cons, Nat.succ_mul] at hl
    obtain ⟨h1, h2⟩ := hp p List.mem_cons_self
    have h3 : Bd (n + (x + z) + 1) (plus f (times p.1 p.2)) := plus_bd h (times_bd h1 h2)
    obtain ⟨i1, i2⟩ := sum_bd ps (plus f (times p.1 p.2)) (n + (x + z + 1)) (h3.mono (by omega)) (fun q hq => hp q (List.mem_cons_of_mem _ hq)) (by omega)
    refine ⟨⟨.of h1 h2 (by omega), .of h (times_bd h1 h2) (by omega), i1⟩, ?_⟩
    rw [List.length_cons, Nat.succ_mul]
    exact i2.mono (by omega)
theorem sumOk_app : ∀ (xs ys : List (Q × Q)) (f : Q), sumOk f xs → sumOk (addUp f xs) ys → sumOk f (xs ++ ys)
  | [], ys, f, _, h => h
  | x :: xs, ys, f, h1, h2 => ⟨h1.1, h1.2.1, sumOk_app xs ys _ h1.2.2 h2⟩
/-- the choices so far: the i-th below 2^(e i) -/
def se : Nat → Nat
  | 0 => 0
  | 1 => 1556
  | 2 => 4670
  | _ => 10900
def Chs : Nat → List Q → Prop := fun n ch => ch.length = n ∧ (∀ q ∈ ch, 0 < q.2) ∧ (∀ (i : Nat) q, ch[i]? = some q → (i = 0 → Bd 1444 q) ∧ (i = 1 → Bd 3000 q) ∧ (i = 2 → Bd 6112 q))
structure UB (r : Row) : Prop where
  rb : RB 111 251 r
  la : r.a.length ≤ 6
theorem zip_len_le {α β : Type} (xs : List α) (ys : List β) : (xs.zip ys).length ≤ xs.length := by
  rw [List.length_zip]
  exact Nat.min_le_left _ _
theorem first_sum {r : Row} {made : List Q} (h : UB r) (hm : ∀ q ∈ made, Bd 68 q) : sumOk r.c (r.a.zip made) ∧ Bd 1331 (addUp r.c (r.a.zip made)) := by
  have h1 := zip_len_le r.a made
  have h2 := h.la
  have h3 : (r.a.zip made).length * (111 + 68 + 1) ≤ 6 * 180 := Nat.mul_le_mul (by omega) (by omega)
  obtain ⟨i1, i2⟩ := sum_bd (x := 111) (z := 68) (r.a.zip made) r.c 251 h.rb.c (fun p hp => ⟨h.rb.a _ (List.of_mem_zip hp).1, hm _ (List.of_mem_zip hp).2⟩) (by omega)
  exact ⟨i1, i2.mono (by omega)⟩
/-- the choice so far, one by one -/
def chB : List Q → Prop
  | [] => True
  | [p] => Bd 1444 p
  | [p, q] => Bd 1444 p ∧ Bd 3000 q
  | [p, q, s] => Bd 1444 p ∧ Bd 3000 q ∧ Bd 6112 s
  | _ => False
def wB : Nat → Nat
  | 0 => 1331
  | 1 => 2887
  | _ => 5999
theorem sum_one {f p q : Q} {n x e : Nat} (hf : Bd n f) (hp : Bd x p) (hq : Bd e q) (h : n + x + e ≤ 8900) : sumOk f [(p, q)] ∧ Bd (n + (x + e) + 1) (addUp f [(p, q)]) :=
  ⟨⟨.of hp hq (by omega), .of hf (times_bd hp hq) (by omega), trivial⟩, plus_bd hf (times_bd hp hq)⟩
theorem worth_bd {r : Row} {made ch : List Q} (h : UB r) (hm : ∀ q ∈ made, Bd 68 q) (hc : chB ch) (hl : ch.length ≤ 2) : sumOk r.c (pairs r made ch) ∧ Bd (wB ch.length) (worth r made ch) := by
  obtain ⟨i1, i2⟩ := first_sum h hm
  have key : sumOk (addUp r.c (r.a.zip made)) (r.b.zip ch) ∧ Bd (wB ch.length) (addUp (addUp r.c (r.a.zip made)) (r.b.zip ch)) := by
    have hb := h.rb.b
    generalize r.b = b at hb
    generalize addUp r.c (r.a.zip made) = f at i2
    match ch, hc, hl with
    | [], _, _ => rw [List.zip_nil_right]; exact ⟨trivial, i2⟩
    | [p], hp, _ =>
      cases b with
      | nil => exact ⟨trivial, i2.mono (show 1331 ≤ 2887 by decide)⟩
      | cons x b =>
        rw [List.zip_cons_cons, List.zip_nil_right]
        obtain ⟨k1, k2⟩ := sum_one i2 (hb x List.mem_cons_self) (show Bd 1444 p from hp) (by omega)
        exact ⟨k1, k2.mono (show 1331 + (111 + 1444) + 1 ≤ 2887 by decide)⟩
    | [p, q], hp, _ =>
      cases b with
      | nil => exact ⟨trivial, i2.mono (show 1331 ≤ 5999 by decide)⟩
      | cons x b =>
        obtain ⟨k1, k2⟩ := sum_one i2 (hb x List.mem_cons_self) hp.1 (by omega)
        cases b with
        | nil =>
          rw [List.zip_cons_cons, List.zip_nil_left]
          exact ⟨k1, k2.mono (show 1331 + (111 + 1444) + 1 ≤ 5999 by decide)⟩
        | cons y b =>
          rw [List.zip_cons_cons, List.zip_cons_cons, List.zip_nil_right]
          obtain ⟨l1, l2⟩ := sum_one k2 (hb y (by simp)) hp.2 (by omega)
          exact ⟨⟨k1.1, k1.2.1, l1⟩, l2.mono (show 1331 + (111 + 1444) + 1 + (111 + 3000) + 1 ≤ 5999 by decide)⟩
    | _ :: _ :: _ :: _, _, hl => simp at hl
  unfold worth pairs
  rw [addUp_app]
  exact ⟨sumOk_app _ _ _ i1 key.1, key.2⟩
/-- what chosen_by asks of one low -/
structure LowOk (r : Row) (made ch : List Q) (k : Nat) : Prop where
  s : sumOk r.c (pairs r made ch)
  m : P2 zero (worth r made ch)
  lt : k < r.b.length
  o : P2 (minus zero (worth r made ch)) (at_ r.b k)
  p : 0 < (at_ r.b k).1
def eB : Nat → Nat
  | 0 => 1444
  | 1 => 3000
  | _ => 6112
theorem lowOk {r : Row} {made ch : List Q} (h : UB r) (hm : ∀ q ∈ made, Bd 68 q) (hc : chB ch) (hl : ch.length ≤ 2) (hk : ch.length < r.b.length) (hb : below zero (at_ r.b ch.length) = true) :
    LowOk r made ch ch.length ∧ Bd (eB ch.length) (lowest r made ch ch.length) := by
  obtain ⟨h1, h2⟩ := worth_bd h hm hc hl
  have h3 : Bd 111 (at_ r.b ch.length) := h.rb.at (by omega)
  have hp : 0 < (at_ r.b ch.length).1 := by rw [below_zero_left, decide_eq_true_eq] at hb; exact hb
  have h4 : Bd (1 + wB ch.length + 1) (minus zero (worth r made ch)) := minus_bd bd_zero h2
  have hw : wB ch.length ≤ 5999 := by
    have h5 : ch.length = 0 ∨ ch.length = 1 ∨ ch.length = 2 := by omega
    rcases h5 with e | e | e <;> rw [e] <;> decide
  have he : 1 + wB ch.length + 1 + 111 ≤ eB ch.length := by
    have h5 : ch.length = 0 ∨ ch.length = 1 ∨ ch.length = 2 := by omega
    rcases h5 with e | e | e <;> rw [e] <;> decide
  exact ⟨⟨h1, .of bd_zero h2 (by omega), hk, .of h4 h3 (by omega), hp⟩, (over_bd h4 h3 hp).mono he⟩
/-- .. of all steps from here on -/
def StOk (made : List Q) : List Step → List Q → Prop
  | [], _ => True
  | s :: ss, ch => s.1 ≠ [] ∧ (∀ r ∈ s.1, LowOk r made ch ch.length) ∧ (∀ r ∈ s.1, ∀ t ∈ s.1, PB (lowest r made ch ch.length) (lowest t made ch ch.length)) ∧ StOk made ss (ch ++ [(bestOf s.1 made ch ch.length).getD zero])
structure ChOk (rule : List Step × List Row) (made : List Q) : Prop where
  rows : ∀ r ∈ rule.2, sumOk r.c (pairs r made []) ∧ PB (worth r made []) zero
  steps : StOk made rule.1 []
theorem stOk {made : List Q} (hm : ∀ q ∈ made, Bd 68 q) : ∀ (T : List Step) (ch : List Q), chB ch → ch.length + T.length ≤ 3 →
    (∀ (i : Nat) (s : Step), T[i]? = some s → s.1 ≠ [] ∧ ∀ r ∈ s.1, UB r ∧ ch.length + i < r.b.length ∧ below zero (at_ r.b (ch.length + i)) = true) → StOk made T ch
  | [], _, _, _, _ => trivial
  | s :: T, ch, hc, hl, h => by
    rw [List.length_cons] at hl
    obtain ⟨h1, h2⟩ := h 0 s rfl
    have lo : ∀ r ∈ s.1, LowOk r made ch ch.length ∧ Bd (eB ch.length) (lowest r made ch ch.length) := fun r hr => by
      obtain ⟨k1, k2, k3⟩ := h2 r hr
      exact lowOk k1 hm hc (by omega) k2 k3
    have he : eB ch.length ≤ 6112 := by
      have h5 : ch.length = 0 ∨ ch.length = 1 ∨ ch.length = 2 := by omega
      rcases h5 with e | e | e <;> rw [e] <;> decide
    have hb : Bd (eB ch.length) ((bestOf s.1 made ch ch.length).getD zero) := by
      obtain ⟨v, e⟩ := best_some (made := made) (ch := ch) (k := ch.length) s.1 none (.inl h1)
      have e' : bestOf s.1 made ch ch.length = some v := e
      rw [e']
      rcases best_mem s.1 none v e with q | ⟨r, hr, q⟩
      · cases q
      · show Bd _ v
        rw [q]
        exact (lo r hr).2
    refine ⟨h1, fun r hr => (lo r hr).1, fun r hr t ht => .of (lo r hr).2 (lo t ht).2 (by omega), ?_⟩
    refine stOk hm T _ ?_ (by rw [List.length_append, List.length_singleton]; omega) fun i t ht => ?_
    · match ch, hc, hl, hb with
      | [], _, _, hb => exact hb
      | [p], hp, _, hb => exact ⟨hp, hb⟩
      | [p, q], hp, _, hb => exact ⟨hp.1, hp.2, hb⟩
      | _ :: _ :: _ :: _, _, hl, _ => simp at hl; omega
    · have := h (i + 1) t ht
      rw [List.length_append, List.length_singleton, show ch.length + 1 + i = ch.length + (i + 1) by omega]
      exact this
/-- a plan that is small enough -/
structure Small (p : Plan) : Prop where
  good : Good p
  n6 : p.sizes.length ≤ 6
  d8 : p.demands.length ≤ 8
  sb : ∀ s ∈ p.shims, Bd 41 s.1 ∧ Bd 41 s.2 ∧ Bd 41 (minus zero s.1)
  db : ∀ r ∈ p.demands, RB 6 41 r
theorem bound_rb {n m k x y : Nat} {s c : Q} (hs : Bd x s) (hc : Bd y c) (hx : 1 ≤ x) : RB x y (boundRow n m k s c) := by
  refine ⟨fun q hq => ?_, fun q hq => ?_, hc⟩
  · rw [List.eq_of_mem_replicate hq]; exact bd_zero.mono hx
  · rcases List.mem_or_eq_of_mem_set hq with h | h
    · rw [List.eq_of_mem_replicate h]; exact bd_zero.mono hx
    · rw [h]; exact hs
theorem Small.first {p : Plan} (h : Small p) : ∀ r ∈ firstRows p, Lv 0 r :=
  first_all (fun r hr => h.db r hr) fun s hs k => ⟨bound_rb (bd_one.mono (by decide)) (h.sb s hs).2.2 (by decide), bound_rb (bd_mone.mono (by decide)) (h.sb s hs).2.1 (by decide)⟩
theorem Small.rule {p : Plan} (h : Small p) : (∀ s ∈ (ruleOf p).1, (∀ r ∈ s.1, Lv p.shims.length r) ∧ ∀ r ∈ s.2, Lv p.shims.length r) ∧ ∀ r ∈ (ruleOf p).2, Lv p.shims.length r :=
  rule_all Lv.up Lv.tk (fun r hr => h.db r hr) fun s hs k => ⟨bound_rb (bd_one.mono (by decide)) (h.sb s hs).2.2 (by decide), bound_rb (bd_mone.mono (by decide)) (h.sb s hs).2.1 (by decide)⟩
theorem bounds_len {n m : Nat} : ∀ (ss : List (Q × Q)) (i : Nat) (rows : List Row), (boundsLoop n m i ss rows).length ≤ rows.length + 2 * ss.length
  | [], _, _ => by show _ ≤ _; simp [boundsLoop]
  | s :: ss, i, rows => by
    have h1 := bounds_len (n := n) (m := m) ss (i + 1) (putBounds n m rows i s)
    have h2 := putOn_len rows (boundRow n m i one (minus zero s.1))
    have h3 := putOn_len (putOn rows (boundRow n m i one (minus zero s.1))) (boundRow n m i mone s.2)
    show (boundsLoop n m (i + 1) ss (putBounds n m rows i s)).length ≤ _
    unfold putBounds at *
    rw [List.length_cons]
    omega
theorem demands_len : ∀ (ds rows : List Row), (ds.foldl putOn rows).length ≤ rows.length + ds.length
  | [], _ => Nat.le_refl _
  | d :: ds, rows => by
    have h1 := demands_len ds (putOn rows d)
    have h2 := putOn_len rows d
    show (ds.foldl putOn (putOn rows d)).length ≤ _
    rw [List.length_cons]
    omega
theorem first_len {p : Plan} (h : p.demands.length + 2 * p.shims.length ≤ 14) : (firstRows p).length ≤ 14 := by
  have h1 := bounds_len (n := p.sizes.length) (m := p.shims.length) p.shims 0 (p.demands.foldl putOn [])
  have h2 := demands_len p.demands []
  unfold firstRows
  rw [List.length_nil] at h2
  omega
/-- the plan's own rule -/
theorem chOk_own {p : Plan} {made : List Q} (h : Small p) (hs : p.shims.length ≤ 2) (hm : ∀ q ∈ made, Bd 68 q) : ChOk (ruleOf p) made := by
  obtain ⟨l1, l2⟩ := h.rule
  obtain ⟨k1, k2⟩ := rule_rk h.good
  obtain ⟨s1, s2⟩ := rule_steps p
  refine ⟨fun r hr => ?_, stOk hm _ [] trivial (by rw [s1, List.length_nil]; omega) fun i s hi => ?_⟩
  · obtain ⟨h1, h2⟩ := worth_bd (ch := []) ⟨(l2 r hr).two hs, by rw [(k2 r hr).2]; exact h.n6⟩ hm trivial (by simp)
    exact ⟨h1, .of h2 bd_zero (by simp [wB])⟩
  · obtain ⟨a, b⟩ := s2 i s hi
    have hil := (List.getElem?_eq_some_iff.mp hi).1
    refine ⟨a, fun r hr => ⟨⟨((l1 s (List.mem_of_getElem? hi)).1 r hr).two hs, ?_⟩, ?_, ?_⟩⟩
    · rw [((k1 s (List.mem_of_getElem? hi)).1 r hr).2]; exact h.n6
    · rw [((k1 s (List.mem_of_getElem? hi)).1 r hr).1.len, List.length_nil]; omega
    · rw [List.length_nil, Nat.zero_add]; exact b r hr
theorem mem_ins {α : Type} {j : Nat} {x y : α} {l : List α} (h : y ∈ ins j x l) : y = x ∨ y ∈ l := by
  unfold ins at h
  rcases List.mem_append.mp h with q | q
  · rcases List.mem_append.mp q with q | q
    · exact .inr (List.mem_of_mem_take q)
    · exact .inl (List.mem_singleton.mp q)
  · exact .inr (List.mem_of_mem_drop q)
theorem ub_wr {j : Nat} {r : Row} (h : UB r) : UB (wr j r) := ⟨⟨h.rb.a, fun q hq => by
  rcases mem_ins hq with e | e
  · rw [e]; exact bd_zero.mono (by decide)
  · exact h.rb.b q e, h.rb.c⟩, h.la⟩
/-- the wider plan's rule -/
theorem chOk_wider {p : Plan} {j : Nat} {lo hi : Q} {made : List Q} (h : Small p) (hs : p.shims.length ≤ 2) (hj : j ≤ p.shims.length) (hlo : Nm lo) (hhi : Nm hi) (hb : below hi lo = false)
    (b1 : Bd 41 lo) (hm : ∀ q ∈ made, Bd 68 q) : ChOk (ruleOf (wider p j (lo, hi))) made := by
  obtain ⟨Y, S, R, e1, e2, e3⟩ := rule_wider h.good hj hlo hhi hb
  obtain ⟨l1, l2⟩ := h.rule
  obtain ⟨k1, k2⟩ := rule_rk h.good
  obtain ⟨s1, _⟩ := rule_steps p
  obtain ⟨t1, t2⟩ := rule_steps (wider p j (lo, hi))
  rw [e1] at l1 l2 k1 k2 s1
  rw [e3] at t1 t2 ⊢
  have ew : (wider p j (lo, hi)).shims.length = p.shims.length + 1 := ins_length
  have all : ∀ s ∈ Y ++ S, ∀ r ∈ s.1, UB (wr j r) ∧ (wr j r).b.length = p.shims.length + 1 := fun s hs' r hr => by
    refine ⟨ub_wr ⟨((l1 s hs').1 r hr).two hs, by rw [((k1 s hs').1 r hr).2]; exact h.n6⟩, ?_⟩
    show (ins j zero r.b).length = _
    rw [ins_length, ((k1 s hs').1 r hr).1.len]
  refine ⟨fun r hr => ?_, stOk hm _ [] trivial (by rw [List.length_nil, t1, ew]; omega) fun i s hi' => ?_⟩
  · obtain ⟨q, hq, e⟩ := List.mem_map.mp hr
    obtain ⟨h1, h2⟩ := worth_bd (ch := []) (r := r) (by rw [← e]; exact ub_wr ⟨(l2 q hq).two hs, by rw [(k2 q hq).2]; exact h.n6⟩) hm trivial (by simp)
    exact ⟨h1, .of h2 bd_zero (by simp [wB])⟩
  · obtain ⟨a, b⟩ := t2 i s hi'
    have hil := (List.getElem?_eq_some_iff.mp hi').1
    rw [t1, ew] at hil
    have ub : ∀ r ∈ s.1, UB r ∧ r.b.length = p.shims.length + 1 := fun r hr => by
      rcases List.mem_append.mp (List.mem_of_getElem? hi') with q | q
      · obtain ⟨s', hs', e⟩ := List.mem_map.mp q
        rw [← e] at hr
        obtain ⟨r', hr', e'⟩ := List.mem_map.mp hr
        rw [← e']
        exact all s' (List.mem_append_left _ hs') r' hr'
      · rcases List.mem_cons.mp q with q | q
        · rw [q] at hr
          rw [List.mem_singleton.mp hr]
          refine ⟨⟨bound_rb (bd_one.mono (by decide)) ((minus_bd bd_zero b1).mono (by decide)) (by decide), ?_⟩, ?_⟩
          · show (List.replicate _ _).length ≤ 6
            rw [List.length_replicate]; exact h.n6
          · show ((List.replicate _ _).set _ _).length = _
            rw [List.length_set, List.length_replicate]
        · obtain ⟨s', hs', e⟩ := List.mem_map.mp q
          rw [← e] at hr
          obtain ⟨r', hr', e'⟩ := List.mem_map.mp hr
          rw [← e']
          exact all s' (List.mem_append_right _ hs') r' hr'
    refine ⟨a, fun r hr => ⟨(ub r hr).1, ?_, ?_⟩⟩
    · rw [(ub r hr).2, List.length_nil]; omega
    · rw [List.length_nil, Nat.zero_add]; exact b r hr
theorem good_wider {p : Plan} {j : Nat} {lo hi : Q} (g : Good p) (hj : j ≤ p.shims.length) (hlo : Nm lo) (hhi : Nm hi) (hb : below hi lo = false) : Good (wider p j (lo, hi)) := by
  refine ⟨g.some, fun s hs => ?_, fun r hr => ?_, fun r hr => ?_⟩
  · rcases mem_ins hs with e | e
    · rw [e]; exact ⟨hlo, hhi, hb⟩
    · exact g.sh s e
  · obtain ⟨q, hq, e⟩ := List.mem_map.mp hr
    have k := g.de q hq
    rw [← e]
    refine ⟨?_, fun x hx => ?_, k.na, k.nc⟩
    · show (ins j zero q.b).length = (ins j (lo, hi) p.shims).length
      rw [ins_length, ins_length, k.len]
    · rcases mem_ins hx with e | e
      · rw [e]; exact nm_zero
      · exact k.nb x e
  · obtain ⟨q, hq, e⟩ := List.mem_map.mp hr
    rw [← e]
    exact g.la q hq
theorem small_wider {p : Plan} {j : Nat} {lo hi : Q} (h : Small p) (hj : j ≤ p.shims.length) (hlo : Nm lo) (hhi : Nm hi) (hb : below hi lo = false) (b1 : Bd 41 lo) (b2 : Bd 41 hi) : Small (wider p j (lo, hi)) := by
  refine ⟨good_wider h.good hj hlo hhi hb, h.n6, ?_, fun s hs => ?_, fun r hr => ?_⟩
  · show (p.demands.map _).length ≤ 8
    rw [List.length_map]; exact h.d8
  · rcases mem_ins hs with e | e
    · rw [e]
      refine ⟨b1, b2, ?_⟩
      rw [minus_zero hlo]
      exact ⟨by show (-lo.1).natAbs < _; rw [Int.natAbs_neg]; exact b1.1, b1.2⟩
    · exact h.sb s e
  · obtain ⟨q, hq, e⟩ := List.mem_map.mp hr
    rw [← e]
    have k := h.db q hq
    refine ⟨k.a, fun x hx => ?_, k.c⟩
    rcases mem_ins hx with e | e
    · rw [e]; exact bd_zero.mono (by decide)
    · exact k.b x e
end Sh
namespace Sh
/-! ### sizes by plain numbers -/
def Nb (A B : Nat) (q : Q) : Prop := q.1.natAbs ≤ A ∧ 0 < q.2 ∧ q.2.natAbs ≤ B
theorem Nb.bd {A B n : Nat} {q : Q} (h : Nb A B q) (h1 : A < 2 ^ n) (h2 : B < 2 ^ n) : Bd n q := ⟨Nat.lt_of_le_of_lt h.1 h1, h.2.1, Nat.lt_of_le_of_lt h.2.2 h2⟩
theorem Nb.mono {A B A' B' : Nat} {q : Q} (h : Nb A B q) (h1 : A ≤ A') (h2 : B ≤ B') : Nb A' B' q := ⟨Nat.le_trans h.1 h1, h.2.1, Nat.le_trans h.2.2 h2⟩
theorem fr_nb {t b : Int} {A B : Nat} (h1 : t.natAbs ≤ A) (h2 : 0 < b) (h3 : b.natAbs ≤ B) : Nb A B (fr t b) :=
  ⟨Nat.le_trans (natAbs_ediv_le t _ (Int.gcd_dvd_left _ _)) h1, fr_pos h2, Nat.le_trans (natAbs_ediv_le b _ (Int.gcd_dvd_right _ _)) h3⟩
theorem mul_le2 {a b : Int} {A B : Nat} (h1 : a.natAbs ≤ A) (h2 : b.natAbs ≤ B) : (a * b).natAbs ≤ A * B := by
  rw [Int.natAbs_mul]
  exact Nat.mul_le_mul h1 h2
theorem plus_nb {A B A' B' : Nat} {q r : Q} (hq : Nb A B q) (hr : Nb A' B' r) : Nb (A * B' + A' * B) (B * B') (plus q r) := by
  refine fr_nb ?_ (Int.mul_pos hq.2.1 hr.2.1) (mul_le2 hq.2.2 hr.2.2)
  have h1 := mul_le2 hq.1 hr.2.2
  have h2 := mul_le2 hr.1 hq.2.2
  have h3 := Int.natAbs_add_le (q.1 * r.2) (r.1 * q.2)
  omega
theorem times_nb {A B A' B' : Nat} {q r : Q} (hq : Nb A B q) (hr : Nb A' B' r) : Nb (A * A') (B * B') (times q r) := fr_nb (mul_le2 hq.1 hr.1) (Int.mul_pos hq.2.1 hr.2.1) (mul_le2 hq.2.2 hr.2.2)
theorem neg_nb {A B : Nat} {q : Q} (h : Nb A B q) : Nb A B (-q.1, q.2) := ⟨by show (-q.1).natAbs ≤ A; rw [Int.natAbs_neg]; exact h.1, h.2⟩
theorem below_fr {t b : Int} {q : Q} (hb : 0 < b) : below (fr t b) q = decide (t * q.2 < q.1 * b) := by
  have hg := gcd_pos_right (t := t) hb
  obtain ⟨c, hc⟩ := Int.gcd_dvd_left t b
  obtain ⟨e, he⟩ := Int.gcd_dvd_right t b
  unfold below fr
  simp only
  generalize Int.gcd t b = g at *
  have hg' : (0 : Int) < (g : Int) := by omega
  rw [hc, he, Int.mul_ediv_cancel_left _ (by omega), Int.mul_ediv_cancel_left _ (by omega)]
  have e1 : (g : Int) * c * q.2 = (g : Int) * (c * q.2) := Int.mul_assoc _ _ _
  have e2 : q.1 * ((g : Int) * e) = (g : Int) * (q.1 * e) := by rw [← Int.mul_assoc, Int.mul_comm q.1 (g : Int), Int.mul_assoc]
  rw [e1, e2]
  by_cases h : c * q.2 < q.1 * e
  · rw [decide_eq_true h, decide_eq_true ((Int.mul_lt_mul_left hg').mpr h)]
  · rw [decide_eq_false h, decide_eq_false fun z => h ((Int.mul_lt_mul_left hg').mp z)]
/-- more is not below -/
theorem below_more {q r : Q} (hq : 0 < q.2) (hr : 0 < r.2) (h : 0 ≤ r.1) : below (plus q r) q = false := by
  unfold plus
  rw [below_fr (Int.mul_pos hq hr)]
  refine decide_eq_false ?_
  have h1 : (q.1 * r.2 + r.1 * q.2) * q.2 = q.1 * (q.2 * r.2) + r.1 * (q.2 * q.2) := by
    rw [Int.add_mul, Int.mul_assoc, Int.mul_assoc, Int.mul_comm r.2 q.2]
  have h2 : 0 ≤ r.1 * (q.2 * q.2) := Int.mul_nonneg h (Int.mul_nonneg (by omega) (by omega))
  omega
/-- what the law's own numbers are -/
def SomeQ (q : Q) : Prop := Nm q ∧ Nb 500000000000 97 q
structure BoundOk (b : Q × Q) : Prop where
  n1 : Nm b.1
  n2 : Nm b.2
  le : below b.2 b.1 = false
  s1 : Nb 500000000000 97 b.1
  s2 : Nb 1500000000776 291 b.2
def WeightQ (q : Q) : Prop := Nm q ∧ Bd 6 q
theorem nm_int {i : Int} : Nm (i, 1) := ⟨by show (0 : Int) < 1; decide, by show Int.gcd i 1 = 1; rw [Int.gcd_one_right]⟩
theorem some_big {x y : Int} (h0 : 0 ≤ x) (h1 : x < 1000000000000) (h2 : 0 ≤ y) (h3 : y < 97) : SomeQ (fr (x - 500000000000) (1 + y)) := ⟨fr_nm (by omega), fr_nb (by omega) (by omega) (by omega)⟩
theorem some_int {x : Int} (h0 : 0 ≤ x) (h1 : x < 19) : SomeQ (x - 9, 1) := ⟨nm_int, by show (x - 9).natAbs ≤ _; omega, by show (0 : Int) < 1; decide, by show (1 : Int).natAbs ≤ 97; decide⟩
theorem some_mid {x y : Int} (h0 : 0 ≤ x) (h1 : x < 41) (h2 : 0 ≤ y) (h3 : y < 6) : SomeQ (fr (x - 20) (1 + y)) := ⟨fr_nm (by omega), fr_nb (by omega) (by omega) (by omega)⟩
theorem weight_mid {x y : Int} (h0 : 0 ≤ x) (h1 : x < 41) (h2 : 0 ≤ y) (h3 : y < 6) : WeightQ (fr (x - 20) (1 + y)) := ⟨fr_nm (by omega), fr_bd (by omega) (by omega) (by omega)⟩
def weights : List Q := [(0, 1), (0, 1), (1, 1), (-1, 1), (1, 1), (-1, 1), (2, 1), (-3, 2), (1, 3), (-2, 1)]
theorem weights_ok : ∀ q ∈ weights, WeightQ q := by
  unfold WeightQ Nm Bd
  decide
theorem bound_of {q : Q} {x y : Int} (h : SomeQ q) (h0 : 0 ≤ x) (h1 : x < 9) (h2 : 0 ≤ y) (h3 : y < 3) : BoundOk (q, plus q (fr x (1 + y))) := by
  have n : Nb 8 3 (fr x (1 + y)) := fr_nb (by omega) (by omega) (by omega)
  have hx : 0 ≤ (fr x (1 + y)).1 := by
    show 0 ≤ x / ((Int.gcd x (1 + y) : Nat) : Int)
    exact Int.ediv_nonneg h0 (by omega)
  exact ⟨h.1, plus_nm h.1.1 n.2.1, below_more h.1.1 n.2.1 hx, h.2, (plus_nb h.2 n).mono (by decide) (by decide)⟩
/-- a made size -/
theorem made_one {b : Q × Q} {x : Int} (h : BoundOk b) (h0 : 0 ≤ x) (h1 : x < 9) : Nb 338724000058411072 21904152 (plus b.1 (times (fr x 8) (plus b.2 (-b.1.1, b.1.2)))) := by
  have n : Nb 8 8 (fr x 8) := fr_nb (by omega) (by decide) (by decide)
  exact (plus_nb h.s1 (times_nb n (plus_nb h.s2 (neg_nb h.s1)))).mono (by decide) (by decide)
theorem made_more {q r : Q} (h : Nb 338724000058411072 21904152 q) (hr : SomeQ r) : Nb 60000000000000000000 3000000000 (plus q r) := (plus_nb h hr.2).mono (by decide) (by decide)
/-- the sums may be reckoned -/
theorem nb_p2 {A B A' B' : Nat} {q r : Q} (hq : Nb A B q) (hr : Nb A' B' r) (h1 : A < 2 ^ 100) (h2 : B < 2 ^ 100) (h3 : A' < 2 ^ 100) (h4 : B' < 2 ^ 100) : P2 q r := .of (hq.bd h1 h2) (hr.bd h3 h4) (by decide)
end Sh
/-! worlds: a heap and the lists that are being built in it -/
namespace Sh
open PySem PySem.Spec PyProof.Rows L2

/-- addresses of lists that are being built: what is told of other things does not lean on them -/
abbrev AS := Addr → Prop
/-- all is kept but what is being built -/
structure Kp (N : AS) (H H' : Hp) : Prop where
  k : ∀ a o, H a = some o → ¬ N a → H' a = some o
  t : ∀ a xs, H a = some (.tup xs) → H' a = some (.tup xs)
theorem Kp.of {N : AS} {H H' : Hp} (h : Same H H') : Kp N H H' := ⟨fun a o e _ => h a o e, fun a xs e => h a _ e⟩
theorem Kp.trans {N : AS} {H H1 H2 : Hp} (a : Kp N H H1) (b : Kp N H1 H2) : Kp N H H2 := ⟨fun c o e n => b.k c o (a.k c o e n) n, fun c xs e => b.t c xs (a.t c xs e)⟩
/-- the list at p alone may have changed -/
def But (p : Addr) (H H' : Hp) : Prop := ∀ a o, H a = some o → a ≠ p → H' a = some o
theorem But.upd {p : Addr} {H : Hp} {o : HO} : But p H (upd H p o) := fun a u e n => by rw [upd_ne n]; exact e
theorem But.of {p : Addr} {H H' : Hp} (h : Same H H') : But p H H' := fun a o e _ => h a o e
theorem But.trans {p : Addr} {H H1 H2 : Hp} (a : But p H H1) (b : But p H1 H2) : But p H H2 := fun c o e n => b c o (a c o e n) n
theorem But.kp {N : AS} {p : Addr} {H H' : Hp} (h : But p H H') (n : N p) {xs : List V} (e : H p = some (.lst xs)) : Kp N H H' :=
  ⟨fun a o ea na => h a o ea fun z => na (by rw [z]; exact n), fun a ys ea => h a _ ea fun z => by rw [z, e] at ea; cases ea⟩
/-- .. a dict -/
theorem But.kpD {N : AS} {p : Addr} {H H' : Hp} (h : But p H H') (n : N p) {kvs : List (Key × V)} (e : H p = some (.dK kvs)) : Kp N H H' :=
  ⟨fun a o ea na => h a o ea fun z => na (by rw [z]; exact n), fun a ys ea => h a _ ea fun z => by rw [z, e] at ea; cases ea⟩
theorem same_new {H : Hp} {p : Addr} {o : HO} (h : H p = none) : Same H (upd H p o) := fun a u e => by rw [upd_ne (ne_of_none e h)]; exact e
/-- an object made since H may change -/
theorem Same.but {p : Addr} {H H1 H2 : Hp} (a : Same H H1) (b : But p H1 H2) (n : H p = none) : Same H H2 := fun c o e => b c o (a c o e) (ne_of_none e n)

/-- a tuple: written (it stands in the empty heap, too); tracked, or written -/
def KT (K : PySem.W.Frag) (a : Addr) (xs : List V) : Prop := SqT K (fun _ => none) a xs
theorem rd_none {a : Addr} {u : HO} (h : Rd (fun _ => none) a u) : False := by
  rcases h with h | ⟨_, h⟩ <;> cases h
theorem KT.sq {K : PySem.W.Frag} {H : Hp} {a : Addr} {xs : List V} (h : KT K a xs) : SqT K H a xs := h.elim (fun r => (rd_none r).elim) .inr
def Tp (K : PySem.W.Frag) (H : Hp) (a : Addr) (xs : List V) : Prop := H a = some (.tup xs) ∨ KT K a xs
theorem Tp.sq {K : PySem.W.Frag} {H : Hp} {a : Addr} {xs : List V} (h : Tp K H a xs) : SqT K H a xs := h.elim (fun h => .inl (.inl h)) KT.sq
theorem Tp.fr {K : PySem.W.Frag} {N : AS} {H H' : Hp} {a : Addr} {xs : List V} (k : Kp N H H') (h : Tp K H a xs) : Tp K H' a xs := h.elim (fun h => .inl (k.t a xs h)) .inr
theorem Tp.same {K : PySem.W.Frag} {H H' : Hp} {a : Addr} {xs : List V} (k : Same H H') (h : Tp K H a xs) : Tp K H' a xs := h.elim (fun h => .inl (k a _ h)) .inr

/-- a later world -/
structure Up (N N' : AS) (H H' : Hp) : Prop where
  s : Same H H'
  i : ∀ a, N a → N' a
  f : ∀ a, N' a → N a ∨ H a = none
  d : ∀ a, N' a → H' a ≠ none
def Dom (N : AS) (H : Hp) : Prop := ∀ a, N a → H a ≠ none
theorem Dom.same {N : AS} {H H' : Hp} (d : Dom N H) (s : Same H H') : Dom N H' := fun a n e => by
  cases q : H a with
  | none => exact d a n q
  | some o => rw [s a o q] at e; cases e
theorem Up.refl {N : AS} {H : Hp} (d : Dom N H) : Up N N H H := ⟨Same.refl H, fun _ h => h, fun _ h => .inl h, d⟩
theorem Up.of {N : AS} {H H' : Hp} (d : Dom N H) (s : Same H H') : Up N N H H' := ⟨s, fun _ h => h, fun _ h => .inl h, d.same s⟩
theorem Up.trans {N N1 N2 : AS} {H H1 H2 : Hp} (a : Up N N1 H H1) (b : Up N1 N2 H1 H2) : Up N N2 H H2 :=
  ⟨a.s.trans b.s, fun x h => b.i x (a.i x h), fun x h => (b.f x h).elim (a.f x) fun e => .inr (a.s.free e), b.d⟩
theorem Up.dom {N N' : AS} {H H' : Hp} (u : Up N N' H H') : Dom N' H' := u.d
theorem Up.more {N N' : AS} {H H1 H2 : Hp} (u : Up N N' H H1) (s : Same H1 H2) : Up N N' H H2 := u.trans (.of u.d s)
/-- one list more is being built -/
def ad (N : AS) (p : Addr) : AS := fun a => N a ∨ a = p
theorem ad_self {N : AS} {p : Addr} : ad N p p := .inr rfl
theorem Dom.ad {N : AS} {H : Hp} {p : Addr} {o : HO} (d : Dom N H) : Dom (ad N p) (upd H p o) := fun a n e => by
  unfold upd at e
  split at e
  · cases e
  · rcases n with n | n
    · exact d a n e
    · exact absurd n (by assumption)
theorem Up.ad {N : AS} {H : Hp} {p : Addr} {o : HO} (d : Dom N H) (h : H p = none) : Up N (ad N p) H (upd H p o) :=
  ⟨same_new h, fun _ n => .inl n, fun a n => n.elim .inl fun e => .inr (by rw [e]; exact h), d.ad⟩
theorem Dom.new {N : AS} {H : Hp} {p : Addr} (d : Dom N H) (h : H p = none) : ¬ N p := fun n => d p n h
theorem Dom.but {N : AS} {H H' : Hp} {p : Addr} (d : Dom N H) (b : But p H H') (e : H' p ≠ none) : Dom N H' := fun a n q => by
  by_cases c : a = p
  · rw [c] at q; exact e q
  · cases r : H a with
    | none => exact d a n r
    | some o => rw [b a o r c] at q; cases q

abbrev St := L2.St
/-- how a datum lies in a world -/
abbrev RP := AS → Hp → V → Prop
def Mn (R : RP) : Prop := ∀ N N' H H' v, Up N N' H H' → R N H v → R N' H' v
structure Fam (α : Type) where
  r : α → RP
  fr : ∀ {x : α} {N : AS} {H H' : Hp} {v : V}, Kp N H H' → r x N H v → r x N H' v
  dn : ∀ {x : α} {N N' : AS} {H : Hp} {v : V}, (∀ a, N a → N' a) → r x N' H v → r x N H v
  up : ∀ {x : α} {N N' : AS} {H : Hp} {v : V}, (∀ a, N' a → N a ∨ H a = none) → r x N H v → r x N' H v
theorem Fam.mn {α : Type} (F : Fam α) (x : α) : Mn (F.r x) := fun _ _ _ _ _ u h => F.fr (.of u.s) (F.up u.f h)
theorem Fam.lift {α : Type} (F : Fam α) {x : α} {N N' : AS} {H H' : Hp} {v : V} (u : Up N N' H H') (h : F.r x N H v) : F.r x N' H' v := F.mn x _ _ _ _ _ u h
theorem Fam.same {α : Type} (F : Fam α) {x : α} {N : AS} {H H' : Hp} {v : V} (u : Same H H') (h : F.r x N H v) : F.r x N H' v := F.fr (.of u) h
def vI (i : Int) : RP := fun _ _ v => v = .int i
def vB (b : Bool) : RP := fun _ _ v => v = .bl b
theorem mn_I {i : Int} : Mn (vI i) := fun _ _ _ _ _ _ h => h
theorem mn_B {i : Bool} : Mn (vB i) := fun _ _ _ _ _ _ h => h
section
variable (K : PySem.W.Frag)
def fQ : Fam Q where
  r := fun q _ H v => ∃ a, v = .ref a ∧ Tp K H a [.int q.1, .int q.2]
  fr := fun k ⟨a, e, h⟩ => ⟨a, e, h.fr k⟩
  dn := fun _ h => h
  up := fun _ h => h
def fI : Fam Int where
  r := fun i _ _ v => v = .int i
  fr := fun _ h => h
  dn := fun _ h => h
  up := fun _ h => h
end
def fL {α : Type} (F : Fam α) : Fam (List α) where
  r := fun ds N H v => ∃ a xs, v = .ref a ∧ H a = some (.lst xs) ∧ ¬ N a ∧ Paired (fun v d => F.r d N H v) xs ds
  fr := fun k ⟨a, xs, e, h, n, p⟩ => ⟨a, xs, e, k.k a _ h n, n, Paired.mapP p fun _ _ q => F.fr k q⟩
  dn := fun k ⟨a, xs, e, h, n, p⟩ => ⟨a, xs, e, h, fun z => n (k a z), Paired.mapP p fun _ _ q => F.dn k q⟩
  up := fun k ⟨a, xs, e, h, n, p⟩ => ⟨a, xs, e, h, (fun z => (k a z).elim n fun q => by rw [h] at q; cases q), Paired.mapP p fun _ _ q => F.up k q⟩
def fP (K : PySem.W.Frag) {α β : Type} (F : Fam α) (G : Fam β) : Fam (α × β) where
  r := fun d N H v => ∃ a x y, v = .ref a ∧ Tp K H a [x, y] ∧ F.r d.1 N H x ∧ G.r d.2 N H y
  fr := fun k ⟨a, x, y, e, h, p, q⟩ => ⟨a, x, y, e, h.fr k, F.fr k p, G.fr k q⟩
  dn := fun k ⟨a, x, y, e, h, p, q⟩ => ⟨a, x, y, e, h, F.dn k p, G.dn k q⟩
  up := fun k ⟨a, x, y, e, h, p, q⟩ => ⟨a, x, y, e, h, F.up k p, G.up k q⟩
def fT (K : PySem.W.Frag) {α β γ δ : Type} (F : Fam α) (G : Fam β) (I : Fam γ) (p1 : δ → α) (p2 : δ → β) (p3 : δ → γ) : Fam δ where
  r := fun d N H v => ∃ a x y z, v = .ref a ∧ Tp K H a [x, y, z] ∧ F.r (p1 d) N H x ∧ G.r (p2 d) N H y ∧ I.r (p3 d) N H z
  fr := fun k ⟨a, x, y, z, e, h, p, q, s⟩ => ⟨a, x, y, z, e, h.fr k, F.fr k p, G.fr k q, I.fr k s⟩
  dn := fun k ⟨a, x, y, z, e, h, p, q, s⟩ => ⟨a, x, y, z, e, h, F.dn k p, G.dn k q, I.dn k s⟩
  up := fun k ⟨a, x, y, z, e, h, p, q, s⟩ => ⟨a, x, y, z, e, h, F.up k p, G.up k q, I.up k s⟩
section
variable (K : PySem.W.Frag)
abbrev fQs : Fam (List Q) := fL (fQ K)
abbrev fR : Fam Row := fT K (fQs K) (fQs K) (fQ K) Row.a Row.b Row.c
abbrev fB : Fam (Q × Q) := fP K (fQ K) (fQ K)
abbrev fPl : Fam Plan := fT K (fL (fB K)) (fL (fB K)) (fL (fR K)) Plan.sizes Plan.shims Plan.demands
abbrev fS : Fam Step := fP K (fL (fR K)) (fL (fR K))
abbrev fU : Fam (List Step × List Row) := fP K (fL (fS K)) (fL (fR K))
end

/-! ### pairs of lists -/
theorem Paired.get {α β : Type} {F : α → β → Prop} : ∀ {xs : List α} {ys : List β} {i : Nat} {x : α}, Paired F xs ys → xs[i]? = some x → ∃ y, ys[i]? = some y ∧ F x y
  | _, _, i, x, .nil, h => by simp at h
  | _, _, 0, x, .cons r t, h => by
    have e := Option.some.inj h
    subst e
    exact ⟨_, rfl, r⟩
  | _, _, i + 1, x, .cons r t, h => Paired.get (i := i) t h
theorem Paired.getR {α β : Type} {F : α → β → Prop} : ∀ {xs : List α} {ys : List β} {i : Nat} {y : β}, Paired F xs ys → ys[i]? = some y → ∃ x, xs[i]? = some x ∧ F x y
  | _, _, i, x, .nil, h => by simp at h
  | _, _, 0, x, .cons r t, h => by
    have e := Option.some.inj h
    subst e
    exact ⟨_, rfl, r⟩
  | _, _, i + 1, x, .cons r t, h => Paired.getR (i := i) t h
theorem Paired.len {α β : Type} {F : α → β → Prop} {xs : List α} {ys : List β} (h : Paired F xs ys) : xs.length = ys.length := Paired.length h
theorem Paired.app {α β : Type} {F : α → β → Prop} : ∀ {xs xs' : List α} {ys ys' : List β}, Paired F xs ys → Paired F xs' ys' → Paired F (xs ++ xs') (ys ++ ys')
  | _, _, _, _, .nil, h => h
  | _, _, _, _, .cons r t, h => .cons r (Paired.app t h)
theorem Paired.tk {α β : Type} {F : α → β → Prop} : ∀ {xs : List α} {ys : List β} (n : Nat), Paired F xs ys → Paired F (xs.take n) (ys.take n)
  | _, _, 0, _ => .nil
  | _, _, n + 1, .nil => .nil
  | _, _, n + 1, .cons r t => .cons r (Paired.tk n t)
theorem Paired.dp {α β : Type} {F : α → β → Prop} : ∀ {xs : List α} {ys : List β} (n : Nat), Paired F xs ys → Paired F (xs.drop n) (ys.drop n)
  | _, _, 0, h => h
  | _, _, n + 1, .nil => .nil
  | _, _, n + 1, .cons r t => Paired.dp n t
theorem Paired.st {α β : Type} {F : α → β → Prop} {x : α} {y : β} (h : F x y) : ∀ {xs : List α} {ys : List β} (n : Nat), Paired F xs ys → Paired F (xs.set n x) (ys.set n y)
  | _, _, _, .nil => .nil
  | _, _, 0, .cons r t => .cons h t
  | _, _, n + 1, .cons r t => .cons r (Paired.st h n t)
theorem take_more {α : Type} : ∀ {l : List α} {i : Nat} {x : α}, l[i]? = some x → l.take (i + 1) = l.take i ++ [x]
  | [], i, x, h => by simp at h
  | a :: l, 0, x, h => by
    have e := Option.some.inj h
    subst e
    rfl
  | a :: l, i + 1, x, h => by
    have ih := take_more (l := l) (i := i) (x := x) h
    show a :: l.take (i + 1) = a :: l.take i ++ [x]
    rw [ih]
    rfl
theorem line_le {n : Nat} (h : n ≤ 16777216) : n ≤ sizeLine := by rw [sizeLine_eq]; exact h
theorem line_lt {n : Nat} (h : n < 16777216) : n < sizeLine := by rw [sizeLine_eq]; exact h

/-! ### a list that is being built -/
def Gw {α : Type} (N : AS) (F : Fam α) (p : Addr) (ds : List α) (H : Hp) : Prop := ∃ xs, H p = some (.lst xs) ∧ Paired (fun v d => F.r d N H v) xs ds
section
variable {α : Type} {N : AS} {F : Fam α} {p : Addr} {ds : List α} {d : α} {H H' : Hp} {v : V}
theorem Gw.nil (hp : H p = some (.lst [])) : Gw N F p [] H := ⟨[], hp, .nil⟩
theorem Gw.same (g : Gw N F p ds H) (s : Same H H') : Gw N F p ds H' := let ⟨xs, h, q⟩ := g; ⟨xs, s p _ h, Paired.mapP q fun _ _ z => F.same s z⟩
theorem Gw.up {N' : AS} (g : Gw N F p ds H) (u : Up N N' H H') : Gw N' F p ds H' := let ⟨xs, h, q⟩ := g; ⟨xs, u.s p _ h, Paired.mapP q fun _ _ z => F.lift u z⟩
theorem Gw.push {xs : List V} (n : N p) (hp : H p = some (.lst xs)) (q : Paired (fun v d => F.r d N H v) xs ds) (r : F.r d N H v) : Gw N F p (ds ++ [d]) (upd H p (.lst (xs ++ [v]))) := by
  have k : Kp N H (upd H p (.lst (xs ++ [v]))) := But.upd.kp n hp
  exact ⟨_, upd_same, Paired.app (Paired.mapP q fun _ _ z => F.fr k z) (.cons (F.fr k r) .nil)⟩
theorem Gw.done {N' : AS} (g : Gw N' F p ds H) (i : ∀ a, N a → N' a) (n : ¬ N p) : (fL F).r ds N H (.ref p) := let ⟨xs, h, q⟩ := g; ⟨p, xs, rfl, h, n, Paired.mapP q fun _ _ z => F.dn i z⟩
theorem Gw.len (g : Gw N F p ds H) {xs : List V} (h : H p = some (.lst xs)) : xs.length = ds.length := by
  obtain ⟨ys, e, q⟩ := g
  rw [e] at h
  cases h
  exact Paired.length q
theorem Gw.ne (g : Gw N F p ds H) : H p ≠ none := let ⟨_, h, _⟩ := g; by rw [h]; simp
end

/-! ### what an expression comes to, from a world on -/
def Ge (te : TE) (σ : St) (N : AS) (H : Hp) (R : RP) : Prop := ∀ N' H1, Up N N' H H1 → ∀ Q : VK, (∀ v H2, Same H1 H2 → R N' H2 v → Q v H2) → te σ H1 Q
def GT (tt : TT) (σ : St) (N : AS) (H : Hp) (b : Bool) : Prop := ∀ N' H1, Up N N' H H1 → ∀ Q : Bool → Hp → Prop, (∀ H2, Same H1 H2 → Q b H2) → tt σ H1 Q
def GA (ta : TA) (σ : St) (N : AS) (H : Hp) (R : AS → Hp → List V → Prop) : Prop := ∀ N' H1, Up N N' H H1 → ∀ Q : List V → Hp → Prop, (∀ vs H2, Same H1 H2 → R N' H2 vs → Q vs H2) → ta σ H1 Q
section
variable {K : PySem.W.Frag} {σ : St} {N N' : AS} {H H' : Hp} {R S : RP} {ta tb te : TE} {v : V} {α β : Type} {F : Fam α} {G : Fam β}
theorem Ge.up (g : Ge te σ N H R) (u : Up N N' H H') : Ge te σ N' H' R := fun N2 H2 u2 => g N2 H2 (u.trans u2)
theorem Ge.imp (g : Ge te σ N H R) (h : ∀ N' H1 v, Up N N' H H1 → R N' H1 v → S N' H1 v) : Ge te σ N H S := fun N2 H2 u2 Q q => g N2 H2 u2 Q fun v H3 s r => q v H3 s (h N2 H3 v (u2.more s) r)
theorem ge_var {i : Nat} (h : σ[i]? = some (some v)) (m : Mn R) (r : R N H v) : Ge (tVar i) σ N H R := fun N2 H2 u Q q => ⟨v, h, q v H2 (Same.refl _) (m _ _ _ _ _ u r)⟩
theorem ge_v {i : Nat} {x : α} (h : σ[i]? = some (some v)) (r : F.r x N H v) : Ge (tVar i) σ N H (F.r x) := ge_var h (F.mn x) r
theorem ge_vi {i : Nat} {x : Int} (h : σ[i]? = some (some (.int x))) : Ge (tVar i) σ N H (vI x) := ge_var h mn_I rfl
theorem ge_i {i : Int} : Ge (tC (.int i)) σ N H (vI i) := fun N2 H2 u Q q => q _ H2 (Same.refl _) rfl
theorem ge_bl {i : Bool} : Ge (tC (.bl i)) σ N H (vB i) := fun N2 H2 u Q q => q _ H2 (Same.refl _) rfl
theorem ge_c {x : V} : Ge (tC x) σ N H (fun _ _ v => v = x) := fun N2 H2 u Q q => q _ H2 (Same.refl _) rfl
theorem ge_kt {a : Addr} {q : Q} (h : KT K a [.int q.1, .int q.2]) : Ge (tC (.ref a)) σ N H ((fQ K).r q) := fun N2 H2 u Q k => k _ H2 (Same.refl _) ⟨a, rfl, .inr h⟩
/-- two operands -/
theorem ge_two {r : R2} {T : RP} (ha : Ge ta σ N H R) (mr : Mn R) (hb : Ge tb σ N H S) (h : ∀ N' H' x y, Up N N' H H' → R N' H' x → S N' H' y → ∀ Q : VK, (∀ v H2, Same H' H2 → T N' H2 v → Q v H2) → r x y H' Q) : Ge (tOp r ta tb) σ N H T := fun N1 H1 u Q q =>
  ha N1 H1 u _ fun x H2 s2 rx => hb N1 H2 (u.more s2) _ fun y H3 s3 ry => h N1 H3 x y ((u.more s2).more s3) (mr _ _ _ _ _ (.of (u.more s2).d s3) rx) ry Q fun v H4 s4 rv => q v H4 ((s2.trans s3).trans s4) rv
theorem ge_rI0 {g : Int → Int → V} {i j : Int} (ha : Ge ta σ N H (vI i)) (hb : Ge tb σ N H (vI j)) : Ge (tOp (rI0 g) ta tb) σ N H (fun _ _ v => v = g i j) :=
  ge_two ha mn_I hb fun N' H' x y _ e1 e2 Q q => ⟨i, j, e1, e2, q _ H' (Same.refl _) rfl⟩
theorem ge_rI {C : Int → Int → Prop} {g : Int → Int → V} {i j : Int} (ha : Ge ta σ N H (vI i)) (hb : Ge tb σ N H (vI j)) (hc : C i j) : Ge (tOp (L2.rI C g) ta tb) σ N H (fun _ _ v => v = g i j) :=
  ge_two ha mn_I hb fun N' H' x y _ e1 e2 Q q => ⟨i, j, e1, e2, hc, q _ H' (Same.refl _) rfl⟩
theorem ge_un {g : Int → V} {i : Int} (ha : Ge ta σ N H (vI i)) : Ge (tUn (rU g) ta) σ N H (fun _ _ v => v = g i) := fun N1 H1 u Q q =>
  ha N1 H1 u _ fun x H2 s2 rx => ⟨i, rx, q _ H2 s2 rfl⟩
/-- an item of a written place -/
theorem atI_lit {xs : List V} {i : Nat} {v : V} (h : xs[i]? = some v) : atI xs (i : Int) = some v := atI_nat h
theorem ge_q0 {q : Q} (ha : Ge ta σ N H ((fQ K).r q)) : Ge (tOp (rIxT K) ta (tC (.int 0))) σ N H (vI q.1) :=
  ge_two ha ((fQ K).mn q) ge_i fun N' H' x y _ ⟨a, e, h⟩ e2 Q k => ⟨a, _, 0, _, e, e2, h.sq, atI_lit (i := 0) rfl, k _ H' (Same.refl _) rfl⟩
theorem ge_q1 {q : Q} (ha : Ge ta σ N H ((fQ K).r q)) : Ge (tOp (rIxT K) ta (tC (.int 1))) σ N H (vI q.2) :=
  ge_two ha ((fQ K).mn q) ge_i fun N' H' x y _ ⟨a, e, h⟩ e2 Q k => ⟨a, _, 1, _, e, e2, h.sq, atI_lit (i := 1) rfl, k _ H' (Same.refl _) rfl⟩
theorem ge_p0 {d : α × β} (ha : Ge ta σ N H ((fP K F G).r d)) : Ge (tOp (rIxT K) ta (tC (.int 0))) σ N H (F.r d.1) :=
  ge_two ha ((fP K F G).mn d) ge_i fun N' H' x y _ ⟨a, u, w, e, h, p, q⟩ e2 Q k => ⟨a, _, 0, _, e, e2, h.sq, atI_lit (i := 0) rfl, k _ H' (Same.refl _) p⟩
theorem ge_p1 {d : α × β} (ha : Ge ta σ N H ((fP K F G).r d)) : Ge (tOp (rIxT K) ta (tC (.int 1))) σ N H (G.r d.2) :=
  ge_two ha ((fP K F G).mn d) ge_i fun N' H' x y _ ⟨a, u, w, e, h, p, q⟩ e2 Q k => ⟨a, _, 1, _, e, e2, h.sq, atI_lit (i := 1) rfl, k _ H' (Same.refl _) q⟩
section
variable {γ δ : Type} {I : Fam γ} {p1 : δ → α} {p2 : δ → β} {p3 : δ → γ} {d : δ}
theorem ge_t0 (ha : Ge ta σ N H ((fT K F G I p1 p2 p3).r d)) : Ge (tOp (rIxT K) ta (tC (.int 0))) σ N H (F.r (p1 d)) :=
  ge_two ha ((fT K F G I p1 p2 p3).mn d) ge_i fun N' H' x y _ ⟨a, u, w, z, e, h, p, q, s⟩ e2 Q k => ⟨a, _, 0, _, e, e2, h.sq, atI_lit (i := 0) rfl, k _ H' (Same.refl _) p⟩
theorem ge_t1 (ha : Ge ta σ N H ((fT K F G I p1 p2 p3).r d)) : Ge (tOp (rIxT K) ta (tC (.int 1))) σ N H (G.r (p2 d)) :=
  ge_two ha ((fT K F G I p1 p2 p3).mn d) ge_i fun N' H' x y _ ⟨a, u, w, z, e, h, p, q, s⟩ e2 Q k => ⟨a, _, 1, _, e, e2, h.sq, atI_lit (i := 1) rfl, k _ H' (Same.refl _) q⟩
theorem ge_t2 (ha : Ge ta σ N H ((fT K F G I p1 p2 p3).r d)) : Ge (tOp (rIxT K) ta (tC (.int 2))) σ N H (I.r (p3 d)) :=
  ge_two ha ((fT K F G I p1 p2 p3).mn d) ge_i fun N' H' x y _ ⟨a, u, w, z, e, h, p, q, s⟩ e2 Q k => ⟨a, _, 2, _, e, e2, h.sq, atI_lit (i := 2) rfl, k _ H' (Same.refl _) s⟩
end
/-- xs[k] -/
theorem ge_ix {ds : List α} {d : α} {k : Int} {n : Nat} (ha : Ge ta σ N H ((fL F).r ds)) (hb : Ge tb σ N H (vI k)) (ek : k = (n : Int)) (hd : ds[n]? = some d) : Ge (tOp (rIxL K) ta tb) σ N H (F.r d) :=
  ge_two ha ((fL F).mn ds) hb fun N' H' x y _ ⟨a, xs, e, h, _, p⟩ e2 Q q => by
    obtain ⟨w, hw, rw'⟩ := Paired.getR p hd
    exact ⟨a, xs, k, w, e, e2, .of h, by rw [ek]; exact atI_nat hw, q _ H' (Same.refl _) rw'⟩
/-- arguments -/
theorem ga_nil : GA tNil σ N H (fun _ _ vs => vs = []) := fun N1 H1 u Q q => q _ H1 (Same.refl _) rfl
theorem ga_cons {t : TA} {T : AS → Hp → List V → Prop} (ha : Ge te σ N H R) (mr : Mn R) (hr : GA t σ N H T) : GA (tCons te t) σ N H (fun N' H' vs => ∃ v r, vs = v :: r ∧ R N' H' v ∧ T N' H' r) := fun N1 H1 u Q q =>
  ha N1 H1 u _ fun x H2 s2 rx => hr N1 H2 (u.more s2) _ fun xs H3 s3 rs => q _ H3 (s2.trans s3) ⟨x, xs, rfl, mr _ _ _ _ _ (.of (u.more s2).d s3) rx, rs⟩
theorem ga1 (ha : Ge ta σ N H R) (mr : Mn R) : GA (tCons ta tNil) σ N H (fun N' H' vs => ∃ x, vs = [x] ∧ R N' H' x) := fun N1 H1 u Q q =>
  ga_cons ha mr ga_nil N1 H1 u Q fun vs H2 s2 ⟨v, r, e, h, er⟩ => q vs H2 s2 ⟨v, by rw [e, er], h⟩
theorem ga2 (ha : Ge ta σ N H R) (mr : Mn R) (hb : Ge tb σ N H S) (ms : Mn S) : GA (tCons ta (tCons tb tNil)) σ N H (fun N' H' vs => ∃ x y, vs = [x, y] ∧ R N' H' x ∧ S N' H' y) := fun N1 H1 u Q q =>
  ga_cons ha mr (ga1 hb ms) N1 H1 u Q fun vs H2 s2 ⟨v, r, e, h, y, er, hy⟩ => q vs H2 s2 ⟨v, y, by rw [e, er], h, hy⟩
theorem ga3 {tc : TE} {T : RP} (ha : Ge ta σ N H R) (mr : Mn R) (hb : Ge tb σ N H S) (ms : Mn S) (hc : Ge tc σ N H T) (mt : Mn T) : GA (tCons ta (tCons tb (tCons tc tNil))) σ N H (fun N' H' vs => ∃ x y z, vs = [x, y, z] ∧ R N' H' x ∧ S N' H' y ∧ T N' H' z) := fun N1 H1 u Q q =>
  ga_cons ha mr (ga2 hb ms hc mt) N1 H1 u Q fun vs H2 s2 ⟨v, r, e, h, y, z, er, hy, hz⟩ => q vs H2 s2 ⟨v, y, z, by rw [e, er], h, hy, hz⟩
theorem ga4 {tc td : TE} {T U : RP} (ha : Ge ta σ N H R) (mr : Mn R) (hb : Ge tb σ N H S) (ms : Mn S) (hc : Ge tc σ N H T) (mt : Mn T) (hd : Ge td σ N H U) (mu : Mn U) : GA (tCons ta (tCons tb (tCons tc (tCons td tNil)))) σ N H (fun N' H' vs => ∃ x y z w, vs = [x, y, z, w] ∧ R N' H' x ∧ S N' H' y ∧ T N' H' z ∧ U N' H' w) := fun N1 H1 u Q q =>
  ga_cons ha mr (ga3 hb ms hc mt hd mu) N1 H1 u Q fun vs H2 s2 ⟨v, r, e, h, y, z, w, er, hy, hz, hw⟩ => q vs H2 s2 ⟨v, y, z, w, by rw [e, er], h, hy, hz, hw⟩
/-- displays -/
theorem ge_mkQ {q : Q} (ha : Ge ta σ N H (vI q.1)) (hb : Ge tb σ N H (vI q.2)) : Ge (tTup (tCons ta (tCons tb tNil))) σ N H ((fQ K).r q) := fun N1 H1 u Q k =>
  ga2 ha mn_I hb mn_I N1 H1 u _ fun vs H2 s2 ⟨x, y, e, hx, hy⟩ => ⟨by rw [e]; exact line_le (by simp), fun p hp => k _ _ (s2.trans (same_new hp)) ⟨p, rfl, .inl (by rw [upd_same, e, hx, hy])⟩⟩
theorem ge_mkP {d : α × β} (ha : Ge ta σ N H (F.r d.1)) (hb : Ge tb σ N H (G.r d.2)) : Ge (tTup (tCons ta (tCons tb tNil))) σ N H ((fP K F G).r d) := fun N1 H1 u Q k =>
  ga2 ha (F.mn _) hb (G.mn _) N1 H1 u _ fun vs H2 s2 ⟨x, y, e, hx, hy⟩ => ⟨by rw [e]; exact line_le (by simp), fun p hp => k _ _ (s2.trans (same_new hp)) ⟨p, x, y, rfl, .inl (by rw [upd_same, e]), F.same (same_new hp) hx, G.same (same_new hp) hy⟩⟩
theorem ge_mkT {tc : TE} {γ δ : Type} {I : Fam γ} {p1 : δ → α} {p2 : δ → β} {p3 : δ → γ} {d : δ} (ha : Ge ta σ N H (F.r (p1 d))) (hb : Ge tb σ N H (G.r (p2 d))) (hc : Ge tc σ N H (I.r (p3 d))) : Ge (tTup (tCons ta (tCons tb (tCons tc tNil)))) σ N H ((fT K F G I p1 p2 p3).r d) := fun N1 H1 u Q k =>
  ga3 ha (F.mn _) hb (G.mn _) hc (I.mn _) N1 H1 u _ fun vs H2 s2 ⟨x, y, z, e, hx, hy, hz⟩ => ⟨by rw [e]; exact line_le (by simp), fun p hp => k _ _ (s2.trans (same_new hp)) ⟨p, x, y, z, rfl, .inl (by rw [upd_same, e]), F.same (same_new hp) hx, G.same (same_new hp) hy, I.same (same_new hp) hz⟩⟩
/-- a written list of data -/
theorem ge_lst {t : TA} {ds : List α} (ha : GA t σ N H (fun N' H' vs => Paired (fun v d => F.r d N' H' v) vs ds)) (hl : ds.length ≤ 1000) : Ge (tLst t) σ N H ((fL F).r ds) := fun N1 H1 u Q k =>
  ha N1 H1 u _ fun vs H2 s2 p => ⟨by rw [Paired.length p]; exact line_le (by omega), fun a hp => k _ _ (s2.trans (same_new hp)) ⟨a, vs, rfl, upd_same, (u.more s2).dom.new hp, Paired.mapP p fun _ _ z => F.same (same_new hp) z⟩⟩
theorem ga_lnil : GA tNil σ N H (fun N' H' vs => Paired (fun v d => F.r d N' H' v) vs []) := fun N1 H1 u Q q => q _ H1 (Same.refl _) .nil
theorem ga_lcons {t : TA} {d : α} {ds : List α} (ha : Ge te σ N H (F.r d)) (hr : GA t σ N H (fun N' H' vs => Paired (fun v d => F.r d N' H' v) vs ds)) : GA (tCons te t) σ N H (fun N' H' vs => Paired (fun v d => F.r d N' H' v) vs (d :: ds)) := fun N1 H1 u Q q =>
  ha N1 H1 u _ fun x H2 s2 rx => hr N1 H2 (u.more s2) _ fun xs H3 s3 rs => q _ H3 (s2.trans s3) (.cons (F.same s3 rx) rs)
/-- xs + ys, xs[:k], xs[k:] -/
theorem ge_cat {ds es : List α} (ha : Ge ta σ N H ((fL F).r ds)) (hb : Ge tb σ N H ((fL F).r es)) (hl : ds.length + es.length ≤ 16777216) : Ge (tOp rCat ta tb) σ N H ((fL F).r (ds ++ es)) :=
  ge_two ha ((fL F).mn ds) hb fun N' H' x y u ⟨a, xs, e, h, _, p⟩ ⟨b, ys, e2, h2, _, p2⟩ Q q =>
    ⟨a, b, xs, ys, e, e2, h, h2, by rw [Paired.length p, Paired.length p2]; exact line_le hl, fun l hl => q _ _ (same_new hl) ⟨l, _, rfl, upd_same, u.dom.new hl, Paired.app (Paired.mapP p fun _ _ z => F.same (same_new hl) z) (Paired.mapP p2 fun _ _ z => F.same (same_new hl) z)⟩⟩
end
end Sh
/-! defs and their promises; statements -/
namespace Sh
open PySem PySem.Spec PyProof.Rows L2
/-- a def of the text under its name -/
structure Df (K : PySem.W.Frag) (mg : Str → Option Value) (x : Str) (st : Stmt) : Prop where
  ex : ∃ f fd, mg x = some (.ref f) ∧ Fun K x x st f fd
/-- a def that keeps its promise, under its name -/
structure Kn (P : Program) (w : World) (K : PySem.W.Frag) (mg : Str → Option Value) (base : Heap) (CX : CXT) (k : Nat) (x : Str) (ps : List Str) (sp : Sp) : Prop where
  ex : ∃ f fd, mg x = some (.ref f) ∧ PySem.W.keepIn K (.ref f) = true ∧ Binds K fd ps [] ∧ FnOk P w K mg base CX k f fd ps sp
def tCl (sp : Sp) (E : XK) (t : TA) : TE := fun σ H Q => t σ H fun vs H1 => sp vs H1 Q E
section
variable {X : Cx} {CX : CXT} {k : Nat} {ps : List Str} {sp : Sp} {E : XK} {x : Str} {p pos : Pos} {e : Expr} {es : List Expr} {t : TA}
theorem pe_kn (F : Kn X.prog X.w X.K X.mg X.base CX k x ps sp) (hr : Room k X.A) (hg : Gl X x) (hx : Passes CX X E) (ha : PA X (e :: es) t) (hdb : (x == ("__debug__" : Str)) = false := by decide)
    (he : starEach (e :: es) X.env = (false, eval e X.env) :: starEach es X.env := by rfl) (hpl : (backTo pos (starEach es X.env)).any (·.1) = false := by rfl) : PE X (.Call (.Name x p) (e :: es) [] pos) (tCl sp E t) := by
  obtain ⟨f, fd, hm, hk, hb, G⟩ := F.ex
  refine ⟨fun pins s σ H Q I h => ?_⟩
  have h' : tCall sp [] E t σ H Q := by
    unfold tCall
    have : (fun (vs : List V) (H1 : Hp) => sp (vs ++ []) H1 Q E) = fun vs H1 => sp vs H1 Q E := by
      funext vs H1
      rw [List.append_nil]
    rw [this]
    exact h
  exact (pe_call G hr hg hm hk hb .nil hx ha hdb he hpl).run pins s σ H Q I h'
/-- .. within a try -/
theorem pe_knS {E : L2.St → XK} (F : Kn X.prog X.w X.K X.mg X.base CX k x ps sp) (hr : Room k X.A) (hg : Gl X x) (hx : ∀ σ, PassesAt CX X σ (E σ)) (ha : PA X (e :: es) t) (hdb : (x == ("__debug__" : Str)) = false := by decide)
    (he : starEach (e :: es) X.env = (false, eval e X.env) :: starEach es X.env := by rfl) (hpl : (backTo pos (starEach es X.env)).any (·.1) = false := by rfl) : PE X (.Call (.Name x p) (e :: es) [] pos) (tCallS sp E t) := by
  obtain ⟨f, fd, hm, hk, hb, G⟩ := F.ex
  exact pe_callS G hr hg hm hk hb hx ha hdb he hpl
/-- a module's constant that is an object -/
theorem pe_gr {a : Addr} (hg : Gl X x) (hm : X.mg x = some (.ref a)) (hd : (x == ("__debug__" : Str)) = false := by decide) : PE X (.Name x pos) (tC (.ref a)) := pe_glob hg hm rfl hd
end
theorem hu64 {A : Around} {k : Nat} (hr : Room k A) : A.units + 64 < cLine := hr.units
theorem hu65 {A : Around} {k : Nat} (hr : Room k A) : A.units + 65 < cLine := by
  have h := hr.un
  omega
/-- a promise: x what the arguments are, R what comes back -/
def PSp {α : Type} (pre : α → Prop) (A : α → AS → Hp → List V → Prop) (R : α → RP) : Sp := fun vs H Q _ => ∃ x N, Dom N H ∧ pre x ∧ A x N H vs ∧ ∀ v H', Same H H' → R x N H' v → Q v H'
def A1 (R : RP) : AS → Hp → List V → Prop := fun N H vs => ∃ x, vs = [x] ∧ R N H x
def A2 (R S : RP) : AS → Hp → List V → Prop := fun N H vs => ∃ x y, vs = [x, y] ∧ R N H x ∧ S N H y
def A3 (R S T : RP) : AS → Hp → List V → Prop := fun N H vs => ∃ x y z, vs = [x, y, z] ∧ R N H x ∧ S N H y ∧ T N H z
def A4 (R S T U : RP) : AS → Hp → List V → Prop := fun N H vs => ∃ x y z w, vs = [x, y, z, w] ∧ R N H x ∧ S N H y ∧ T N H z ∧ U N H w
section
variable {α : Type} {pre : α → Prop} {A : α → AS → Hp → List V → Prop} {R : α → RP} {E : XK} {t : TA} {σ : St} {N : AS} {H : Hp} {x : α}
theorem ge_call (hp : pre x) (ga : GA t σ N H (A x)) : Ge (tCl (PSp pre A R) E t) σ N H (R x) := fun N1 H1 u Q q =>
  ga N1 H1 u _ fun vs H2 s2 a => ⟨x, N1, (u.more s2).dom, hp, a, fun v H' s r => q v H' (s2.trans s) r⟩
end
/-! ### statements -/
section
variable {σ : St} {N : AS} {H : Hp} {R : RP} {te : TE} {c : TT} {b : Bool} {D : Ends} {t u w : TS} {i : Nat}
theorem s_ret (g : Ge te σ N H R) (d : Dom N H) (k : ∀ v H2, Same H H2 → R N H2 v → D.rt v H2) : tRet te D σ H := g N H (.refl d) _ k
theorem s_set (g : Ge te σ N H R) (d : Dom N H) (k : ∀ v H2, Same H H2 → R N H2 v → D.nx (σ.set i (some v)) H2) : tAsg te (gName i) D σ H := g N H (.refl d) _ k
theorem q_set (g : Ge te σ N H R) (d : Dom N H) (k : ∀ v H2, Same H H2 → R N H2 v → u D (σ.set i (some v)) H2) : tSeq (tAsg te (gName i)) u D σ H := g N H (.refl d) _ k
theorem q_setV {v : V} (g : Ge te σ N H (fun _ _ x => x = v)) (d : Dom N H) (k : ∀ H2, Same H H2 → u D (σ.set i (some v)) H2) : tSeq (tAsg te (gName i)) u D σ H := g N H (.refl d) _ fun x H2 s e => by subst e; exact k H2 s
theorem s_drop (g : Ge te σ N H R) (d : Dom N H) (k : ∀ v H2, Same H H2 → R N H2 v → D.nx σ H2) : tDrop te D σ H := g N H (.refl d) _ k
theorem q_drop (g : Ge te σ N H R) (d : Dom N H) (k : ∀ v H2, Same H H2 → R N H2 v → u D σ H2) : tSeq (tDrop te) u D σ H := g N H (.refl d) _ k
theorem s_if (g : GT c σ N H b) (d : Dom N H) (h1 : b = true → ∀ H2, Same H H2 → t D σ H2) (h2 : b = false → ∀ H2, Same H H2 → w D σ H2) : tIfS c t w D σ H := g N H (.refl d) _ fun H2 s => by
  cases b with
  | true => exact iteT (h1 rfl H2 s)
  | false => exact iteF (h2 rfl H2 s)
theorem q_if (g : GT c σ N H b) (d : Dom N H) (h1 : b = true → ∀ H2, Same H H2 → t { D with nx := u D } σ H2) (h2 : b = false → ∀ H2, Same H H2 → w { D with nx := u D } σ H2) : tSeq (tIfS c t w) u D σ H := s_if (D := { D with nx := u D }) g d h1 h2
theorem n_next (h : D.nx σ H) : tNext D σ H := h
/-- an if without else, before more -/
theorem q_when (g : GT c σ N H b) (d : Dom N H) (h1 : b = true → ∀ H2, Same H H2 → t { D with nx := u D } σ H2) (h2 : b = false → ∀ H2, Same H H2 → u D σ H2) : tSeq (tIfS c t tNext) u D σ H := s_if (D := { D with nx := u D }) g d h1 h2
theorem gt_test (g : Ge te σ N H (vB b)) : GT (tTest te) σ N H b := fun N1 H1 u Q q => g N1 H1 u _ fun v H2 s e => ⟨b, e, q H2 s⟩
theorem gt_B (g : Ge te σ N H (vB b)) : GT (tB te) σ N H b := fun N1 H1 u Q q => g N1 H1 u _ fun v H2 s e => ⟨b, e, q H2 s⟩
theorem gt_not (g : GT c σ N H b) : GT (tNot c) σ N H (!b) := fun N1 H1 u Q q => g N1 H1 u _ fun H2 s => q H2 s
theorem gt_and {c' : TT} {b' : Bool} (g : GT c σ N H b) (g' : b = true → GT c' σ N H b') : GT (tAnd c c') σ N H (b && b') := fun N1 H1 u Q q => g N1 H1 u _ fun H2 s => by
  cases b with
  | true => exact iteT (g' rfl N1 H2 (u.more s) Q fun H3 s3 => q H3 (s.trans s3))
  | false => exact iteF (q H2 s)
theorem ge_eqI {ta tb : TE} {i j : Int} (ha : Ge ta σ N H (vI i)) (hb : Ge tb σ N H (vI j)) : Ge (tOp rEq ta tb) σ N H (vB (decide (i = j))) :=
  ge_two ha mn_I hb fun N' H' x y _ e1 e2 Q q => by
    cases e1
    cases e2
    refine ⟨rfl, q _ H' (Same.refl _) ?_⟩
    show V.bl _ = V.bl _
    rw [dec_int, Bool.beq_eq_decide_eq]
theorem ge_neI {ta tb : TE} {i j : Int} (ha : Ge ta σ N H (vI i)) (hb : Ge tb σ N H (vI j)) : Ge (tOp rNe ta tb) σ N H (vB (!decide (i = j))) :=
  ge_two ha mn_I hb fun N' H' x y _ e1 e2 Q q => by
    cases e1
    cases e2
    refine ⟨rfl, q _ H' (Same.refl _) ?_⟩
    show V.bl _ = V.bl _
    rw [dec_int, Bool.beq_eq_decide_eq]
theorem ge_ltI {ta tb : TE} {i j : Int} (ha : Ge ta σ N H (vI i)) (hb : Ge tb σ N H (vI j)) : Ge (tOp (rI0 fun i j => .bl (decide (i < j))) ta tb) σ N H (vB (decide (i < j))) := ge_rI0 ha hb
theorem ge_addI {ta tb : TE} {i j : Int} (ha : Ge ta σ N H (vI i)) (hb : Ge tb σ N H (vI j)) : Ge (tOp (rI0 fun i j => .int (i + j)) ta tb) σ N H (vI (i + j)) := ge_rI0 ha hb
theorem ge_subI {ta tb : TE} {i j : Int} (ha : Ge ta σ N H (vI i)) (hb : Ge tb σ N H (vI j)) : Ge (tOp (rI0 fun i j => .int (i - j)) ta tb) σ N H (vI (i - j)) := ge_rI0 ha hb
theorem ge_mulI {ta tb : TE} {i j : Int} (ha : Ge ta σ N H (vI i)) (hb : Ge tb σ N H (vI j)) (hc : CMulW i j) : Ge (tOp (L2.rI CMulW fun i j => .int (i * j)) ta tb) σ N H (vI (i * j)) := ge_rI ha hb hc
theorem ge_divI {ta tb : TE} {i j : Int} (ha : Ge ta σ N H (vI i)) (hb : Ge tb σ N H (vI j)) (hc : CDivW i j) : Ge (tOp (L2.rI CDivW fun i j => .int (i / j)) ta tb) σ N H (vI (i / j)) := ge_rI ha hb hc
theorem ge_modI {ta tb : TE} {i j : Int} (ha : Ge ta σ N H (vI i)) (hb : Ge tb σ N H (vI j)) (hc : 0 < j) : Ge (tOp (L2.rI (fun _ j => 0 < j) fun i j => .int (i % j)) ta tb) σ N H (vI (i % j)) := ge_rI ha hb hc
theorem s_next (h : D.nx σ H) : tNext D σ H := h
theorem ge_not (g : Ge te σ N H (vB b)) : Ge (tNotV te) σ N H (vB (!b)) := fun N1 H1 u Q q => g N1 H1 u _ fun v H2 s e => ⟨b, e, q _ H2 s rfl⟩
end
/-! ### the text -/
def top (i : Nat) : Stmt := PySem.Challenge.pw_shimright_k24_whole_idle_shims.main.body.getD i (.Pass ⟨0, 0, 0, 0⟩)
/-- what the top has left, besides the defs -/
structure Txt (K : PySem.W.Frag) (mg : Str → Option Value) (aN aO aM aC : Addr) : Prop where
  NOUGHT : mg "NOUGHT" = some (.ref aN)
  ONE : mg "ONE" = some (.ref aO)
  LESS_ONE : mg "LESS_ONE" = some (.ref aM)
  kN : KT K aN [.int 0, .int 1]
  kO : KT K aO [.int 1, .int 1]
  kM : KT K aM [.int (-1), .int 1]
  abs : mg "abs" = none
  len : mg "len" = none
  max : mg "max" = none
  min : mg "min" = none
  list : mg "list" = none
  int : mg "int" = none
  zip : mg "zip" = none
  range : mg "range" = none
  enumerate : mg "enumerate" = none
  gC : mg "NoChoice" = some (.ref aC)
  xC : PySem.W.excIn K aC [.type "ValueError", .type "Exception", .type "BaseException", .type "object"] "ValueError.__new__" = true
  kC : PySem.W.keepIn K (.ref aC) = true
  bC : PySem.W.subIn K (.ref aC) (.type "BaseException") = some true
  tC : PySem.W.typeIn K (.ref aC) = some (.type "type")
  eC : PySem.W.exmOne K (.ref aC) (.ref aC) = some true
end Sh
/-! fractions -/
namespace Sh
open PySem PySem.Spec PyProof.Rows L2
section
variable {P : Program} {w : World} {K : PySem.W.Frag} {mg : Str → Option Value} {base : Heap} {aN aO aM aC : Addr}
def spDiv : Sp := fun vs H Q _ => ∃ t b : Int, vs = [.int t, .int b] ∧ 0 ≤ b ∧ Q (.int ((Int.gcd t b : Nat) : Int)) H
abbrev s_divisor : Stmt := top 5
theorem sc_divisor : FnScope ["one", "other"] ["one", "other"] (defScope s_divisor) := ⟨rfl, rfl, rfl, by decide +kernel, rfl, by decide +kernel, by decide +kernel⟩
theorem gcd_turn (a b : Int) : Int.gcd b (a % b) = Int.gcd a b := by
  rw [Int.gcd_comm b (a % b), Int.gcd_comm a b]
  rw [show a % b = a + -(a / b) * b by have := Int.emod_add_mul_ediv a b; rw [Int.neg_mul, Int.mul_comm (a / b) b]; omega]
  rw [Int.gcd_comm, Int.gcd_add_mul_right_right]
theorem ok_divisor {f : Addr} {fd : FuncData} (F : Fun K "divisor" "divisor" s_divisor f fd) (T : Txt K mg aN aO aM aC) : FnOk P w K mg base CX0 1 f fd ["one", "other"] spDiv := by
  refine F.ok sc_divisor (fun vs H Q E h => ?_) (fun cdv A outer s H vs Q E hr h => ?_)
  · obtain ⟨t, b, rfl, _⟩ := h
    rfl
  · obtain ⟨t, b, rfl, hb, k⟩ := h
    refine ⟨_, (pss_cons (ps_while PassesOwn.never (pt_cmpR op_ne (pv 1) pe_int (nomark _)) (pss_one (ps_par (i := 0) (j := 1) rfl sc_divisor.nd rfl rfl (by decide) rfl rfl (pa_cons (pv 1) (pa_cons (pe_op op_mod (pv 0) (pv 1)) pa_nil)) (by rfl))))
      (pss_one (ps_ret (pe_callB call_abs rfl T.abs (by decide +kernel) (pa_cons (pv 0) pa_nil))))), ?_⟩
    refine ⟨fun m σ H' => H' = H ∧ ∃ x y : Int, σ = [some (.int x), some (.int y)] ∧ 0 ≤ y ∧ m = y.toNat ∧ Int.gcd x y = Int.gcd t b, ⟨_, rfl, t, b, rfl, hb, rfl, rfl⟩, ?_⟩
    rintro m σ H' ⟨rfl, x, y, rfl, hy, rfl, hg⟩
    refine ⟨_, rfl, rfl, _, rfl, ?_⟩
    by_cases c : y = 0
    · subst c
      refine iteF ?_
      refine ⟨_, rfl, _, rfl, ?_⟩
      have e : (if x < 0 then -x else x) = ((Int.gcd t b : Nat) : Int) := by
        rw [← hg, Int.gcd_zero_right]
        split <;> omega
      rw [e]
      exact k
    · have e : (!decide (V.int y = V.int 0)) = true := by
        rw [Bool.not_eq_true', decide_eq_false_iff_not]
        intro q
        exact c (V.int.inj q)
      rw [e]
      refine iteT ?_
      refine ⟨fun σ' H'' => H'' = H' ∧ σ' = [some (.int y), some (.int (x % y))], ?_, ?_⟩
      · rintro σ' H'' ⟨rfl, rfl⟩
        have h1 := Int.emod_nonneg x c
        have h2 := Int.emod_lt_of_pos x (show 0 < y by omega)
        exact ⟨(x % y).toNat, by omega, rfl, y, x % y, rfl, h1, rfl, by rw [gcd_turn]; exact hg⟩
      · exact ⟨_, rfl, _, rfl, _, rfl, _, _, rfl, rfl, (show 0 < y by omega), _, _, rfl, rfl, rfl⟩
def spFr (K : PySem.W.Frag) : Sp := PSp (fun d : Int × Int => 0 < d.2 ∧ d.2.natAbs < 2 ^ 8995) (fun d => A2 (vI d.1) (vI d.2)) (fun d => (fQ K).r (fr d.1 d.2))
abbrev s_fraction : Stmt := top 6
theorem sc_fraction : FnScope ["top", "bottom", "many"] ["top", "bottom"] (defScope s_fraction) := ⟨rfl, rfl, rfl, by decide +kernel, rfl, by decide +kernel, by decide +kernel⟩
theorem ok_fraction {f : Addr} {fd : FuncData} (F : Fun K "fraction" "fraction" s_fraction f fd) (T : Txt K mg aN aO aM aC) (Ddiv : Kn P w K mg base CX0 1 "divisor" ["one", "other"] spDiv) : FnOk P w K mg base CX0 2 f fd ["top", "bottom"] (spFr K) := by
  refine F.ok sc_fraction (fun vs H Q E h => ?_) (fun cdv A outer s H vs Q E hr h => ?_)
  · obtain ⟨x, N, _, _, ⟨_, _, rfl, _⟩, _⟩ := h
    rfl
  · obtain ⟨⟨t, b⟩, N, d, ⟨hb, hz⟩, ⟨_, _, rfl, rfl, rfl⟩, k⟩ := h
    refine ⟨_, (pss_cons (ps_if (pt_cmpR op_eq (pv 1) pe_int (nomark _)) (pss_one ps_never) pss_nil)
      (pss_cons (ps_set (i := 2) sc_fraction.nd rfl (.inl rfl) (pe_kn Ddiv (hr.mono (by decide)) rfl pass0 (pa_cons (pv 0) (pa_cons (pv 1) pa_nil))))
      (pss_cons (ps_if (pt_cmpR op_lt (pv 1) pe_int (nomark _)) (pss_one (ps_set (i := 2) sc_fraction.nd rfl (.inl rfl) (pe_op op_sub pe_int (pv 2)))) pss_nil)
      (pss_one (ps_ret (pe_tup (pa_cons (pe_op op_fdivW (pv 0) (pv 2)) (pa_cons (pe_op op_fdivW (pv 1) (pv 2)) pa_nil)))))))), ?_⟩
    simp only at hb hz
    have hg := gcd_pos_right (t := t) hb
    have hle : Int.gcd t b ≤ b.natAbs := Nat.le_of_dvd (by omega) (Int.gcd_dvd_natAbs_right t b)
    have hd : ∀ i : Int, CDivW i ((Int.gcd t b : Nat) : Int) := fun i => wide_div (b := 8995) (by omega) (by rw [Int.natAbs_natCast]; omega) (by decide) (by decide)
    refine q_when (N := N) (gt_test (ge_eqI (ge_vi rfl) ge_i)) d (fun e => absurd (of_decide_eq_true e) (by show ¬ b = 0; omega)) fun _ H1 s1 => ?_
    refine ⟨_, rfl, _, rfl, t, b, rfl, by omega, ?_⟩
    refine q_when (N := N) (gt_test (ge_ltI (ge_vi rfl) ge_i)) (d.same s1) (fun e => absurd (of_decide_eq_true e) (by show ¬ b < 0; omega)) fun _ H2 s2 => ?_
    refine s_ret (N := N) (ge_mkQ (K := K) (q := fr t b) ?_ ?_) ((d.same s1).same s2) fun v H3 s3 r => k v H3 ((s1.trans s2).trans s3) r
    · exact ge_divI (ge_vi rfl) (ge_vi rfl) (hd _)
    · exact ge_divI (ge_vi rfl) (ge_vi rfl) (hd _)
/-- a def's promise under its name -/
theorem kn_of {CX : CXT} {x : Str} {st : Stmt} {k : Nat} {ps : List Str} {sp : Sp} (D : Df K mg x st) (hb : ∀ f fd, Fun K x x st f fd → Binds K fd ps []) (ok : ∀ f fd, Fun K x x st f fd → FnOk P w K mg base CX k f fd ps sp) : Kn P w K mg base CX k x ps sp := by
  obtain ⟨f, fd, hm, F⟩ := D.ex
  exact ⟨f, fd, hm, F.kp, hb f fd F, ok f fd F⟩
theorem kn_divisor (D : Df K mg "divisor" s_divisor) (T : Txt K mg aN aO aM aC) : Kn P w K mg base CX0 1 "divisor" ["one", "other"] spDiv :=
  kn_of D (fun _ _ F => F.binds fun _ _ _ _ _ _ us hl => match us, hl with | [_, _], _ => rfl) fun _ _ F => ok_divisor F T
theorem kn_fraction (D : Df K mg "fraction" s_fraction) (T : Txt K mg aN aO aM aC) (Ddiv : Kn P w K mg base CX0 1 "divisor" ["one", "other"] spDiv) : Kn P w K mg base CX0 2 "fraction" ["top", "bottom"] (spFr K) :=
  kn_of D (fun _ _ F => F.binds fun _ _ _ _ _ _ us hl => match us, hl with | [_, _], _ => rfl) fun _ _ F => ok_fraction F T Ddiv
end
end Sh
/-! sums, products, comparisons of fractions -/
namespace Sh
open PySem PySem.Spec PyProof.Rows L2
theorem cm_of {i j : Int} {a b : Nat} (ha : i.natAbs < 2 ^ a) (hb : j.natAbs < 2 ^ b) (h0 : 0 < a) (h1 : 0 < b) (h : a + b ≤ 1000000) : CMulW i j := wide_mul ha hb h0 h1 h
section
variable {q r : Q} (h : PB q r)
include h
theorem PB.m11 : CMulW q.1 r.1 := let ⟨a, b, h1, h2, h3, h4, h5⟩ := h; cm_of h3.1 h4.1 h1 h2 (by omega)
theorem PB.m12 : CMulW q.1 r.2 := let ⟨a, b, h1, h2, h3, h4, h5⟩ := h; cm_of h3.1 h4.2.2 h1 h2 (by omega)
theorem PB.m21 : CMulW r.1 q.2 := let ⟨a, b, h1, h2, h3, h4, h5⟩ := h; cm_of h4.1 h3.2.2 h2 h1 (by omega)
theorem PB.n21 : CMulW q.2 r.1 := let ⟨a, b, h1, h2, h3, h4, h5⟩ := h; cm_of h3.2.2 h4.1 h1 h2 (by omega)
theorem PB.m22 : CMulW q.2 r.2 := let ⟨a, b, h1, h2, h3, h4, h5⟩ := h; cm_of h3.2.2 h4.2.2 h1 h2 (by omega)
end
theorem P2.den {q r : Q} (h : P2 q r) : 0 < q.2 * r.2 ∧ (q.2 * r.2).natAbs < 2 ^ 8995 :=
  let ⟨a, b, h1, h2, h3, h4, h5⟩ := h; ⟨Int.mul_pos h3.2.1 h4.2.1, Nat.lt_of_lt_of_le (mul_lt2 h3.2.2 h4.2.2) (pow_le2 (by omega))⟩
theorem P2.ov {q r : Q} (h : P2 q r) (hr : 0 < r.1) : 0 < q.2 * r.1 ∧ (q.2 * r.1).natAbs < 2 ^ 8995 :=
  let ⟨a, b, h1, h2, h3, h4, h5⟩ := h; ⟨Int.mul_pos h3.2.1 hr, Nat.lt_of_lt_of_le (mul_lt2 h3.2.2 h4.1) (pow_le2 (by omega))⟩
section
variable {P : Program} {w : World} {K : PySem.W.Frag} {mg : Str → Option Value} {base : Heap} {aN aO aM aC : Addr}
/-- the promise of an operation on two fractions -/
def sp2 (K : PySem.W.Frag) (pre : Q → Q → Prop) (f : Q → Q → Q) : Sp := PSp (fun d : Q × Q => pre d.1 d.2) (fun d => A2 ((fQ K).r d.1) ((fQ K).r d.2)) (fun d => (fQ K).r (f d.1 d.2))
theorem ge_2 {pre : Q → Q → Prop} {f : Q → Q → Q} {E : XK} {ta tb : TE} {σ : St} {N : AS} {H : Hp} {q r : Q} (ha : Ge ta σ N H ((fQ K).r q)) (hb : Ge tb σ N H ((fQ K).r r)) (hp : pre q r) :
    Ge (tCl (sp2 K pre f) E (tCons ta (tCons tb tNil))) σ N H ((fQ K).r (f q r)) := ge_call (x := (q, r)) hp (ga2 ha ((fQ K).mn _) hb ((fQ K).mn _))
theorem ge_fr {E : XK} {ta tb : TE} {σ : St} {N : AS} {H : Hp} {t b : Int} (ha : Ge ta σ N H (vI t)) (hb : Ge tb σ N H (vI b)) (hp : 0 < b ∧ b.natAbs < 2 ^ 8995) :
    Ge (tCl (spFr K) E (tCons ta (tCons tb tNil))) σ N H ((fQ K).r (fr t b)) := ge_call (x := (t, b)) hp (ga2 ha mn_I hb mn_I)
def POv (q r : Q) : Prop := P2 q r ∧ 0 < r.1
/-- .. of a comparison -/
def spB (K : PySem.W.Frag) : Sp := PSp (fun d : Q × Q => PB d.1 d.2) (fun d => A2 ((fQ K).r d.1) ((fQ K).r d.2)) (fun d => vB (below d.1 d.2))
theorem ge_b {E : XK} {ta tb : TE} {σ : St} {N : AS} {H : Hp} {q r : Q} (ha : Ge ta σ N H ((fQ K).r q)) (hb : Ge tb σ N H ((fQ K).r r)) (hp : PB q r) :
    Ge (tCl (spB K) E (tCons ta (tCons tb tNil))) σ N H (vB (below q r)) := ge_call (x := (q, r)) hp (ga2 ha ((fQ K).mn _) hb ((fQ K).mn _))
theorem len2 {pre : Q → Q → Prop} {f : Q → Q → Q} {ps : List Str} (hp : ps.length = 2) : ∀ vs H Q E, sp2 K pre f vs H Q E → vs.length = ps.length := fun vs H Q E h => by
  obtain ⟨x, N, _, _, ⟨_, _, rfl, _⟩, _⟩ := h
  exact hp.symm
abbrev s_plus : Stmt := top 7
theorem sc_plus : FnScope ["q", "r"] ["q", "r"] (defScope s_plus) := ⟨rfl, rfl, rfl, by decide +kernel, rfl, by decide +kernel, by decide +kernel⟩
abbrev s_minus : Stmt := top 8
theorem sc_minus : FnScope ["q", "r"] ["q", "r"] (defScope s_minus) := ⟨rfl, rfl, rfl, by decide +kernel, rfl, by decide +kernel, by decide +kernel⟩
abbrev s_times : Stmt := top 9
theorem sc_times : FnScope ["q", "r"] ["q", "r"] (defScope s_times) := ⟨rfl, rfl, rfl, by decide +kernel, rfl, by decide +kernel, by decide +kernel⟩
abbrev s_over : Stmt := top 10
theorem sc_over : FnScope ["q", "r"] ["q", "r"] (defScope s_over) := ⟨rfl, rfl, rfl, by decide +kernel, rfl, by decide +kernel, by decide +kernel⟩
abbrev s_below : Stmt := top 11
theorem sc_below : FnScope ["q", "r"] ["q", "r"] (defScope s_below) := ⟨rfl, rfl, rfl, by decide +kernel, rfl, by decide +kernel, by decide +kernel⟩
theorem ok_plus {f : Addr} {fd : FuncData} (F : Fun K "plus" "plus" s_plus f fd) (Dfr : Kn P w K mg base CX0 2 "fraction" ["top", "bottom"] (spFr K)) : FnOk P w K mg base CX0 3 f fd ["q", "r"] (sp2 K P2 plus) := by
  refine F.ok sc_plus (len2 rfl) (fun cdv A outer s H vs Q E hr h => ?_)
  obtain ⟨⟨q, r⟩, N, d, hp, ⟨_, _, rfl, h1, h2⟩, k⟩ := h
  refine ⟨_, (pss_one (ps_ret (pe_kn Dfr (hr.mono (by decide)) rfl pass0 (pa_cons (pe_op op_add (pe_op op_mulW (pe_ix ix_tup (pv 0) pe_int (fun _ _ => rfl)) (pe_ix ix_tup (pv 1) pe_int (fun _ _ => rfl))) (pe_op op_mulW (pe_ix ix_tup (pv 1) pe_int (fun _ _ => rfl)) (pe_ix ix_tup (pv 0) pe_int (fun _ _ => rfl)))) (pa_cons (pe_op op_mulW (pe_ix ix_tup (pv 0) pe_int (fun _ _ => rfl)) (pe_ix ix_tup (pv 1) pe_int (fun _ _ => rfl))) pa_nil))))), ?_⟩
  refine s_ret (N := N) (ge_fr ?_ ?_ hp.den) d k
  · exact ge_addI (ge_mulI (ge_q0 (ge_v rfl h1)) (ge_q1 (ge_v rfl h2)) hp.pb.m12) (ge_mulI (ge_q0 (ge_v rfl h2)) (ge_q1 (ge_v rfl h1)) hp.pb.m21)
  · exact ge_mulI (ge_q1 (ge_v rfl h1)) (ge_q1 (ge_v rfl h2)) hp.pb.m22
theorem kn_plus (D : Df K mg "plus" s_plus) (Dfr : Kn P w K mg base CX0 2 "fraction" ["top", "bottom"] (spFr K)) : Kn P w K mg base CX0 3 "plus" ["q", "r"] (sp2 K P2 plus) :=
  kn_of D (fun _ _ F => F.binds fun _ _ _ _ _ _ us hl => match us, hl with | [_, _], _ => rfl) fun _ _ F => ok_plus F Dfr
theorem ok_minus {f : Addr} {fd : FuncData} (F : Fun K "minus" "minus" s_minus f fd) (Dfr : Kn P w K mg base CX0 2 "fraction" ["top", "bottom"] (spFr K)) : FnOk P w K mg base CX0 3 f fd ["q", "r"] (sp2 K P2 minus) := by
  refine F.ok sc_minus (len2 rfl) (fun cdv A outer s H vs Q E hr h => ?_)
  obtain ⟨⟨q, r⟩, N, d, hp, ⟨_, _, rfl, h1, h2⟩, k⟩ := h
  refine ⟨_, (pss_one (ps_ret (pe_kn Dfr (hr.mono (by decide)) rfl pass0 (pa_cons (pe_op op_sub (pe_op op_mulW (pe_ix ix_tup (pv 0) pe_int (fun _ _ => rfl)) (pe_ix ix_tup (pv 1) pe_int (fun _ _ => rfl))) (pe_op op_mulW (pe_ix ix_tup (pv 1) pe_int (fun _ _ => rfl)) (pe_ix ix_tup (pv 0) pe_int (fun _ _ => rfl)))) (pa_cons (pe_op op_mulW (pe_ix ix_tup (pv 0) pe_int (fun _ _ => rfl)) (pe_ix ix_tup (pv 1) pe_int (fun _ _ => rfl))) pa_nil))))), ?_⟩
  refine s_ret (N := N) (ge_fr ?_ ?_ hp.den) d k
  · exact ge_subI (ge_mulI (ge_q0 (ge_v rfl h1)) (ge_q1 (ge_v rfl h2)) hp.pb.m12) (ge_mulI (ge_q0 (ge_v rfl h2)) (ge_q1 (ge_v rfl h1)) hp.pb.m21)
  · exact ge_mulI (ge_q1 (ge_v rfl h1)) (ge_q1 (ge_v rfl h2)) hp.pb.m22
theorem kn_minus (D : Df K mg "minus" s_minus) (Dfr : Kn P w K mg base CX0 2 "fraction" ["top", "bottom"] (spFr K)) : Kn P w K mg base CX0 3 "minus" ["q", "r"] (sp2 K P2 minus) :=
  kn_of D (fun _ _ F => F.binds fun _ _ _ _ _ _ us hl => match us, hl with | [_, _], _ => rfl) fun _ _ F => ok_minus F Dfr
theorem ok_times {f : Addr} {fd : FuncData} (F : Fun K "times" "times" s_times f fd) (Dfr : Kn P w K mg base CX0 2 "fraction" ["top", "bottom"] (spFr K)) : FnOk P w K mg base CX0 3 f fd ["q", "r"] (sp2 K P2 times) := by
  refine F.ok sc_times (len2 rfl) (fun cdv A outer s H vs Q E hr h => ?_)
  obtain ⟨⟨q, r⟩, N, d, hp, ⟨_, _, rfl, h1, h2⟩, k⟩ := h
  refine ⟨_, (pss_one (ps_ret (pe_kn Dfr (hr.mono (by decide)) rfl pass0 (pa_cons (pe_op op_mulW (pe_ix ix_tup (pv 0) pe_int (fun _ _ => rfl)) (pe_ix ix_tup (pv 1) pe_int (fun _ _ => rfl))) (pa_cons (pe_op op_mulW (pe_ix ix_tup (pv 0) pe_int (fun _ _ => rfl)) (pe_ix ix_tup (pv 1) pe_int (fun _ _ => rfl))) pa_nil))))), ?_⟩
  refine s_ret (N := N) (ge_fr ?_ ?_ hp.den) d k
  · exact ge_mulI (ge_q0 (ge_v rfl h1)) (ge_q0 (ge_v rfl h2)) hp.pb.m11
  · exact ge_mulI (ge_q1 (ge_v rfl h1)) (ge_q1 (ge_v rfl h2)) hp.pb.m22
theorem kn_times (D : Df K mg "times" s_times) (Dfr : Kn P w K mg base CX0 2 "fraction" ["top", "bottom"] (spFr K)) : Kn P w K mg base CX0 3 "times" ["q", "r"] (sp2 K P2 times) :=
  kn_of D (fun _ _ F => F.binds fun _ _ _ _ _ _ us hl => match us, hl with | [_, _], _ => rfl) fun _ _ F => ok_times F Dfr
theorem ok_over {f : Addr} {fd : FuncData} (F : Fun K "over" "over" s_over f fd) (Dfr : Kn P w K mg base CX0 2 "fraction" ["top", "bottom"] (spFr K)) : FnOk P w K mg base CX0 3 f fd ["q", "r"] (sp2 K POv over) := by
  refine F.ok sc_over (len2 rfl) (fun cdv A outer s H vs Q E hr h => ?_)
  obtain ⟨⟨q, r⟩, N, d, hp, ⟨_, _, rfl, h1, h2⟩, k⟩ := h
  refine ⟨_, (pss_one (ps_ret (pe_kn Dfr (hr.mono (by decide)) rfl pass0 (pa_cons (pe_op op_mulW (pe_ix ix_tup (pv 0) pe_int (fun _ _ => rfl)) (pe_ix ix_tup (pv 1) pe_int (fun _ _ => rfl))) (pa_cons (pe_op op_mulW (pe_ix ix_tup (pv 0) pe_int (fun _ _ => rfl)) (pe_ix ix_tup (pv 1) pe_int (fun _ _ => rfl))) pa_nil))))), ?_⟩
  refine s_ret (N := N) (ge_fr ?_ ?_ (hp.1.ov hp.2)) d k
  · exact ge_mulI (ge_q0 (ge_v rfl h1)) (ge_q1 (ge_v rfl h2)) hp.1.pb.m12
  · exact ge_mulI (ge_q1 (ge_v rfl h1)) (ge_q0 (ge_v rfl h2)) hp.1.pb.n21
theorem kn_over (D : Df K mg "over" s_over) (Dfr : Kn P w K mg base CX0 2 "fraction" ["top", "bottom"] (spFr K)) : Kn P w K mg base CX0 3 "over" ["q", "r"] (sp2 K POv over) :=
  kn_of D (fun _ _ F => F.binds fun _ _ _ _ _ _ us hl => match us, hl with | [_, _], _ => rfl) fun _ _ F => ok_over F Dfr
theorem ok_below {f : Addr} {fd : FuncData} (F : Fun K "below" "below" s_below f fd) : FnOk P w K mg base CX0 1 f fd ["q", "r"] (spB K) := by
  refine F.ok sc_below (fun vs H Q E h => ?_) (fun cdv A outer s H vs Q E hr h => ?_)
  · obtain ⟨x, N, _, _, ⟨_, _, rfl, _⟩, _⟩ := h
    rfl
  · obtain ⟨⟨q, r⟩, N, d, hp, ⟨_, _, rfl, h1, h2⟩, k⟩ := h
    refine ⟨_, (pss_one (ps_ret (pe_cmpR op_lt (pe_op op_mulW (pe_ix ix_tup (pv 0) pe_int (fun _ _ => rfl)) (pe_ix ix_tup (pv 1) pe_int (fun _ _ => rfl))) (pe_op op_mulW (pe_ix ix_tup (pv 1) pe_int (fun _ _ => rfl)) (pe_ix ix_tup (pv 0) pe_int (fun _ _ => rfl))) (nomark _)))), ?_⟩
    refine s_ret (N := N) ?_ d k
    exact ge_ltI (ge_mulI (ge_q0 (ge_v rfl h1)) (ge_q1 (ge_v rfl h2)) hp.m12) (ge_mulI (ge_q0 (ge_v rfl h2)) (ge_q1 (ge_v rfl h1)) hp.m21)
theorem kn_below (D : Df K mg "below" s_below) : Kn P w K mg base CX0 1 "below" ["q", "r"] (spB K) :=
  kn_of D (fun _ _ F => F.binds fun _ _ _ _ _ _ us hl => match us, hl with | [_, _], _ => rfl) fun _ _ F => ok_below F
/-! the law's own -/
abbrev s_l_frac : Stmt := top 30
theorem sc_l_frac : FnScope ["top", "bottom", "one", "other"] ["top", "bottom"] (defScope s_l_frac) := ⟨rfl, rfl, rfl, by decide +kernel, rfl, by decide +kernel, by decide +kernel⟩
theorem ok_l_frac {f : Addr} {fd : FuncData} (F : Fun K "_law_frac" "_law_frac" s_l_frac f fd) (T : Txt K mg aN aO aM aC) : FnOk P w K mg base CX0 1 f fd ["top", "bottom"] (spFr K) := by
  refine F.ok sc_l_frac (fun vs H Q E h => ?_) (fun cdv A outer s H vs Q E hr h => ?_)
  · obtain ⟨x, N, _, _, ⟨_, _, rfl, _⟩, _⟩ := h
    rfl
  · obtain ⟨⟨t, b⟩, N, d, ⟨hb, hz⟩, ⟨_, _, rfl, rfl, rfl⟩, k⟩ := h
    refine ⟨_, (pss_cons (ps_set (i := 2) sc_l_frac.nd rfl (.inl rfl) (pe_callB call_abs rfl T.abs (by decide +kernel) (pa_cons (pv 0) pa_nil)))
    (pss_cons (ps_set (i := 3) sc_l_frac.nd rfl (.inl rfl) (pv 1))
    (pss_cons (ps_while PassesOwn.never (pt_cmpR op_gt (pv 3) pe_int (nomark _)) (pss_one (ps_par (i := 2) (j := 3) rfl sc_l_frac.nd rfl rfl (by decide) rfl rfl (pa_cons (pv 3) (pa_cons (pe_op op_mod (pv 2) (pv 3)) pa_nil)) (by rfl))))
    (pss_one (ps_ret (pe_tup (pa_cons (pe_op op_fdivW (pv 0) (pv 2)) (pa_cons (pe_op op_fdivW (pv 1) (pv 2)) pa_nil)))))))), ?_⟩
    simp only at hb hz
    have hg := gcd_pos_right (t := t) hb
    have hle : Int.gcd t b ≤ b.natAbs := Nat.le_of_dvd (by omega) (Int.gcd_dvd_natAbs_right t b)
    have hd : ∀ i : Int, CDivW i ((Int.gcd t b : Nat) : Int) := fun i => wide_div (b := 8995) (by omega) (by rw [Int.natAbs_natCast]; omega) (by decide) (by decide)
    -- one = abs(top); other = bottom
    refine ⟨_, rfl, _, rfl, ?_⟩
    refine ⟨_, rfl, ?_⟩
    refine ⟨fun m σ H' => H' = H ∧ ∃ x y : Int, σ = [some (.int t), some (.int b), some (.int x), some (.int y)] ∧ 0 ≤ x ∧ 0 ≤ y ∧ m = y.toNat ∧ Int.gcd x y = Int.gcd t b, ⟨_, rfl, _, b, rfl, ?_, by omega, rfl, ?_⟩, ?_⟩
    · show 0 ≤ (if t < 0 then -t else t)
      split <;> omega
    · show Int.gcd (if t < 0 then -t else t) b = Int.gcd t b
      split
      · rw [Int.neg_gcd]
      · rfl
    rintro m σ H' ⟨rfl, x, y, rfl, hx, hy, rfl, hg'⟩
    refine ⟨_, rfl, _, _, rfl, rfl, _, rfl, ?_⟩
    by_cases c : y = 0
    · subst c
      rw [Int.gcd_zero_right] at hg'
      have e : x = ((Int.gcd t b : Nat) : Int) := by omega
      subst e
      refine iteF ?_
      dsimp only
      refine s_ret (N := N) (ge_mkQ (K := K) (q := fr t b) ?_ ?_) d k
      · exact ge_divI (ge_vi rfl) (ge_vi rfl) (hd _)
      · exact ge_divI (ge_vi rfl) (ge_vi rfl) (hd _)
    · rw [show decide ((0 : Int) < y) = true from decide_eq_true (by omega)]
      refine iteT ?_
      refine ⟨fun σ' H'' => H'' = H' ∧ σ' = [some (.int t), some (.int b), some (.int y), some (.int (x % y))], ?_, ?_⟩
      · rintro σ' H'' ⟨rfl, rfl⟩
        have h1 := Int.emod_nonneg x c
        have h2 := Int.emod_lt_of_pos x (show 0 < y by omega)
        exact ⟨(x % y).toNat, by omega, rfl, y, x % y, rfl, hy, h1, rfl, by rw [gcd_turn]; exact hg'⟩
      · exact ⟨_, rfl, _, rfl, _, rfl, _, _, rfl, rfl, (show 0 < y by omega), _, _, rfl, rfl, rfl⟩
theorem kn_l_frac (D : Df K mg "_law_frac" s_l_frac) (T : Txt K mg aN aO aM aC) : Kn P w K mg base CX0 1 "_law_frac" ["top", "bottom"] (spFr K) :=
  kn_of D (fun _ _ F => F.binds fun _ _ _ _ _ _ us hl => match us, hl with | [_, _], _ => rfl) fun _ _ F => ok_l_frac F T
abbrev s_l_plus : Stmt := top 31
theorem sc_l_plus : FnScope ["q", "r"] ["q", "r"] (defScope s_l_plus) := ⟨rfl, rfl, rfl, by decide +kernel, rfl, by decide +kernel, by decide +kernel⟩
abbrev s_l_times : Stmt := top 32
theorem sc_l_times : FnScope ["q", "r"] ["q", "r"] (defScope s_l_times) := ⟨rfl, rfl, rfl, by decide +kernel, rfl, by decide +kernel, by decide +kernel⟩
theorem ok_l_plus {f : Addr} {fd : FuncData} (F : Fun K "_law_plus" "_law_plus" s_l_plus f fd) (Dfr : Kn P w K mg base CX0 1 "_law_frac" ["top", "bottom"] (spFr K)) : FnOk P w K mg base CX0 2 f fd ["q", "r"] (sp2 K P2 plus) := by
  refine F.ok sc_l_plus (len2 rfl) (fun cdv A outer s H vs Q E hr h => ?_)
  obtain ⟨⟨q, r⟩, N, d, hp, ⟨_, _, rfl, h1, h2⟩, k⟩ := h
  refine ⟨_, (pss_one (ps_ret (pe_kn Dfr (hr.mono (by decide)) rfl pass0 (pa_cons (pe_op op_add (pe_op op_mulW (pe_ix ix_tup (pv 0) pe_int (fun _ _ => rfl)) (pe_ix ix_tup (pv 1) pe_int (fun _ _ => rfl))) (pe_op op_mulW (pe_ix ix_tup (pv 1) pe_int (fun _ _ => rfl)) (pe_ix ix_tup (pv 0) pe_int (fun _ _ => rfl)))) (pa_cons (pe_op op_mulW (pe_ix ix_tup (pv 0) pe_int (fun _ _ => rfl)) (pe_ix ix_tup (pv 1) pe_int (fun _ _ => rfl))) pa_nil))))), ?_⟩
  refine s_ret (N := N) (ge_fr ?_ ?_ hp.den) d k
  · exact ge_addI (ge_mulI (ge_q0 (ge_v rfl h1)) (ge_q1 (ge_v rfl h2)) hp.pb.m12) (ge_mulI (ge_q0 (ge_v rfl h2)) (ge_q1 (ge_v rfl h1)) hp.pb.m21)
  · exact ge_mulI (ge_q1 (ge_v rfl h1)) (ge_q1 (ge_v rfl h2)) hp.pb.m22
theorem kn_l_plus (D : Df K mg "_law_plus" s_l_plus) (Dfr : Kn P w K mg base CX0 1 "_law_frac" ["top", "bottom"] (spFr K)) : Kn P w K mg base CX0 2 "_law_plus" ["q", "r"] (sp2 K P2 plus) :=
  kn_of D (fun _ _ F => F.binds fun _ _ _ _ _ _ us hl => match us, hl with | [_, _], _ => rfl) fun _ _ F => ok_l_plus F Dfr
theorem ok_l_times {f : Addr} {fd : FuncData} (F : Fun K "_law_times" "_law_times" s_l_times f fd) (Dfr : Kn P w K mg base CX0 1 "_law_frac" ["top", "bottom"] (spFr K)) : FnOk P w K mg base CX0 2 f fd ["q", "r"] (sp2 K P2 times) := by
  refine F.ok sc_l_times (len2 rfl) (fun cdv A outer s H vs Q E hr h => ?_)
  obtain ⟨⟨q, r⟩, N, d, hp, ⟨_, _, rfl, h1, h2⟩, k⟩ := h
  refine ⟨_, (pss_one (ps_ret (pe_kn Dfr (hr.mono (by decide)) rfl pass0 (pa_cons (pe_op op_mulW (pe_ix ix_tup (pv 0) pe_int (fun _ _ => rfl)) (pe_ix ix_tup (pv 1) pe_int (fun _ _ => rfl))) (pa_cons (pe_op op_mulW (pe_ix ix_tup (pv 0) pe_int (fun _ _ => rfl)) (pe_ix ix_tup (pv 1) pe_int (fun _ _ => rfl))) pa_nil))))), ?_⟩
  refine s_ret (N := N) (ge_fr ?_ ?_ hp.den) d k
  · exact ge_mulI (ge_q0 (ge_v rfl h1)) (ge_q0 (ge_v rfl h2)) hp.pb.m11
  · exact ge_mulI (ge_q1 (ge_v rfl h1)) (ge_q1 (ge_v rfl h2)) hp.pb.m22
theorem kn_l_times (D : Df K mg "_law_times" s_l_times) (Dfr : Kn P w K mg base CX0 1 "_law_frac" ["top", "bottom"] (spFr K)) : Kn P w K mg base CX0 2 "_law_times" ["q", "r"] (sp2 K P2 times) :=
  kn_of D (fun _ _ F => F.binds fun _ _ _ _ _ _ us hl => match us, hl with | [_, _], _ => rfl) fun _ _ F => ok_l_times F Dfr
end
end Sh
/-! list(zip(xs, ys)): a rule that the layer has not; its steps are those by which the library goes through d.items() -/
namespace Zi
open PySem PySem.Calls PyProof.Rows PySem.Spec
open PySem.W (KdxIt)

theorem no_len : typeLookup (.type "zip") "__len__" = pure none := by rw [typeLookup_type, builtinLookup_eq_fast]; kernel_rfl
theorem no_hint : typeLookup (.type "zip") "__length_hint__" = pure none := by rw [typeLookup_type, builtinLookup_eq_fast]; kernel_rfl

/-- a zip over two lists, i pairs given out; S: the list that takes them -/
structure At (h : Heap) (z TI TO i1 i2 l1 l2 S : Addr) (xs ys : Array Value) (i : Nat) : Prop where
  ti : IsPair h TI (.ref i1) (.ref i2)
  a : h.IsListIter i1 l1 i
  b : h.IsListIter i2 l2 i
  la : h.IsList l1 xs
  lb : h.IsList l2 ys
  z : (IsZip h z TI TO .none ∧ ∃ a b, IsPair h TO a b) ∨ ∃ T f oT, IsZipHeld h z TI TO T f ∧ h.get? T = some oT ∧ T ≠ z ∧ T ≠ i1 ∧ T ≠ i2 ∧ T ≠ S
/-- all of it lies below the list -/
structure Lo (z TI TO i1 i2 l1 l2 S : Addr) : Prop where
  z : z < S
  ti : TI < S
  to : TO < S
  i1 : i1 < S
  i2 : i2 < S
  l1 : l1 < S
  l2 : l2 < S
section
variable {h h' : Heap} {z TI TO i1 i2 l1 l2 S : Addr} {xs ys : Array Value} {i : Nat}
theorem At.keep (t : At h z TI TO i1 i2 l1 l2 S xs ys i) (o : Lo z TI TO i1 i2 l1 l2 S) (k : ∀ b u, b ≠ S → h.get? b = some u → h'.get? b = some u) : At h' z TI TO i1 i2 l1 l2 S xs ys i := by
  refine ⟨k _ _ (Nat.ne_of_lt o.ti) t.ti, t.a.at fun u e => k _ u (Nat.ne_of_lt o.i1) e, t.b.at fun u e => k _ u (Nat.ne_of_lt o.i2) e, t.la.at fun u e => k _ u (Nat.ne_of_lt o.l1) e, t.lb.at fun u e => k _ u (Nat.ne_of_lt o.l2) e, ?_⟩
  rcases t.z with ⟨hz, a, b, hTO⟩ | ⟨T, f, oT, hz, hT, r1, r2, r3, r4⟩
  · exact .inl ⟨k _ _ (Nat.ne_of_lt o.z) hz, a, b, k _ _ (Nat.ne_of_lt o.to) hTO⟩
  · exact .inr ⟨T, f, oT, k _ _ (Nat.ne_of_lt o.z) hz, k _ _ r4 hT, r1, r2, r3, r4⟩
end
structure G (xs ys : Array Value) (lo : Addr) (h : Heap) (as : List Addr) : Prop where
  rise : as.Pairwise (· < ·)
  above : ∀ a ∈ as, lo < a
  pairs : ∀ (j : Nat) (a : Addr), as[j]? = some a → ∃ x y, xs[j]? = some x ∧ ys[j]? = some y ∧ h.get? a = some { cls := .type "tuple", data := .seq #[x, y] }
theorem G.there {xs ys : Array Value} {lo : Addr} {h : Heap} {as : List Addr} (g : G xs ys lo h as) {a : Addr} (ha : a ∈ as) : a < h.objs.size := by
  obtain ⟨j, hj⟩ := List.mem_iff_getElem?.mp ha
  obtain ⟨_, _, _, _, e⟩ := g.pairs j a hj
  exact Heap.lt_size e
section
variable {prog : Program} {w : World} {A : Around} {E : Value → Shared → Prop} {s : Shared} {z TI TO i1 i2 l1 l2 S : Addr} {xs ys : Array Value} {i : Nat}
theorem item {Q : Option Value → Shared → Prop} (D : ZipApart z TI TO i1 i2 l1 l2) (t : At s.heap z TI TO i1 i2 l1 l2 S xs ys i) (hS : S < s.heap.objs.size) (h1 : i < xs.size) (h2 : i < ys.size)
    (hQ : ∀ h', At h' z TI TO i1 i2 l1 l2 S xs ys (i + 1) → h'.get? s.heap.objs.size = some { cls := .type "tuple", data := .seq #[xs[i], ys[i]] } → h'.objs.size = s.heap.objs.size + 1 →
      (∀ b o, b ≠ z → b ≠ TO → b ≠ i1 → b ≠ i2 → s.heap.get? b = some o → h'.get? b = some o) → Q (some (.ref s.heap.objs.size)) { s with heap := h' }) :
    wpAny (model prog w) A (pyNext (.ref z)) Q E s := by
  have ex := Array.getElem?_eq_getElem h1
  have ey := Array.getElem?_eq_getElem h2
  have lt : ∀ {c o}, s.heap.get? c = some o → s.heap.objs.size ≠ c := fun e => Nat.ne_of_gt (Heap.lt_size e)
  have n1 : s.heap.objs.size ≠ i1 := let ⟨_, e, _⟩ := t.a; lt e
  have n2 : s.heap.objs.size ≠ i2 := let ⟨_, e, _⟩ := t.b; lt e
  rcases t.z with ⟨hz, a, b, hTO⟩ | ⟨T, f, oT, hz, hT, r1, r2, r3, r4⟩
  · refine wpAny_pyNext_zip_item D hz t.ti hTO t.a t.b t.la t.lb ex ey fun h' a1 a2 a3 a4 a5 a6 hk => ?_
    exact hQ h' ⟨hk _ _ D.TIz D.TITO D.TIi1 D.TIi2 t.ti, a3, a4, t.la.at fun o e => hk _ o D.l1z D.l1TO D.l1i1 D.l1i2 e, t.lb.at fun o e => hk _ o D.l2z D.l2TO D.l2i1 D.l2i2 e,
      .inr ⟨s.heap.objs.size, false, _, a1, a5, lt hz, n1, n2, Nat.ne_of_gt hS⟩⟩ a5 a6 fun b o hb1 hb2 hb3 hb4 e => hk b o hb1 hb2 hb3 hb4 e
  · refine wpAny_pyNext_zip_item_held D hz hT t.ti t.a t.b t.la t.lb ex ey fun h' a1 a3 a4 a5 a6 hk => ?_
    exact hQ h' ⟨hk _ _ D.TIz D.TIi1 D.TIi2 t.ti, a3, a4, t.la.at fun o e => hk _ o D.l1z D.l1i1 D.l1i2 e, t.lb.at fun o e => hk _ o D.l2z D.l2i1 D.l2i2 e,
      .inr ⟨T, true, oT, a1, hk _ _ r1 r2 r3 hT, r1, r2, r3, r4⟩⟩ a5 a6 fun b o hb1 _ hb3 hb4 e => hk b o hb1 hb3 hb4 e
theorem done {Q : Option Value → Shared → Prop} (hh : A.handled = none) (D : ZipApart z TI TO i1 i2 l1 l2) (t : At s.heap z TI TO i1 i2 l1 l2 S xs ys i) (hend : xs[i]? = none ∨ ys[i]? = none)
    (hQ : ∀ h', (∀ b o, b ≠ z → b ≠ TO → b ≠ i1 → b ≠ i2 → s.heap.get? b = some o → h'.get? b = some o) → Q none { s with heap := h' }) : wpAny (model prog w) A (pyNext (.ref z)) Q E s := by
  rcases t.z with ⟨hz, a, b, hTO⟩ | ⟨T, f, oT, hz, hT, r1, r2, r3, r4⟩
  · exact wpAny_pyNext_zip_end hh D hz t.ti hTO t.a t.b t.la t.lb hend fun h' hk => hQ h' hk
  · exact wpAny_pyNext_zip_end_held hh D hz hT t.ti t.a t.b t.la t.lb hend fun h' hk => hQ h' fun b o hb1 _ hb3 hb4 e => hk b o hb1 hb3 hb4 e
end
section
variable {prog : Program} {w : World} {A : Around} {s : Shared} {R : Result → Shared → Prop} {z TI TO i1 i2 l1 l2 S : Addr} {xs ys : Array Value} {n : Nat}
theorem loop (hh : A.handled = none) (D : ZipApart z TI TO i1 i2 l1 l2) (o : Lo z TI TO i1 i2 l1 l2 S) (hn : n = min xs.size ys.size) (hl : n ≤ sizeLine) (res : Value) {h₁ : Heap}
    (hR : ∀ h' tk acc c as, (∀ b o, b < S → b ≠ z → b ≠ TO → b ≠ i1 → b ≠ i2 → h₁.get? b = some o → h'.get? b = some o) → h'.get? S = some { cls := .type "list", dict := none, data := .seq acc c, slots := #[] } → as.length = n → G xs ys S h' as →
      acc.toList = as.map Value.ref → R (.ok (.ret res)) { s with heap := h', toks := tk }) :
    ∀ (k i : Nat) (h : Heap) (tk c : Nat) (acc : Array Value) (as : List Addr), n - i = k → i ≤ n → At h z TI TO i1 i2 l1 l2 S xs ys i → (∀ b o, b < S → b ≠ z → b ≠ TO → b ≠ i1 → b ≠ i2 → h₁.get? b = some o → h.get? b = some o) →
      h.get? S = some { cls := .type "list", dict := none, data := .seq acc c, slots := #[] } → acc.toList = as.map Value.ref → as.length = i → G xs ys S h as →
      codeAny (model prog w) A (.builtin "list.extend.loop" ⟨[.ref S, .ref z, res], []⟩) R { s with heap := h, toks := tk } := by
  have n1 : S ≠ z := Nat.ne_of_gt o.z
  have n2 : S ≠ TO := Nat.ne_of_gt o.to
  have n3 : S ≠ i1 := Nat.ne_of_gt o.i1
  have n4 : S ≠ i2 := Nat.ne_of_gt o.i2
  intro k
  induction k with
  | zero =>
    intro i h tk c acc as hk hi ht hkeep hS hacc hal hG
    have hin : i = n := by omega
    refine codeAny_builtin PySem.F.entry_extend_loop ?_
    rw [Around.under_plainId PySem.F.plain_extend_loop _]
    show wpAny _ A.in1 (pyNext (.ref z) >>= _) _ _ _
    have hend : xs[i]? = none ∨ ys[i]? = none := by
      rcases Nat.le_total xs.size ys.size with q | q
      · exact .inl (Array.getElem?_eq_none (by omega))
      · exact .inr (Array.getElem?_eq_none (by omega))
    refine wpAny_bind (done (s := { s with heap := h, toks := tk }) (A := A.in1) hh D ht hend fun h' he => ?_)
    have up : ∀ a, S < a → ∀ u, h.get? a = some u → h'.get? a = some u := fun a ha u e =>
      he a u (Nat.ne_of_gt (Nat.lt_trans o.z ha)) (Nat.ne_of_gt (Nat.lt_trans o.to ha)) (Nat.ne_of_gt (Nat.lt_trans o.i1 ha)) (Nat.ne_of_gt (Nat.lt_trans o.i2 ha)) e
    refine wpAny_pure (hR h' tk acc c as (fun b u q1 q2 q3 q4 q5 e => he b u q2 q3 q4 q5 (hkeep b u q1 q2 q3 q4 q5 e)) (he S _ n1 n2 n3 n4 hS) (by omega) ⟨hG.rise, hG.above, fun j a hj => ?_⟩ hacc)
    obtain ⟨x, y, e1, e2, e3⟩ := hG.pairs j a hj
    exact ⟨x, y, e1, e2, up a (hG.above a (List.mem_of_getElem? hj)) _ e3⟩
  | succ k ih =>
    intro i h tk c acc as hk hi ht hkeep hS hacc hal hG
    have hlt : i < n := by omega
    have hsz : acc.size = i := by rw [← Array.length_toList, hacc, List.length_map, hal]
    refine codeAny_builtin PySem.F.entry_extend_loop ?_
    rw [Around.under_plainId PySem.F.plain_extend_loop _]
    show wpAny _ A.in1 (pyNext (.ref z) >>= _) _ _ _
    refine wpAny_bind (item (s := { s with heap := h, toks := tk }) D ht (Heap.lt_size hS) (by omega) (by omega) fun h' ht' hT hz hkp => ?_)
    dsimp only at hT hz hkp ⊢
    have hS' := hkp S _ n1 n2 n3 n4 hS
    have up : ∀ b u, b ≠ S → h'.get? b = some u → (h'.update S (Obj.mapSeq (·.push (Value.ref h.objs.size)))).get? b = some u := fun b u hb e => (Heap.get?_update_other _ _ (Ne.symm hb)).trans e
    have hSl : S < h.objs.size := Heap.lt_size hS
    show wpAny _ A.in1 (updateSeq S (·.push (Value.ref h.objs.size)) >>= _) _ _ _
    refine wpAny_bind ?_
    refine wpAny_updateSeq hS' rfl (wpAny_pure ⟨plainId_quiet PySem.F.plain_extend_loop _, ih (i + 1) _ tk _ (acc.push (Value.ref h.objs.size)) (as ++ [h.objs.size]) (by omega) hlt (ht'.keep o up)
      (fun b u q1 q2 q3 q4 q5 e => up b u (Nat.ne_of_lt q1) (hkp b u q2 q3 q4 q5 (hkeep b u q1 q2 q3 q4 q5 e))) (Heap.get?_update_self _ hS' rfl) (by rw [Array.toList_push, hacc, List.map_append]; rfl) (by rw [List.length_append, hal]; rfl) ⟨?_, ?_, ?_⟩⟩) (by rw [hsz]; omega) (by show (acc.push (Value.ref h.objs.size)).size ≤ sizeLine + 1; rw [Array.size_push, hsz]; omega)
    · refine List.pairwise_append.mpr ⟨hG.rise, List.pairwise_singleton _ _, fun a ha b hb => ?_⟩
      rw [List.mem_singleton.mp hb]
      exact hG.there ha
    · intro a ha
      rcases List.mem_append.mp ha with ha | ha
      · exact hG.above a ha
      · rw [List.mem_singleton.mp ha]; exact hSl
    · intro j b hj
      rcases Nat.lt_trichotomy j as.length with h1 | h1 | h1
      · rw [List.getElem?_append_left h1] at hj
        obtain ⟨x, y, e1, e2, e3⟩ := hG.pairs j b hj
        have hb := hG.above b (List.mem_of_getElem? hj)
        exact ⟨x, y, e1, e2, up b _ (Nat.ne_of_gt hb) (hkp b _ (Nat.ne_of_gt (Nat.lt_trans o.z hb)) (Nat.ne_of_gt (Nat.lt_trans o.to hb)) (Nat.ne_of_gt (Nat.lt_trans o.i1 hb)) (Nat.ne_of_gt (Nat.lt_trans o.i2 hb)) e3)⟩
      · subst h1
        have hb : h.objs.size = b := by simpa using hj
        subst hb
        subst hal
        exact ⟨_, _, Array.getElem?_eq_getElem (by omega), Array.getElem?_eq_getElem (by omega), up _ _ (Nat.ne_of_gt hSl) hT⟩
      · have hnone : (as ++ [h.objs.size])[j]? = none := List.getElem?_eq_none (by rw [List.length_append, List.length_singleton]; omega)
        rw [hnone] at hj; cases hj
theorem extend (hh : A.handled = none) (D : ZipApart z TI TO i1 i2 l1 l2) (o : Lo z TI TO i1 i2 l1 l2 S) (hz : IsZip s.heap z TI TO .none) (ht : At s.heap z TI TO i1 i2 l1 l2 S xs ys 0) (res : Value) (c₀ : Nat) (hS : s.heap.get? S = some { cls := .type "list", data := .seq #[] c₀ })
    (hR : ∀ h' tk acc c as, (∀ b o, b < S → b ≠ z → b ≠ TO → b ≠ i1 → b ≠ i2 → s.heap.get? b = some o → h'.get? b = some o) → h'.get? S = some { cls := .type "list", dict := none, data := .seq acc c, slots := #[] } → as.length = min xs.size ys.size → G xs ys S h' as →
      acc.toList = as.map Value.ref → R (.ok (.ret res)) { s with heap := h', toks := tk }) (hl : min xs.size ys.size ≤ sizeLine) :
    wpAny (model prog w) A.in1 (Builtin.List.listExtendWith (.ref S) (.ref z) res)
      (fun fin s' => match fin with | .done f => R (.ok f) s' | .again c' => c'.quiet = true ∧ codeAny (model prog w) A c' R s') (fun e s' => R (.error e) s') s := by
  have hT : s.TypeIs (.ref z) "zip" := ⟨_, hz, rfl⟩
  have hSz : S ≠ z := Nat.ne_of_gt o.z
  unfold Builtin.List.listExtendWith
  refine wpAny_bind (wpAny_typeOf (T := "zip") hT ?_)
  have h1 : Builtin.List.listSameRef (.ref S) (.ref z) = false := by simp [Builtin.List.listSameRef, hSz]
  have h2 : (Value.type "zip" == Value.type "list") = false := by decide
  have h3 : (Value.type "zip" == Value.type "tuple") = false := by decide
  simp only [h1, h2, h3, Bool.or_false, Bool.false_eq_true, if_false]
  refine wpAny_bind (wpAny_pyIter_zip hz ?_)
  refine wpAny_bind (wpAny_holding ?_)
  unfold Builtin.List.listLengthHint
  refine wpAny_bind (wpAny_specialOf hT no_len ?_)
  show wpAny _ A.in1 (specialOf (Value.ref z) (Str.ofString "__length_hint__") >>= _) _ _ _
  refine wpAny_bind (wpAny_specialOf hT no_hint ?_)
  refine wpAny_pure ?_
  show wpAny _ A.in1 (rule "list.extend.makes-room" >>= fun _ => Builtin.List.listTouch (.ref S) >>= fun _ =>
    again (.builtin "list.extend.loop" ⟨[.ref S, .ref z, res], []⟩)) _ _ _
  refine wpAny_bind (wpAny_rule ?_)
  refine wpAny_bind ?_
  show wpAny _ A.in1 (updateSeq S (·.push .none) >>= fun _ => updateSeq S (·.pop)) _ _ _
  refine wpAny_bind (wpAny_updateSeq hS rfl ?_)
  have hS₂ := Heap.get?_update_self (Obj.mapSeq (·.push Value.none)) hS rfl
  refine wpAny_updateSeq (hz := by seq_fits) hS₂ rfl ?_
  have hS₃ := Heap.get?_update_self (Obj.mapSeq (·.pop)) hS₂ rfl
  have oth : ∀ b u, b ≠ S → s.heap.get? b = some u → ((s.heap.update S (Obj.mapSeq (·.push Value.none))).update S (Obj.mapSeq (·.pop))).get? b = some u :=
    fun b u hb e => (Heap.get?_update_other _ _ (Ne.symm hb)).trans ((Heap.get?_update_other _ _ (Ne.symm hb)).trans e)
  exact wpAny_pure ⟨plainId_quiet PySem.F.plain_extend_loop _, loop (s := s) (h₁ := s.heap) hh D o rfl hl res hR (min xs.size ys.size) 0 _ s.toks _ #[] [] (Nat.sub_zero _) (Nat.zero_le _) (ht.keep o oth) (fun b u q1 _ _ _ _ e => oth b u (Nat.ne_of_lt q1) e) hS₃ rfl rfl
    ⟨List.Pairwise.nil, (fun _ ha => nomatch ha), (fun j a hj => by simp at hj)⟩⟩
theorem init (hh : A.handled = none) (D : ZipApart z TI TO i1 i2 l1 l2) (o : Lo z TI TO i1 i2 l1 l2 S) (hz : IsZip s.heap z TI TO .none) (ht : At s.heap z TI TO i1 i2 l1 l2 S xs ys 0) (hS : s.heap.get? S = some { cls := .type "list", data := .seq #[] })
    (hR : ∀ h' tk acc c as, (∀ b o, b < S → b ≠ z → b ≠ TO → b ≠ i1 → b ≠ i2 → s.heap.get? b = some o → h'.get? b = some o) → h'.get? S = some { cls := .type "list", dict := none, data := .seq acc c, slots := #[] } → as.length = min xs.size ys.size → G xs ys S h' as →
      acc.toList = as.map Value.ref → R (.ok (.ret .none)) { s with heap := h', toks := tk }) (hl : min xs.size ys.size ≤ sizeLine) :
    wpAny (model prog w) A.in1 (Builtin.«list.__init__» ⟨[.ref S, .ref z], []⟩)
      (fun fin s' => match fin with | .done f => R (.ok f) s' | .again c' => c'.quiet = true ∧ codeAny (model prog w) A c' R s') (fun e s' => R (.error e) s') s := by
  show wpAny _ _ (do let old ← Builtin.List.listItems (.ref S); Builtin.List.listUpdate (.ref S) (fun _ => #[]); letGo old.toList.reverse; Builtin.List.listExtendWith (.ref S) (.ref z) .none) _ _ s
  refine wpAny_bind ?_
  unfold Builtin.List.listItems
  refine wpAny_bind (wpAny_seqItems hS rfl (wpAny_pure ?_))
  show wpAny _ _ (updateSeq S (fun _ => #[]) >>= fun _ => letGo (#[] : Array Value).toList.reverse >>= fun _ => Builtin.List.listExtendWith (.ref S) (.ref z) .none) _ _ s
  refine wpAny_bind (wpAny_updateSeq hS rfl ?_)
  have hS₂ := Heap.get?_update_self (Obj.mapSeq (fun _ => (#[] : Array Value))) hS rfl
  have oth : ∀ b u, b ≠ S → s.heap.get? b = some u → (s.heap.update S (Obj.mapSeq (fun _ => (#[] : Array Value)))).get? b = some u :=
    fun b u hb e => (Heap.get?_update_other _ _ (Ne.symm hb)).trans e
  refine wpAny_bind (wpAny_letGo ?_)
  refine extend hh D o (oth _ _ (Nat.ne_of_lt o.z) hz) (ht.keep o oth) .none _ hS₂ (fun h' tk acc c as hk hS' hl hG hacc => ?_) hl
  exact hR h' tk acc c as (fun b u q1 q2 q3 q4 q5 e => hk b u q1 q2 q3 q4 q5 (oth b u (Nat.ne_of_lt q1) e)) hS' hl hG hacc
end
/-- list(zip(xs, ys)) -/
theorem call {prog : Program} {w : World} {A : Around} {E : Value → Shared → Prop} {s : Shared} {z TI TO i1 i2 l1 l2 : Addr} {xs ys : Array Value} {Q : Value → Shared → Prop} (hh : A.handled = none) (D : ZipApart z TI TO i1 i2 l1 l2) (o : Lo z TI TO i1 i2 l1 l2 s.heap.objs.size)
    (hz : IsZip s.heap z TI TO .none) (ht : At s.heap z TI TO i1 i2 l1 l2 s.heap.objs.size xs ys 0) (hl : min xs.size ys.size ≤ sizeLine)
    (hQ : ∀ h' tk acc c as, (∀ b o, b ≠ z → b ≠ TO → b ≠ i1 → b ≠ i2 → s.heap.get? b = some o → h'.get? b = some o) → h'.get? s.heap.objs.size = some { cls := .type "list", dict := none, data := .seq acc c, slots := #[] } → as.length = min xs.size ys.size → G xs ys s.heap.objs.size h' as →
      acc.toList = as.map Value.ref → Q (.ref s.heap.objs.size) { s with heap := h', toks := tk }) :
    wpAny (model prog w) A (call (.type "list") [.ref z]) Q E s := by
  refine callType_codes (Q₁ := fun obj s₁ => obj = .ref s.heap.objs.size ∧ s₁ = { s with heap := s.heap.push { cls := .type "list", data := .seq #[] } }) PySem.F.called_list (PySem.F.typeCall_list_1 _) PySem.F.entry_list_init
    (code_list_new _ ⟨rfl, rfl⟩) fun obj s₁ h₁ => ?_
  obtain ⟨rfl, rfl⟩ := h₁
  have hS : (s.heap.push { cls := .type "list", data := .seq #[] }).get? s.heap.objs.size = some { cls := .type "list", data := .seq #[] } := Heap.get?_push_size _ rfl
  have oth : ∀ b u, b ≠ s.heap.objs.size → s.heap.get? b = some u → (s.heap.push { cls := .type "list", data := .seq #[] }).get? b = some u := fun b u _ e => Heap.get?_push_of_some _ e
  refine ⟨⟨_, hS, rfl⟩, PySem.F.args_list_init_2 _ _, init (A := A.in1) hh D o (Heap.get?_push_of_some _ hz) (ht.keep o oth) hS (fun h' tk acc c as hk hS' hl hG hacc => ?_) hl⟩
  exact ⟨rfl, hQ h' tk acc c as (fun b u q2 q3 q4 q5 e => hk b u (Heap.lt_size e) q2 q3 q4 q5 (Heap.get?_push_of_some _ e)) hS' hl hG hacc⟩
end Zi
namespace Zi
open PySem PySem.Spec PyProof.Rows L2
/-- the pairs tracked at their addresses -/
def putZ : Hp → List Addr → List (V × V) → Hp
  | H, a :: as, p :: ps => putZ (upd H a (.tup [p.1, p.2])) as ps
  | H, _, _ => H
theorem putZ_off {b : Addr} : ∀ (as : List Addr) (ps : List (V × V)) (H : Hp), b ∉ as → putZ H as ps b = H b
  | [], _, _, _ => rfl
  | _ :: _, [], _, _ => rfl
  | a :: as, p :: ps, H, h => by
    show putZ (upd H a (.tup [p.1, p.2])) as ps b = H b
    rw [putZ_off as ps _ (fun z => h (List.mem_cons_of_mem _ z)), upd_ne (fun z => h (by rw [z]; exact List.mem_cons_self))]
theorem putZ_at : ∀ (as : List Addr) (ps : List (V × V)) (H : Hp), as.length = ps.length → as.Nodup → Paired (fun (t : Addr) (p : V × V) => putZ H as ps t = some (.tup [p.1, p.2])) as ps
  | [], [], _, _, _ => .nil
  | [], _ :: _, _, h, _ => by cases h
  | _ :: _, [], _, h, _ => by cases h
  | a :: as, p :: ps, H, h, hn => by
    have hn' := List.nodup_cons.mp hn
    have ih := putZ_at as ps (upd H a (.tup [p.1, p.2])) (Nat.succ.inj h) hn'.2
    refine .cons ?_ ih
    show putZ (upd H a (.tup [p.1, p.2])) as ps a = some (.tup [p.1, p.2])
    rw [putZ_off as ps _ hn'.1, upd_same]
theorem vals_refs : ∀ as : List Addr, Vals (as.map V.ref) (as.map Value.ref)
  | [] => .nil
  | _ :: as => .cons rfl (vals_refs as)
theorem paired_ix {α β : Type} {F : α → β → Prop} : ∀ {xs : List α} {ys : List β}, Paired F xs ys → ∀ {x : α}, x ∈ xs → ∃ (j : Nat) (y : β), xs[j]? = some x ∧ ys[j]? = some y ∧ F x y
  | _, _, .cons h t, x, hx => by
    rcases List.mem_cons.mp hx with e | hx
    · rw [e]
      exact ⟨0, _, rfl, rfl, h⟩
    · obtain ⟨j, y, e1, e2, e3⟩ := paired_ix t hx
      exact ⟨j + 1, y, e1, e2, e3⟩
def rLz (K : PySem.W.Frag) : List V → Hp → VK → Prop := fun vs H Q => ∃ (a b : Addr) (xs ys : List V), vs = [.ref a, .ref b] ∧ SqL K H a xs ∧ SqL K H b ys ∧
  ∀ (H' : Hp) (p : Addr) (ts : List Addr), Same H H' → H p = none → (∀ t ∈ ts, H t = none) → H' p = some (.lst (ts.map V.ref)) → Paired (fun (t : Addr) (q : V × V) => H' t = some (.tup [q.1, q.2])) ts (xs.zip ys) → Q (.ref p) H'
def tLz (K : PySem.W.Frag) (ta : TA) : TE := fun σ H Q => ta σ H fun vs H1 => rLz K vs H1 Q
section
variable {X : Cx}
theorem laid {pins : List (Addr × Obj)} {σ : L2.St} {H : Hp} {s : Shared} {h' : Heap} {tk : Nat} {S : Addr} {xs ys : List V} {its its2 : List Value} {acc : Array Value} {c : Nat} {as : List Addr} (I : Inv X pins σ H s) (rv : Vals xs its) (rv2 : Vals ys its2) (hx : xs.length ≤ sizeLine) (hy : ys.length ≤ sizeLine)
    (hk : ∀ b o, s.heap.get? b = some o → h'.get? b = some o) (hSl : s.heap.objs.size ≤ S) (hS : h'.get? S = some { cls := .type "list", dict := none, data := .seq acc c, slots := #[] }) (hl : as.length = min its.toArray.size its2.toArray.size) (hG : G its.toArray its2.toArray S h' as) (hacc : acc.toList = as.map Value.ref) :
    ∃ H' : Hp, Same H H' ∧ H S = none ∧ (∀ t ∈ as, H t = none) ∧ H' S = some (.lst (as.map V.ref)) ∧ Paired (fun (t : Addr) (q : V × V) => H' t = some (.tup [q.1, q.2])) as (xs.zip ys) ∧ Inv X pins σ H' { s with heap := h', toks := tk } := by
  have e1 := rv.length
  have e2 := rv2.length
  have lz : as.length = (xs.zip ys).length := by rw [hl, List.length_zip, List.size_toArray, List.size_toArray, e1, e2]
  have hSn : S ∉ as := fun z => Nat.lt_irrefl _ (hG.above _ z)
  have nd : as.Nodup := List.Pairwise.imp (fun {a b} (h : a < b) => Nat.ne_of_lt h) hG.rise
  have new : ∀ t ∈ as, H t = none := fun t ht => I.hok.fresh (Nat.le_trans hSl (Nat.le_of_lt (hG.above t ht)))
  have newS : H S = none := I.hok.fresh hSl
  have atP := putZ_at as (xs.zip ys) (upd H S (.lst (as.map V.ref))) lz nd
  have off : ∀ b, b ∉ as → b ≠ S → putZ (upd H S (.lst (as.map V.ref))) as (xs.zip ys) b = H b := fun b h1 h2 => by rw [putZ_off as _ _ h1, upd_ne h2]
  have low : ∀ b o, s.heap.get? b = some o → b ∉ as ∧ b ≠ S := fun b o e => ⟨fun z => absurd (Nat.lt_of_lt_of_le (Heap.lt_size e) hSl) (Nat.not_lt.mpr (Nat.le_of_lt (hG.above b z))), Nat.ne_of_lt (Nat.lt_of_lt_of_le (Heap.lt_size e) hSl)⟩
  have kp : ∀ b u, H b = some u → (putZ (upd H S (.lst (as.map V.ref))) as (xs.zip ys)) b = some u := fun b u e => by
    rw [off b (fun z => by rw [new b z] at e; cases e) (fun z => by rw [z, newS] at e; cases e)]
    exact e
  have eS : putZ (upd H S (.lst (as.map V.ref))) as (xs.zip ys) S = some (.lst (as.map V.ref)) := by rw [putZ_off as _ _ hSn, upd_same]
  refine ⟨putZ (upd H S (.lst (as.map V.ref))) as (xs.zip ys), kp, newS, new, eS, atP, ?_⟩
  refine I.call' (ch := []) rfl ⟨fun b o q _ _ _ => hk b o q, fun b o q _ _ _ => ⟨o.slots, hk b o q⟩, fun b o q n _ => ?_, fun b o q _ => ⟨o, hk b o q⟩, fun b xs q => kp b _ q, fun b o u q => kp b _ q, fun b ps q => ⟨#[], by rw [kp b _ q]; simp⟩⟩ (fun b u q => ?_) I.bare fun b z => by simp at z
  · obtain ⟨z1, z2⟩ := low b o q
    rw [off b z1 z2]
    exact n
  · by_cases hb : b ∈ as
    · obtain ⟨j, pk, f1, f2, f3⟩ := paired_ix atP hb
      rw [f3] at q
      cases q
      obtain ⟨u1, u2, g1, g2, g3⟩ := hG.pairs j b f1
      have hz : (xs.zip ys)[j]? = some (pk.1, pk.2) := f2
      rw [List.getElem?_zip_eq_some] at hz
      obtain ⟨w1, k1, r1⟩ := rv.get hz.1
      obtain ⟨w2, k2, r2⟩ := rv2.get hz.2
      have c1 : u1 = w1 := by
        have : its[j]? = some u1 := by simpa using g1
        rw [k1] at this
        exact (Option.some.inj this).symm
      have c2 : u2 = w2 := by
        have : its2[j]? = some u2 := by simpa using g2
        rw [k2] at this
        exact (Option.some.inj this).symm
      subst c1 c2
      exact ⟨by show 2 ≤ sizeLine; decide, [u1, u2], .cons r1 (.cons r2 .nil), ⟨_, g3, rfl, _, rfl⟩⟩
    · by_cases hb2 : b = S
      · rw [hb2] at q ⊢
        rw [eS] at q
        cases q
        have hlen : as.length ≤ sizeLine := by rw [lz, List.length_zip]; omega
        refine ⟨by rw [List.length_map]; exact hlen, acc.toList, c, by rw [hacc]; exact vals_refs as, ?_⟩
        rw [Array.toArray_toList]
        exact hS
      · rw [off b hb hb2] at q
        exact (I.hok b u q).stay (fun d v _ y => hk d v y) (fun d y => kp d _ y) fun d xs y => kp d _ y
theorem lo5 (N l1 l2 S : Nat) (e : S = N + 5) (h1 : l1 < N) (h2 : l2 < N) : Lo (N + 4) (N + 2) (N + 3) N (N + 1) l1 l2 S := by
  constructor <;> (show (_ : Nat) < _; omega)
theorem ne5 (b N : Nat) (h : b < N) : b ≠ N + 4 ∧ b ≠ N + 3 ∧ b ≠ N ∧ b ≠ N + 1 := by omega
/-- list(zip(a, b)) -/
theorem pe_lzip {a b : Expr} {ta : TA} {p p2 pos pos2 : Pos} (hg : Gl X "list") (hm : X.mg "list" = none) (hg2 : Gl X "zip") (hm2 : X.mg "zip" = none) (ha : PA X [a, b] ta) (hc : X.calm = true := by rfl)
    (hs : starEach [.Call (.Name "zip" p2) [a, b] [] pos2] X.env = (false, eval (.Call (.Name "zip" p2) [a, b] [] pos2) X.env) :: starEach [] X.env := by rfl)
    (hs2 : starEach [a, b] X.env = (false, eval a X.env) :: starEach [b] X.env := by rfl) (hpl : (backTo pos2 (starEach [b] X.env)).any (·.1) = false := by rfl) :
    PE X (.Call (.Name "list" p) [.Call (.Name "zip" p2) [a, b] [] pos2] [] pos) (tLz X.K ta) := by
  refine ⟨fun pins s σ H Q I hq => ?_⟩
  refine wpAny_Call_Name_kw (ld_blt I hg hm (show bootBuiltins "list" = some (.type "list") by decide +kernel) ?_)
  refine PyProof.Rows.callWith_type1 ?_ hs rfl
  rw [hs]
  show wpAny _ _ (spliced ((false, eval (.Call (.Name "zip" p2) [a, b] [] pos2) X.env) :: backTo pos (starEach [] X.env))) _ _ s
  refine Calls.spliced_cons ?_
  refine Call_ (ld_blt I hg2 hm2 PyProof.Rows.boot_zip (PyProof.Rows.callWith_type1 (thn (ha.run pos2 pins s σ H _ I hq) fun us s1 ⟨vs, H1, I1, r1, q1⟩ => ?_) hs2 hpl))
  obtain ⟨l1, l2, xs, ys, ex, hqx, hqy, q⟩ := q1
  subst ex
  cases r1 with
  | cons r rr =>
    cases rr with
    | cons r' rr =>
      cases rr
      cases r
      cases r'
      obtain ⟨its, rv, p1, z1⟩ := I1.list hqx
      obtain ⟨its2, rv2, p2', z2⟩ := I1.list hqy
      have la : l1 < s1.heap.objs.size := p1.lt
      have lb : l2 < s1.heap.objs.size := p2'.lt
      refine call_zip_2 p1.isList p2'.isList fun h' hz hTI hTO h1 h2 hsz hk => ?_
      refine Calls.spliced_nil ?_
      have D := PySem.W.ktu_apart s1.heap.objs.size l1 l2 la lb
      have o := lo5 s1.heap.objs.size l1 l2 h'.objs.size hsz la lb
      refine call (s := { s1 with heap := h' }) (xs := its.toArray) (ys := its2.toArray) (I1.ok.hd hc) D o hz ⟨hTI, h1, h2, p1.isList.at fun u e => hk _ u e, p2'.isList.at fun u e => hk _ u e, .inl ⟨hz, _, _, hTO⟩⟩ ?_ fun h2' tk acc c as hk2 hS hl hG hacc => ?_
      · have := rv.length
        simp only [List.size_toArray]
        omega
      · have hN : ∀ b u, s1.heap.get? b = some u → b ≠ s1.heap.objs.size + 4 ∧ b ≠ s1.heap.objs.size + 3 ∧ b ≠ s1.heap.objs.size ∧ b ≠ s1.heap.objs.size + 1 := fun b u e => ne5 b _ (Heap.lt_size e)
        obtain ⟨H', k1, k2, k3, k4, k5, J⟩ := laid (tk := tk) (S := h'.objs.size) I1 rv rv2 z1 z2 (fun b u e => hk2 b u (hN b u e).1 (hN b u e).2.1 (hN b u e).2.2.1 (hN b u e).2.2.2 (hk b u e)) (by rw [hsz]; exact Nat.le_add_right _ _) hS hl hG hacc
        exact ⟨.ref _, H', J, rfl, q H' _ as k1 k2 k3 k4 k5⟩
end
end Zi
/-! comparisons of data; comprehensions and loops over data -/
namespace Sh
open PySem PySem.Spec PyProof.Rows L2
/-! ### data -/
def eQ (q : Q) : PyData := .tuple [.int q.1, .int q.2]
def eR (r : Row) : PyData := .tuple [.list (r.a.map eQ), .list (r.b.map eQ), eQ r.c]
theorem eQ_eqv (q r : Q) : PyData.eqv (eQ q) (eQ r) = decide (q = r) := by
  obtain ⟨a, b⟩ := q
  obtain ⟨c, d⟩ := r
  simp only [eQ, PyData.eqv, PyData.eqvAll]
  by_cases h1 : a = c
  · by_cases h2 : b = d
    · subst h1 h2
      simp
    · have q : (b == d) = false := beq_eq_false_iff_ne.mpr h2
      rw [q, Bool.false_and, Bool.and_false]
      exact (decide_eq_false fun e => h2 (Prod.mk.inj e).2).symm
  · have q : (a == c) = false := beq_eq_false_iff_ne.mpr h1
    rw [q, Bool.false_and]
    exact (decide_eq_false fun e => h1 (Prod.mk.inj e).1).symm
theorem eQs_eqv : ∀ xs ys : List Q, PyData.eqvAll (xs.map eQ) (ys.map eQ) = decide (xs = ys)
  | [], [] => by simp [PyData.eqvAll]
  | [], _ :: _ => by simp [PyData.eqvAll]
  | _ :: _, [] => by simp [PyData.eqvAll]
  | x :: xs, y :: ys => by
    rw [List.map_cons, List.map_cons, PyData.eqvAll, eQ_eqv, eQs_eqv xs ys]
    by_cases h1 : x = y
    · subst h1
      by_cases h2 : xs = ys
      · subst h2; simp
      · simp [h2]
    · simp [h1]
theorem eL_eqv (xs ys : List Q) : PyData.eqv (.list (xs.map eQ)) (.list (ys.map eQ)) = decide (xs = ys) := by
  rw [PyData.eqv]
  exact eQs_eqv xs ys
theorem eR_eqv (r s : Row) : PyData.eqv (eR r) (eR s) = decide (r = s) := by
  obtain ⟨a, b, c⟩ := r
  obtain ⟨a', b', c'⟩ := s
  unfold eR
  rw [PyData.eqv, PyData.eqvAll, PyData.eqvAll, PyData.eqvAll, PyData.eqvAll, eL_eqv, eL_eqv, eQ_eqv, Bool.and_true]
  by_cases h1 : a = a'
  · by_cases h2 : b = b'
    · by_cases h3 : c = c'
      · subst h1 h2 h3; simp
      · simp [h3]
    · simp [h2]
  · simp [h1]
theorem eQ_lay (q : Q) : (eQ q).canLay0 = true := by simp [eQ, PyData.canLay0, PyData.canLayAll0]
theorem eQ_depth (q : Q) : (eQ q).depth = 1 := by simp [eQ, PyData.depth, PyData.depthAll]
theorem eQs_lay : ∀ xs : List Q, PyData.canLayAll0 (xs.map eQ) = true
  | [] => by simp [PyData.canLayAll0]
  | z :: zs => by simp [PyData.canLayAll0, eQ_lay z, eQs_lay zs]
theorem eQs_depth : ∀ zs : List Q, PyData.depthAll (zs.map eQ) ≤ 1
  | [] => by simp [PyData.depthAll]
  | z :: zs => by
    have h1 := eQs_depth zs
    have h2 := eQ_depth z
    simp only [List.map_cons, PyData.depthAll]
    omega
theorem eR_lay (r : Row) : (eR r).canLay0 = true := by simp [eR, PyData.canLay0, PyData.canLayAll0, eQ_lay, eQs_lay]
theorem eR_depth (r : Row) : (eR r).depth ≤ 3 := by
  have h1 := eQs_depth r.a
  have h2 := eQs_depth r.b
  have h3 := eQ_depth r.c
  simp only [eR, PyData.depth, PyData.depthAll]
  omega
theorem eRs_lay : ∀ xs : List Row, PyData.canLayAll0 (xs.map eR) = true
  | [] => by simp [PyData.canLayAll0]
  | z :: zs => by simp [PyData.canLayAll0, eR_lay z, eRs_lay zs]
theorem eRs_depth : ∀ zs : List Row, PyData.depthAll (zs.map eR) ≤ 3
  | [] => by simp [PyData.depthAll]
  | z :: zs => by
    have h1 := eRs_depth zs
    have h2 := eR_depth z
    simp only [List.map_cons, PyData.depthAll]
    omega
theorem shaped_of {d : PyData} (h1 : d.canLay0 = true) (h2 : d.depth ≤ 64) : SeqAt.shaped d = true := by
  show (d.canLay0 && decide (d.depth ≤ 64)) = true
  rw [h1, decide_eq_true h2] <;> rfl
theorem eQ_shaped (q : Q) : SeqAt.shaped (eQ q) = true := shaped_of (eQ_lay q) (by rw [eQ_depth]; decide)
theorem eL_shaped (xs : List Q) : SeqAt.shaped (.list (xs.map eQ)) = true := shaped_of (by simp only [PyData.canLay0]; exact eQs_lay xs) (by have := eQs_depth xs; simp only [PyData.depth]; omega)
theorem eR_shaped (r : Row) : SeqAt.shaped (eR r) = true := shaped_of (eR_lay r) (by have := eR_depth r; omega)
theorem eRs_shaped (xs : List Row) : SeqAt.shaped (.list (xs.map eR)) = true := shaped_of (by simp only [PyData.canLay0]; exact eRs_lay xs) (by have := eRs_depth xs; simp only [PyData.depth]; omega)
section
variable {K : PySem.W.Frag} {N : AS} {H : Hp} {v : V}
theorem dp_Q {q : Q} (h : (fQ K).r q N H v) : Dp K H v (eQ q) := by
  obtain ⟨a, rfl, h⟩ := h
  exact .tup h.sq (.cons (.int _) (.cons (.int _) .nil))
theorem dp_all {α : Type} {F : Fam α} {e : α → PyData} (h : ∀ x v, F.r x N H v → Dp K H v (e x)) : ∀ {vs : List V} {xs : List α}, Paired (fun v d => F.r d N H v) vs xs → DpAll K H vs (xs.map e)
  | _, _, .nil => .nil
  | _, _, .cons r t => .cons (h _ _ r) (dp_all h t)
theorem dp_Qs {xs : List Q} (h : (fQs K).r xs N H v) : Dp K H v (.list (xs.map eQ)) := by
  obtain ⟨a, vs, rfl, ha, _, p⟩ := h
  exact .lst (.of ha) (dp_all (F := fQ K) (fun x v h => dp_Q h) p)
theorem dp_R {r : Row} (h : (fR K).r r N H v) : Dp K H v (eR r) := by
  obtain ⟨a, x, y, z, rfl, h, p, q, s⟩ := h
  exact .tup h.sq (.cons (dp_Qs p) (.cons (dp_Qs q) (.cons (dp_Q s) .nil)))
theorem any_eR (r : Row) : ∀ rows : List Row, ((rows.map eR).any fun z => PyData.eqv z (eR r)) = decide (r ∈ rows)
  | [] => by simp
  | s :: rows => by
    rw [List.map_cons, List.any_cons, any_eR r rows, eR_eqv]
    by_cases h1 : s = r
    · subst h1; simp
    · have : ¬ r = s := fun e => h1 e.symm
      simp [h1, this]
end
section
variable {K : PySem.W.Frag} {σ : St} {N : AS} {H : Hp} {ta tb tl te : TE} {t : TT} {α β : Type} {F : Fam α} {G : Fam β} {D : Ends} {u tbd : TS} {g : TG}
theorem ge_neQ {q r : Q} (ha : Ge ta σ N H ((fQ K).r q)) (hb : Ge tb σ N H ((fQ K).r r)) : Ge (tOp (rNeD K) ta tb) σ N H (vB (!decide (q = r))) :=
  ge_two ha ((fQ K).mn q) hb fun N' H' x y _ h1 h2 Q k => ⟨eQ q, eQ r, dp_Q h1, dp_Q h2, eQ_shaped q, eQ_shaped r, k _ H' (Same.refl _) (by show V.bl _ = V.bl _; rw [eQ_eqv])⟩
theorem ge_eqQ {q r : Q} (ha : Ge ta σ N H ((fQ K).r q)) (hb : Ge tb σ N H ((fQ K).r r)) : Ge (tOp (rEqD K) ta tb) σ N H (vB (decide (q = r))) :=
  ge_two ha ((fQ K).mn q) hb fun N' H' x y _ h1 h2 Q k => ⟨eQ q, eQ r, dp_Q h1, dp_Q h2, eQ_shaped q, eQ_shaped r, k _ H' (Same.refl _) (by show V.bl _ = V.bl _; rw [eQ_eqv])⟩
/-- a list made behind H, still known as one that is being built -/
def Nw {α : Type} (H : Hp) (F : Fam α) (ds : List α) : RP := fun N' H' v => ∃ p, v = .ref p ∧ H p = none ∧ ¬ N' p ∧ Gw (ad N' p) F p ds H'
theorem Nw.done {α : Type} {H H' : Hp} {F : Fam α} {ds : List α} {N' : AS} {v : V} (h : Nw H F ds N' H' v) : (fL F).r ds N' H' v := let ⟨p, e, _, n, g⟩ := h; by rw [e]; exact g.done (fun _ n => .inl n) n
/-- a comprehension over data: Sl what the target's names hold -/
theorem ge_lcW {ds : List α} {vs : List Nat} (f : α → Bool) (h : α → β) (Sl : α → AS → Hp → St → Prop) (gl : Ge tl σ N H ((fL F).r ds)) (hl : ds.length ≤ 10000000)
    (hg : ∀ N' H1 d v (k : St → Hp → Prop), F.r d N' H1 v → (∀ σ2, Sl d N' H1 σ2 → k σ2 H1) → g v (wipe σ vs) H1 k) (hw : ∀ N' H1 d σ2, Sl d N' H1 σ2 → wipe σ2 vs = wipe σ vs)
    (ht : ∀ N' H1 d σ2, d ∈ ds → Up N N' H H1 → Sl d N' H1 σ2 → GT t σ2 N' H1 (f d)) (he : ∀ N' H1 d σ2, d ∈ ds → f d = true → Up N N' H H1 → Sl d N' H1 σ2 → Ge te σ2 N' H1 (G.r (h d))) :
    Ge (tLc (iList K tl) g t te vs) σ N H (Nw H G ((ds.filter f).map h)) := fun N1 H1 u1 Q q =>
  gl N1 H1 u1 _ fun v H2 s2 ⟨a, xs, e, ha, na, pr⟩ => ⟨a, e, ⟨xs, .of ha⟩, fun p hp => by
    have u2 := u1.more s2
    have d2 := u2.dom
    have lx := Paired.length pr
    refine lc_list (xs := xs) (fun i H' => Same H2 H' ∧ Gw (ad N1 p) G p (((ds.take i).filter f).map h) H') ⟨same_new hp, Gw.nil upd_same⟩ (fun i H' _ c => .of (c.1 a _ ha)) ?_ ?_
    · rintro i x H' hx ⟨s3, gw⟩
      obtain ⟨d, hd, r⟩ := Paired.get pr hx
      have up3 : Up N1 (ad N1 p) H2 H' := ⟨s3, fun _ n => .inl n, fun b n => n.elim .inl fun e => .inr (by rw [e]; exact hp), fun b n => n.elim (d2.same s3 b) fun e => by rw [e]; exact gw.ne⟩
      have u3 := u2.trans up3
      have md := List.mem_of_getElem? hd
      refine hg (ad N1 p) H' d x _ (F.lift up3 r) fun σ2 sl => ⟨hw _ _ _ _ sl, ht _ H' d σ2 md u3 sl _ H' (.refl u3.dom) _ fun H3 s4 => ?_⟩
      have tk := take_more hd
      cases c : f d with
      | false =>
        refine iteF ⟨s3.trans s4, ?_⟩
        rw [tk, List.filter_append, List.filter_cons, c]
        simp only [Bool.false_eq_true, if_false, List.filter_nil, List.append_nil]
        exact gw.same s4
      | true =>
        refine iteT ?_
        refine he _ H' d σ2 md c u3 sl _ H3 (.of u3.dom s4) _ fun y H4 s5 ry => ?_
        obtain ⟨acc, h4, p4⟩ := (gw.same s4).same s5
        have l4 := Paired.length p4
        have lt := (List.getElem?_eq_some_iff.mp hd).1
        have l5 : (((ds.take i).filter f).map h).length ≤ ds.length := by
          rw [List.length_map]
          exact Nat.le_trans (List.length_filter_le _ _) (by rw [List.length_take]; omega)
        refine ⟨acc, h4, line_lt (by omega), Same.but ((s3.trans s4).trans s5) But.upd hp, ?_⟩
        rw [tk, List.filter_append, List.filter_cons, c, List.map_append]
        exact Gw.push ad_self h4 p4 ry
    · rintro H' ⟨s3, gw⟩
      rw [lx, List.take_length] at gw
      exact q _ H' (s2.trans s3) ⟨p, rfl, u2.s.free hp, d2.new hp, gw⟩⟩
theorem ge_lc {ds : List α} {vs : List Nat} (f : α → Bool) (h : α → β) (Sl : α → AS → Hp → St → Prop) (gl : Ge tl σ N H ((fL F).r ds)) (hl : ds.length ≤ 10000000)
    (hg : ∀ N' H1 d v (k : St → Hp → Prop), F.r d N' H1 v → (∀ σ2, Sl d N' H1 σ2 → k σ2 H1) → g v (wipe σ vs) H1 k) (hw : ∀ N' H1 d σ2, Sl d N' H1 σ2 → wipe σ2 vs = wipe σ vs)
    (ht : ∀ N' H1 d σ2, d ∈ ds → Up N N' H H1 → Sl d N' H1 σ2 → GT t σ2 N' H1 (f d)) (he : ∀ N' H1 d σ2, d ∈ ds → f d = true → Up N N' H H1 → Sl d N' H1 σ2 → Ge te σ2 N' H1 (G.r (h d))) :
    Ge (tLc (iList K tl) g t te vs) σ N H ((fL G).r ((ds.filter f).map h)) := (ge_lcW f h Sl gl hl hg hw ht he).imp fun _ _ _ _ r => r.done
/-- .. its target a name -/
theorem ge_lcN {ds : List α} {vs : List Nat} {j : Nat} (f : α → Bool) (h : α → β) (gl : Ge tl σ N H ((fL F).r ds)) (hl : ds.length ≤ 10000000) (hw : ∀ x, wipe ((wipe σ vs).set j (some x)) vs = wipe σ vs)
    (ht : ∀ N' H1 d v, d ∈ ds → Up N N' H H1 → F.r d N' H1 v → GT t ((wipe σ vs).set j (some v)) N' H1 (f d)) (he : ∀ N' H1 d v, d ∈ ds → f d = true → Up N N' H H1 → F.r d N' H1 v → Ge te ((wipe σ vs).set j (some v)) N' H1 (G.r (h d))) :
    Ge (tLc (iList K tl) (gName j) t te vs) σ N H ((fL G).r ((ds.filter f).map h)) :=
  ge_lc (g := gName j) f h (fun d N' H1 σ2 => ∃ v, σ2 = (wipe σ vs).set j (some v) ∧ F.r d N' H1 v) gl hl (fun N' H1 d v k r hk => hk _ ⟨v, rfl, r⟩) (fun N' H1 d σ2 ⟨v, e, _⟩ => by rw [e]; exact hw v)
    (fun N' H1 d σ2 md u ⟨v, e, r⟩ => by rw [e]; exact ht N' H1 d v md u r) (fun N' H1 d σ2 md c u ⟨v, e, r⟩ => by rw [e]; exact he N' H1 d v md c u r)
theorem gt_yes : GT tYes σ N H true := fun N1 H1 u Q q => q H1 (Same.refl _)
theorem filter_true (ds : List α) : ds.filter (fun _ => true) = ds := List.filter_eq_self.mpr fun _ _ => rfl
theorem ge_lcMW {ds : List α} {vs : List Nat} {j : Nat} (h : α → β) (gl : Ge tl σ N H ((fL F).r ds)) (hl : ds.length ≤ 10000000) (hw : ∀ x, wipe ((wipe σ vs).set j (some x)) vs = wipe σ vs)
    (he : ∀ N' H1 d v, d ∈ ds → Up N N' H H1 → F.r d N' H1 v → Ge te ((wipe σ vs).set j (some v)) N' H1 (G.r (h d))) :
    Ge (tLc (iList K tl) (gName j) tYes te vs) σ N H (Nw H G (ds.map h)) := by
  have := ge_lcW (K := K) (F := F) (G := G) (g := gName j) (t := tYes) (te := te) (σ := σ) (N := N) (H := H) (vs := vs) (fun _ => true) h (fun d N' H1 σ2 => ∃ v, σ2 = (wipe σ vs).set j (some v) ∧ F.r d N' H1 v) gl hl (fun N' H1 d v k r hk => hk _ ⟨v, rfl, r⟩) (fun N' H1 d σ2 ⟨v, e, _⟩ => by rw [e]; exact hw v)
    (fun N' H1 d σ2 md u ⟨v, e, r⟩ => gt_yes) (fun N' H1 d σ2 md c u ⟨v, e, r⟩ => by rw [e]; exact he N' H1 d v md u r)
  rw [filter_true] at this
  exact this
/-- .. without a test -/
theorem ge_lcM {ds : List α} {vs : List Nat} {j : Nat} (h : α → β) (gl : Ge tl σ N H ((fL F).r ds)) (hl : ds.length ≤ 10000000) (hw : ∀ x, wipe ((wipe σ vs).set j (some x)) vs = wipe σ vs)
    (he : ∀ N' H1 d v, d ∈ ds → Up N N' H H1 → F.r d N' H1 v → Ge te ((wipe σ vs).set j (some v)) N' H1 (G.r (h d))) :
    Ge (tLc (iList K tl) (gName j) tYes te vs) σ N H ((fL G).r (ds.map h)) := by
  have := ge_lcN (K := K) (F := F) (G := G) (t := tYes) (te := te) (σ := σ) (N := N) (H := H) (j := j) (fun _ => true) h gl hl hw (fun _ _ _ _ _ _ _ => gt_yes) fun N' H1 d v md _ u r => he N' H1 d v md u r
  rw [filter_true] at this
  exact this
/-- targets of two, of three names -/
theorem n_tup2 {i j : Nat} {a : Addr} {x y : V} {k : St → Hp → Prop} (h : Tp K H a [x, y]) (q : k ((σ.set i (some x)).set j (some y)) H) : gTup K 2 (gCons (gName i) (gCons (gName j) gNil)) (.ref a) σ H k :=
  ⟨a, _, rfl, h.sq, rfl, x, _, rfl, y, _, rfl, rfl, q⟩
theorem n_tup3 {i j l : Nat} {a : Addr} {x y z : V} {k : St → Hp → Prop} (h : Tp K H a [x, y, z]) (q : k (((σ.set i (some x)).set j (some y)).set l (some z)) H) : gTup K 3 (gCons (gName i) (gCons (gName j) (gCons (gName l) gNil))) (.ref a) σ H k :=
  ⟨a, _, rfl, h.sq, rfl, x, _, rfl, y, _, rfl, z, _, rfl, rfl, q⟩
theorem n_name {i : Nat} {v : V} {k : St → Hp → Prop} (h : k (σ.set i (some v)) H) : gName i v σ H k := h
/-- list(xs) -/
theorem ge_list {ds : List α} (ha : Ge ta σ N H ((fL F).r ds)) : Ge (tCB (fun xs H Q => ∃ p ys, xs = [.ref p] ∧ (SqL K H p ys ∨ SqT K H p ys) ∧ ∀ l, H l = none → Q (.ref l) (upd H l (.lst ys))) (tCons ta tNil)) σ N H ((fL F).r ds) := fun N1 H1 u Q q =>
  ha N1 H1 u _ fun v H2 s2 ⟨a, xs, e, h, n, p⟩ => ⟨a, xs, by rw [e], .inl (.of h), fun l hl => q _ _ (s2.trans (same_new hl)) ⟨l, xs, rfl, upd_same, (u.more s2).dom.new hl, Paired.mapP p fun _ _ z => F.same (same_new hl) z⟩⟩
/-- len(xs) -/
theorem ge_len {ds : List α} (ha : Ge ta σ N H ((fL F).r ds)) : Ge (tCB (fun xs H Q => ∃ p ys, xs = [.ref p] ∧ (SqL K H p ys ∨ SqT K H p ys) ∧ Q (.int ys.length) H) (tCons ta tNil)) σ N H (vI (ds.length : Int)) := fun N1 H1 u Q q =>
  ha N1 H1 u _ fun v H2 s2 ⟨a, xs, e, h, n, p⟩ => ⟨a, xs, by rw [e], .inl (.of h), q _ _ s2 (by show V.int _ = V.int _; rw [Paired.length p])⟩
/-- a for over enumerate of data -/
theorem s_forE {ds : List α} {i1 i2 : Nat} (Pv : Hp → Nat → St → Hp → Prop) (gl : Ge tl σ N H ((fL F).r ds)) (d : Dom N H) (h0 : ∀ H1, Same H H1 → Pv H1 0 σ H1) (hk : ∀ H1 i σ' H', Same H H1 → Pv H1 i σ' H' → Kp N H1 H')
    (hs : ∀ H1 i x v σ' H' H'', Same H H1 → ds[i]? = some x → Same H' H'' → F.r x N H'' v → Pv H1 i σ' H' → tbd { D with nx := Pv H1 (i + 1), ct := Pv H1 (i + 1), bk := D.nx } ((σ'.set i1 (some (.int (i : Nat)))).set i2 (some v)) H'')
    (hd : ∀ H1 σ' H', Same H H1 → Pv H1 ds.length σ' H' → D.nx σ' H') : tFor (iEnum K (tCons tl tNil)) (gTup K 2 (gCons (gName i1) (gCons (gName i2) gNil))) tbd D σ H :=
  gl N H (.refl d) _ fun v H1 s1 ⟨a, xs, e, ha, na, pr⟩ => ⟨a, xs, by rw [e], .of ha, for_it walk_enum (Pv H1) (h0 H1 s1) (fun i σ' H' _ c => .of ((hk H1 i σ' H' s1 c).k a _ ha na))
    (fun i x σ' H' H'' hi c y => by
      obtain ⟨T, z, u, rfl, hT, rfl, ez, eu⟩ := y
      have ez' := Option.some.inj ez
      subst ez'
      obtain ⟨w, hw, r⟩ := Paired.get pr eu
      have sT := same_new (o := .tup [.int (i : Nat), u]) hT
      exact n_tup2 (.inl upd_same) (hs H1 i w u σ' H' _ s1 hw sT (F.same sT (F.fr (hk H1 i σ' H' s1 c) r)) c))
    (fun σ' H' c => hd H1 σ' H' s1 (by rw [← Paired.length pr]; exact c))⟩
theorem q_forE {ds : List α} {i1 i2 : Nat} (Pv : Hp → Nat → St → Hp → Prop) (gl : Ge tl σ N H ((fL F).r ds)) (d : Dom N H) (h0 : ∀ H1, Same H H1 → Pv H1 0 σ H1) (hk : ∀ H1 i σ' H', Same H H1 → Pv H1 i σ' H' → Kp N H1 H')
    (hs : ∀ H1 i x v σ' H' H'', Same H H1 → ds[i]? = some x → Same H' H'' → F.r x N H'' v → Pv H1 i σ' H' → tbd { nx := Pv H1 (i + 1), rt := D.rt, ct := Pv H1 (i + 1), bk := u D } ((σ'.set i1 (some (.int (i : Nat)))).set i2 (some v)) H'')
    (hd : ∀ H1 σ' H', Same H H1 → Pv H1 ds.length σ' H' → u D σ' H') : tSeq (tFor (iEnum K (tCons tl tNil)) (gTup K 2 (gCons (gName i1) (gCons (gName i2) gNil))) tbd) u D σ H := s_forE (D := { D with nx := u D }) Pv gl d h0 hk hs hd
/-- a for over data -/
theorem s_for {ds : List α} (Pv : Hp → Nat → St → Hp → Prop) (gl : Ge tl σ N H ((fL F).r ds)) (d : Dom N H) (h0 : ∀ H1, Same H H1 → Pv H1 0 σ H1) (hk : ∀ H1 i σ' H', Same H H1 → Pv H1 i σ' H' → Kp N H1 H')
    (hs : ∀ H1 i x v σ' H', Same H H1 → ds[i]? = some x → F.r x N H' v → Pv H1 i σ' H' → g v σ' H' fun σ2 H2 => tbd { D with nx := Pv H1 (i + 1), ct := Pv H1 (i + 1), bk := D.nx } σ2 H2)
    (hd : ∀ H1 σ' H', Same H H1 → Pv H1 ds.length σ' H' → D.nx σ' H') : tFor (iList K tl) g tbd D σ H :=
  gl N H (.refl d) _ fun v H1 s1 ⟨a, xs, e, ha, na, pr⟩ => ⟨a, e, ⟨xs, .of ha⟩, for_list (xs := xs) (Pv H1) (h0 H1 s1) (fun i σ' H' _ c => .of ((hk H1 i σ' H' s1 c).k a _ ha na))
    (fun i x σ' H' hx c => by
      obtain ⟨y, hy, r⟩ := Paired.get pr hx
      exact hs H1 i y x σ' H' s1 hy (F.fr (hk H1 i σ' H' s1 c) r) c) (fun σ' H' c => hd H1 σ' H' s1 (by rw [← Paired.length pr]; exact c))⟩
theorem q_for {ds : List α} (Pv : Hp → Nat → St → Hp → Prop) (gl : Ge tl σ N H ((fL F).r ds)) (d : Dom N H) (h0 : ∀ H1, Same H H1 → Pv H1 0 σ H1) (hk : ∀ H1 i σ' H', Same H H1 → Pv H1 i σ' H' → Kp N H1 H')
    (hs : ∀ H1 i x v σ' H', Same H H1 → ds[i]? = some x → F.r x N H' v → Pv H1 i σ' H' → g v σ' H' fun σ2 H2 => tbd { nx := Pv H1 (i + 1), rt := D.rt, ct := Pv H1 (i + 1), bk := u D } σ2 H2)
    (hd : ∀ H1 σ' H', Same H H1 → Pv H1 ds.length σ' H' → u D σ' H') : tSeq (tFor (iList K tl) g tbd) u D σ H := s_for (D := { D with nx := u D }) Pv gl d h0 hk hs hd
end
end Sh
/-! rows -/
namespace Sh
open PySem PySem.Spec PyProof.Rows L2
section
variable {P : Program} {w : World} {K : PySem.W.Frag} {mg : Str → Option Value} {base : Heap} {aN aO aM aC : Addr}
theorem ge_zero (T : Txt K mg aN aO aM aC) {σ : St} {N : AS} {H : Hp} : Ge (tC (.ref aN)) σ N H ((fQ K).r zero) := ge_kt (q := zero) T.kN
theorem ge_one (T : Txt K mg aN aO aM aC) {σ : St} {N : AS} {H : Hp} : Ge (tC (.ref aO)) σ N H ((fQ K).r one) := ge_kt (q := one) T.kO
theorem ge_mone (T : Txt K mg aN aO aM aC) {σ : St} {N : AS} {H : Hp} : Ge (tC (.ref aM)) σ N H ((fQ K).r mone) := ge_kt (q := mone) T.kM
def spPlain (K : PySem.W.Frag) : Sp := PSp (fun r : Row => r.a.length + r.b.length ≤ 1000 ∧ PB r.c zero) (fun r => A1 ((fR K).r r)) (fun r => vB (isPlain r))
abbrev s_is_plain : Stmt := top 16
theorem sc_is_plain : FnScope ["row", "number"] ["row"] (defScope s_is_plain) := ⟨rfl, rfl, rfl, by decide +kernel, rfl, by decide +kernel, by decide +kernel⟩
theorem ok_is_plain {f : Addr} {fd : FuncData} (F : Fun K "is_plain" "is_plain" s_is_plain f fd) (T : Txt K mg aN aO aM aC) (Dbe : Kn P w K mg base CX0 1 "below" ["q", "r"] (spB K)) : FnOk P w K mg base CX0 2 f fd ["row"] (spPlain K) := by
  refine F.ok sc_is_plain (fun vs H Q E h => ?_) (fun cdv A outer s H vs Q E hr h => ?_)
  · obtain ⟨x, N, _, _, ⟨_, rfl, _⟩, _⟩ := h
    rfl
  · obtain ⟨r, N, d, ⟨hl, hc⟩, ⟨v, rfl, h1⟩, k⟩ := h
    refine ⟨_, (pss_cons (ps_for PassesOwn.never rfl (pi_list (pe_op op_cat (pe_ix ix_tup (pv 0) pe_int (fun _ _ => rfl)) (pe_ix ix_tup (pv 0) pe_int (fun _ _ => rfl)))) (pg_name (i := 1) sc_is_plain.nd rfl (.inl rfl))
      (pss_one (ps_if (pt_cmpR (op_neD (hu64 hr)) (pv 1) (pe_gr rfl T.NOUGHT) (nomark _)) (pss_one (ps_ret pe_bl)) pss_nil)))
      (pss_one (ps_ret (pe_not (pe_kn Dbe (hr.mono (by decide)) rfl pass0 (pa_cons (pe_ix ix_tup (pv 0) pe_int (fun _ _ => rfl)) (pa_cons (pe_gr rfl T.NOUGHT) pa_nil))))))), ?_⟩
    have hv : (fR K).r r N H v := h1
    refine q_for (N := N) (F := fQ K) (ds := r.a ++ r.b) (fun H1 i σ' H' => Same H1 H' ∧ (∃ y, σ' = [some v, y]) ∧ ∀ q ∈ (r.a ++ r.b).take i, q = zero)
      (ge_cat (ge_t0 (F := fQs K) (G := fQs K) (I := fQ K) (p1 := Row.a) (p2 := Row.b) (p3 := Row.c) (d := r) (ge_v (F := fR K) rfl h1)) (ge_t1 (F := fQs K) (G := fQs K) (I := fQ K) (p1 := Row.a) (p2 := Row.b) (p3 := Row.c) (d := r) (ge_v (F := fR K) rfl h1)) (by omega)) d
      (fun H1 s1 => ⟨Same.refl _, ⟨none, rfl⟩, fun q hq => nomatch hq⟩) (fun H1 i σ' H' s1 c => .of c.1) ?_ ?_
    · rintro H1 i q x σ' H' s1 hq rq ⟨s2, ⟨y, rfl⟩, c⟩
      refine n_name ?_
      refine s_if (N := N) (b := !decide (q = zero)) (gt_test (ge_neQ (ge_v (F := fQ K) rfl rq) (ge_zero T))) ((d.same s1).same s2) (fun e H2 s3 => ?_) (fun e H2 s3 => ?_)
      · refine s_ret (N := N) ge_bl (((d.same s1).same s2).same s3) fun u H3 s4 eu => k u H3 (((s1.trans s2).trans s3).trans s4) ?_
        rw [eu]
        show V.bl false = V.bl (isPlain r)
        congr 1
        refine Eq.symm ?_
        unfold isPlain
        rw [Bool.and_eq_false_iff]
        refine .inl (List.all_eq_false.mpr ⟨q, List.mem_of_getElem? hq, ?_⟩)
        simpa using e
      · refine ⟨s2.trans s3, ⟨_, rfl⟩, fun z hz => ?_⟩
        rw [take_more hq] at hz
        rcases List.mem_append.mp hz with m | m
        · exact c z m
        · rw [List.mem_singleton.mp m]
          simpa using e
    · rintro H1 σ' H' s1 ⟨s2, ⟨y, rfl⟩, c⟩
      have s3 := s1.trans s2
      refine s_ret (N := N) (ge_not (ge_b (ge_t2 (F := fQs K) (G := fQs K) (I := fQ K) (p1 := Row.a) (p2 := Row.b) (p3 := Row.c) (d := r) (ge_v (F := fR K) rfl ((fR K).same s3 h1))) (ge_zero T) hc)) (d.same s3) fun u H3 s4 eu => k u H3 (s3.trans s4) ?_
      rw [eu]
      show V.bl _ = V.bl (isPlain r)
      congr 1
      refine Eq.symm ?_
      unfold isPlain
      rw [List.take_length] at c
      rw [show (r.a ++ r.b).all (fun x => decide (x = zero)) = true from List.all_eq_true.mpr fun z hz => decide_eq_true (c z hz), Bool.true_and]
theorem kn_is_plain (D : Df K mg "is_plain" s_is_plain) (T : Txt K mg aN aO aM aC) (Dbe : Kn P w K mg base CX0 1 "below" ["q", "r"] (spB K)) : Kn P w K mg base CX0 2 "is_plain" ["row"] (spPlain K) :=
  kn_of D (fun _ _ F => F.binds fun _ _ _ _ _ _ us hl => match us, hl with | [_], _ => rfl) fun _ _ F => ok_is_plain F T Dbe
/-- put_on: the list at p is being built -/
def spPut (K : PySem.W.Frag) : Sp := fun vs H Q _ => ∃ (N : AS) (p : Addr) (v : V) (rows : List Row) (r : Row), vs = [.ref p, v] ∧ Dom N H ∧ N p ∧ Gw N (fR K) p rows H ∧ (fR K).r r N H v ∧ r.a.length + r.b.length ≤ 1000 ∧ PB r.c zero ∧ rows.length ≤ 10000000 ∧
  ∀ H', But p H H' → Gw N (fR K) p (putOn rows r) H' → Q .non H'
abbrev s_put_on : Stmt := top 17
theorem sc_put_on : FnScope ["rows", "row"] ["rows", "row"] (defScope s_put_on) := ⟨rfl, rfl, rfl, by decide +kernel, rfl, by decide +kernel, by decide +kernel⟩
theorem ok_put_on {f : Addr} {fd : FuncData} (F : Fun K "put_on" "put_on" s_put_on f fd) (T : Txt K mg aN aO aM aC) (Dpl : Kn P w K mg base CX0 2 "is_plain" ["row"] (spPlain K)) : FnOk P w K mg base CX0 3 f fd ["rows", "row"] (spPut K) := by
  refine F.ok sc_put_on (fun vs H Q E h => ?_) (fun cdv A outer s H vs Q E hr h => ?_)
  · obtain ⟨N, p, v, rows, r, rfl, _⟩ := h
    rfl
  · obtain ⟨N, p, v, rows, r, rfl, d, np, gw, hv, hl, hc, hz, k⟩ := h
    refine ⟨_, (pss_one (ps_if (PW.pt (pw_and (pt_not (pt_val (pe_kn Dpl (hr.mono (by decide)) rfl pass0 (pa_cons (pv 1) pa_nil)))) (pw_and1 (pt_cmpR (op_notInD (hu65 hr)) (pv 1) (pv 0) (by rfl))))) (pss_one (ps_expr (pe_bm PySem.F.plainAttrs_list PySem.F.slot_list_append PySem.F.type_list_append mt_append (pv 0) (pa_cons (pv 1) pa_nil)))) pss_nil)), ?_⟩
    obtain ⟨xs, hp, pr⟩ := id gw
    have notIn : Ge (tOp (rNotInD K) (tVar 1) (tVar 0)) (L2.start ["rows", "row"] [.ref p, v]) N H (vB (!decide (r ∈ rows))) := fun N1 H1 u Q q =>
      ⟨v, rfl, _, rfl, eR r, rows.map eR, dp_R ((fR K).lift u hv), .lst (.of (u.s p _ hp)) (dp_all (F := fR K) (fun x v h => dp_R h) (Paired.mapP pr fun _ _ z => (fR K).lift u z)), eR_shaped r, eRs_shaped rows, q _ H1 (Same.refl _) (by show V.bl _ = V.bl _; rw [any_eR])⟩
    refine s_if (N := N) (b := !isPlain r && !decide (r ∈ rows)) (gt_and (gt_not (gt_B (ge_call (x := r) ⟨hl, hc⟩ (ga1 (ge_v (F := fR K) rfl hv) ((fR K).mn r))))) fun _ => gt_test notIn) d (fun e H2 s2 => ?_) (fun e H2 s2 => ?_)
    · rw [Bool.and_eq_true, Bool.not_eq_true', Bool.not_eq_true', decide_eq_false_iff_not] at e
      have hp2 := s2 p _ hp
      refine ⟨_, rfl, .inl ⟨rfl, _, .of hp2⟩, _, rfl, p, xs, v, rfl, rfl, hp2, line_lt (by have := Paired.length pr; omega), ?_⟩
      refine k _ (But.trans (But.of s2) But.upd) ?_
      unfold putOn
      rw [if_pos e]
      exact Gw.push np hp2 (Paired.mapP pr fun _ _ z => (fR K).same s2 z) ((fR K).same s2 hv)
    · refine k H2 (But.of s2) ?_
      unfold putOn
      rw [if_neg fun q => ?_]
      · exact gw.same s2
      · rw [q.1, decide_eq_false q.2] at e
        cases e
theorem kn_put_on (D : Df K mg "put_on" s_put_on) (T : Txt K mg aN aO aM aC) (Dpl : Kn P w K mg base CX0 2 "is_plain" ["row"] (spPlain K)) : Kn P w K mg base CX0 3 "put_on" ["rows", "row"] (spPut K) :=
  kn_of D (fun _ _ F => F.binds fun _ _ _ _ _ _ us hl => match us, hl with | [_, _], _ => rfl) fun _ _ F => ok_put_on F T Dpl
end
end Sh
/-! the first rows -/
namespace Sh
open PySem PySem.Spec PyProof.Rows L2
section
variable {K : PySem.W.Frag} {σ : St} {N : AS} {H : Hp} {ta te : TE} {r : Row} {p : Plan} {D : Ends} {u : TS}
theorem ge_ra (ha : Ge ta σ N H ((fR K).r r)) : Ge (tOp (rIxT K) ta (tC (.int 0))) σ N H ((fQs K).r r.a) := ge_t0 (F := fQs K) (G := fQs K) (I := fQ K) (p1 := Row.a) (p2 := Row.b) (p3 := Row.c) ha
theorem ge_rb (ha : Ge ta σ N H ((fR K).r r)) : Ge (tOp (rIxT K) ta (tC (.int 1))) σ N H ((fQs K).r r.b) := ge_t1 (F := fQs K) (G := fQs K) (I := fQ K) (p1 := Row.a) (p2 := Row.b) (p3 := Row.c) ha
theorem ge_rc (ha : Ge ta σ N H ((fR K).r r)) : Ge (tOp (rIxT K) ta (tC (.int 2))) σ N H ((fQ K).r r.c) := ge_t2 (F := fQs K) (G := fQs K) (I := fQ K) (p1 := Row.a) (p2 := Row.b) (p3 := Row.c) ha
theorem ge_pS (ha : Ge ta σ N H ((fPl K).r p)) : Ge (tOp (rIxT K) ta (tC (.int 0))) σ N H ((fL (fB K)).r p.sizes) := ge_t0 (F := fL (fB K)) (G := fL (fB K)) (I := fL (fR K)) (p1 := Plan.sizes) (p2 := Plan.shims) (p3 := Plan.demands) ha
theorem ge_pH (ha : Ge ta σ N H ((fPl K).r p)) : Ge (tOp (rIxT K) ta (tC (.int 1))) σ N H ((fL (fB K)).r p.shims) := ge_t1 (F := fL (fB K)) (G := fL (fB K)) (I := fL (fR K)) (p1 := Plan.sizes) (p2 := Plan.shims) (p3 := Plan.demands) ha
theorem ge_pD (ha : Ge ta σ N H ((fPl K).r p)) : Ge (tOp (rIxT K) ta (tC (.int 2))) σ N H ((fL (fR K)).r p.demands) := ge_t2 (F := fL (fB K)) (G := fL (fB K)) (I := fL (fR K)) (p1 := Plan.sizes) (p2 := Plan.shims) (p3 := Plan.demands) ha
theorem ge_mkR {tb tc : TE} {r : Row} (ha : Ge ta σ N H ((fQs K).r r.a)) (hb : Ge tb σ N H ((fQs K).r r.b)) (hc : Ge tc σ N H ((fQ K).r r.c)) : Ge (tTup (tCons ta (tCons tb (tCons tc tNil)))) σ N H ((fR K).r r) :=
  ge_mkT (F := fQs K) (G := fQs K) (I := fQ K) (p1 := Row.a) (p2 := Row.b) (p3 := Row.c) ha hb hc
theorem ge_b0 {s : Q × Q} (ha : Ge ta σ N H ((fB K).r s)) : Ge (tOp (rIxT K) ta (tC (.int 0))) σ N H ((fQ K).r s.1) := ge_p0 (F := fQ K) (G := fQ K) ha
theorem ge_b1 {s : Q × Q} (ha : Ge ta σ N H ((fB K).r s)) : Ge (tOp (rIxT K) ta (tC (.int 1))) σ N H ((fQ K).r s.2) := ge_p1 (F := fQ K) (G := fQ K) ha
/-- put_on(rows, e) -/
theorem s_put {E : XK} {i : Nat} {l : Addr} {rows : List Row} (hi : σ[i]? = some (some (.ref l))) (g : Ge te σ N H ((fR K).r r)) (d : Dom N H) (np : N l) (gw : Gw N (fR K) l rows H) (hl : r.a.length + r.b.length ≤ 1000) (hc : PB r.c zero) (hz : rows.length ≤ 10000000)
    (k : ∀ H', But l H H' → Gw N (fR K) l (putOn rows r) H' → D.nx σ H') : tDrop (tCl (spPut K) E (tCons (tVar i) (tCons te tNil))) D σ H :=
  ⟨_, hi, g N H (.refl d) _ fun v H1 s1 rv => ⟨N, l, v, rows, r, rfl, d.same s1, np, gw.same s1, rv, hl, hc, hz, fun H' b gw' => k H' (But.trans (But.of s1) b) gw'⟩⟩
theorem q_put {E : XK} {i : Nat} {l : Addr} {rows : List Row} (hi : σ[i]? = some (some (.ref l))) (g : Ge te σ N H ((fR K).r r)) (d : Dom N H) (np : N l) (gw : Gw N (fR K) l rows H) (hl : r.a.length + r.b.length ≤ 1000) (hc : PB r.c zero) (hz : rows.length ≤ 10000000)
    (k : ∀ H', But l H H' → Gw N (fR K) l (putOn rows r) H' → u D σ H') : tSeq (tDrop (tCl (spPut K) E (tCons (tVar i) (tCons te tNil)))) u D σ H := s_put (D := { D with nx := u D }) hi g d np gw hl hc hz k
end
section
variable {P : Program} {w : World} {K : PySem.W.Frag} {mg : Str → Option Value} {base : Heap} {aN aO aM aC : Addr}
def spBound (K : PySem.W.Frag) : Sp := PSp (fun d : Plan × Nat × Q × Q => d.2.1 < d.1.shims.length ∧ d.1.shims.length ≤ 100 ∧ d.1.sizes.length ≤ 100) (fun d => A4 ((fPl K).r d.1) (vI (d.2.1 : Int)) ((fQ K).r d.2.2.1) ((fQ K).r d.2.2.2)) (fun d => (fR K).r (boundRow d.1.sizes.length d.1.shims.length d.2.1 d.2.2.1 d.2.2.2))
abbrev s_bound_row : Stmt := top 18
theorem sc_bound_row : FnScope ["plan", "k", "sign", "c", "b", "shim", "size"] ["plan", "k", "sign", "c"] (defScope s_bound_row) := ⟨rfl, rfl, rfl, by decide +kernel, rfl, by decide +kernel, by decide +kernel⟩
theorem map_zero {α : Type} (l : List α) : l.map (fun _ => zero) = List.replicate l.length zero := by induction l <;> simp_all [List.replicate_succ]
theorem ok_bound_row {f : Addr} {fd : FuncData} (F : Fun K "bound_row" "bound_row" s_bound_row f fd) (T : Txt K mg aN aO aM aC) : FnOk P w K mg base CX0 1 f fd ["plan", "k", "sign", "c"] (spBound K) := by
  refine F.ok sc_bound_row (fun vs H Q E h => ?_) (fun cdv A outer s H vs Q E hr h => ?_)
  · obtain ⟨x, N, _, _, ⟨_, _, _, _, rfl, _⟩, _⟩ := h
    rfl
  · obtain ⟨⟨p, n, sg, c⟩, N, d, ⟨hk, hm, hn⟩, ⟨v0, v1, v2, v3, rfl, h0, h1, h2, h3⟩, k⟩ := h
    simp only at hk hm hn h0 h1 h2 h3
    subst h1
    refine ⟨_, (pss_cons (ps_setLc (i := 4) (own := [("shim", 5)]) rfl sc_bound_row.nd rfl rfl (sw_true rfl rfl rfl (by decide +kernel)) (pi_list (pe_ix ix_tup (pv 0) pe_int (fun _ _ => rfl))) (blkOk_by (own := [("shim", 5)]) (N := ["plan", "k", "sign", "c", "b", "shim", "size"]) (sc := defScope s_bound_row) (by decide +kernel)) (fun _ _ _ _ _ => (pg_name (i := 5) sc_bound_row.nd rfl (.inl rfl))) (fun _ _ _ _ _ => pts_nil) (fun _ _ _ _ _ => (pe_gr rfl T.NOUGHT)))
      (pss_cons (ps_asg (pv 2) (pg_sub (pv 4) (pv 1) set_list))
      (pss_one (ps_ret (pe_tup (pa_cons (pe_lc (own := [("size", 6)]) (by rfl) sc_bound_row.nd (pi_list (pe_ix ix_tup (pv 0) pe_int (fun _ _ => rfl))) (blkOk_by (own := [("size", 6)]) (N := ["plan", "k", "sign", "c", "b", "shim", "size"]) (sc := defScope s_bound_row) (by decide +kernel)) (fun _ _ _ _ _ => (pg_name (i := 6) sc_bound_row.nd rfl (.inl rfl))) (fun _ _ _ _ _ => pts_nil) (fun _ _ _ _ _ => (pe_gr rfl T.NOUGHT))) (pa_cons (pv 4) (pa_cons (pv 3) pa_nil)))))))), ?_⟩
    refine q_set (N := N) (ge_lcMW (F := fB K) (G := fQ K) (ds := p.shims) (fun _ => zero) (ge_pH (ge_v (F := fPl K) rfl h0)) (by omega) (fun x => rfl) fun N' H1 s v _ _ _ => ge_zero T) d fun v H2 s2 ⟨a, ea, na, nna, gw⟩ => ?_
    subst ea
    rw [map_zero] at gw
    obtain ⟨xs, ha, pr⟩ := gw
    have lx := Paired.length pr
    rw [List.length_replicate] at lx
    refine ⟨_, rfl, _, rfl, _, rfl, a, xs, n, n, rfl, rfl, ha, ?_, ?_⟩
    · unfold ixN
      rw [if_pos (by omega), if_pos (by omega)]
      simp
    · have s3 : Same H (upd H2 a (.lst (xs.set n v2))) := Same.but s2 But.upd na
      have kp : Kp (ad N a) H2 (upd H2 a (.lst (xs.set n v2))) := But.upd.kp ad_self ha
      have rb : (fQs K).r ((List.replicate p.shims.length zero).set n sg) N (upd H2 a (.lst (xs.set n v2))) (.ref a) :=
        ⟨a, _, rfl, upd_same, nna, Paired.st (F := fun v d => (fQ K).r d N (upd H2 a (.lst (xs.set n v2))) v) ((fQ K).same s3 h2) n (Paired.mapP pr fun _ _ z => (fQ K).dn (fun _ n => .inl n) ((fQ K).fr kp z))⟩
      have d3 := d.same s3
      dsimp only
      refine s_ret (N := N) (ge_mkR (K := K) (r := boundRow p.sizes.length p.shims.length n sg c) ?_ ?_ ?_) d3 fun v H3 s4 r => k v H3 (s3.trans s4) r
      · have g := ge_lcM (K := K) (F := fB K) (G := fQ K) (te := tC (.ref aN)) (tl := tOp (rIxT K) (tVar 0) (tC (.int 0))) (vs := [6]) (j := 6) (N := N) (H := upd H2 a (.lst (xs.set n v2))) (σ := [some v0, some (.int (n : Int)), some v2, some v3, some (.ref a), none, none]) (ds := p.sizes) (fun _ => zero) (ge_pS (ge_v (F := fPl K) rfl ((fPl K).same s3 h0))) (by omega) (fun x => rfl) fun N' H1 s v _ _ _ => ge_zero T
        rw [map_zero] at g
        exact g
      · exact ge_v (F := fQs K) rfl rb
      · exact ge_v (F := fQ K) rfl ((fQ K).same s3 h3)
theorem kn_bound_row (D : Df K mg "bound_row" s_bound_row) (T : Txt K mg aN aO aM aC) : Kn P w K mg base CX0 1 "bound_row" ["plan", "k", "sign", "c"] (spBound K) :=
  kn_of D (fun _ _ F => F.binds fun _ _ _ _ _ _ us hl => match us, hl with | [_, _, _, _], _ => rfl) fun _ _ F => ok_bound_row F T
end
end Sh
/-! first_rows -/
namespace Sh
open PySem PySem.Spec PyProof.Rows L2
theorem Small.row {p : Plan} (h : Small p) (hm : p.shims.length ≤ 3) {r : Row} (hr : r ∈ p.demands) : r.a.length + r.b.length ≤ 1000 ∧ PB r.c zero := by
  have h1 := h.good.la r hr
  have h2 := (h.good.de r hr).len
  have h3 := h.n6
  exact ⟨by omega, .of (h.db r hr).c bd_zero (by decide)⟩
theorem bound_ok {n m k : Nat} {s c : Q} (hn : n ≤ 6) (hm : m ≤ 3) (hc : Bd 41 c) : (boundRow n m k s c).a.length + (boundRow n m k s c).b.length ≤ 1000 ∧ PB (boundRow n m k s c).c zero := by
  refine ⟨?_, .of hc bd_zero (by decide)⟩
  show (List.replicate _ _).length + ((List.replicate _ _).set _ _).length ≤ 1000
  rw [List.length_set, List.length_replicate, List.length_replicate]
  omega
section
variable {P : Program} {w : World} {K : PySem.W.Frag} {mg : Str → Option Value} {base : Heap} {aN aO aM aC : Addr}
theorem q_mkL {σ : St} {N : AS} {H : Hp} {i : Nat} {u : TS} {D : Ends} (d : Dom N H) (k : ∀ p, H p = none → ¬ N p → u D (σ.set i (some (.ref p))) (upd H p (.lst []))) : tSeq (tAsg (tLst tNil) (gName i)) u D σ H := ⟨line_le (by simp), fun p hp => k p hp (d.new hp)⟩
theorem ge_bound {E : XK} {σ : St} {N : AS} {H : Hp} {t0 t1 t2 t3 : TE} {p : Plan} {n : Nat} {i : Int} {s c : Q} (h0 : Ge t0 σ N H ((fPl K).r p)) (h1 : Ge t1 σ N H (vI i)) (h2 : Ge t2 σ N H ((fQ K).r s)) (h3 : Ge t3 σ N H ((fQ K).r c)) (ei : i = (n : Int)) (hn : n < p.shims.length) (hm : p.shims.length ≤ 100) (hs : p.sizes.length ≤ 100) :
    Ge (tCl (spBound K) E (tCons t0 (tCons t1 (tCons t2 (tCons t3 tNil))))) σ N H ((fR K).r (boundRow p.sizes.length p.shims.length n s c)) := by
  subst ei
  exact ge_call (x := (p, n, s, c)) ⟨hn, hm, hs⟩ (ga4 h0 ((fPl K).mn _) h1 mn_I h2 ((fQ K).mn _) h3 ((fQ K).mn _))
def spFirst (K : PySem.W.Frag) : Sp := PSp (fun p : Plan => Small p ∧ p.shims.length ≤ 3) (fun p => A1 ((fPl K).r p)) (fun p => (fL (fR K)).r (firstRows p))
abbrev s_first_rows : Stmt := top 19
theorem sc_first_rows : FnScope ["plan", "rows", "a", "b", "c", "k", "shim"] ["plan"] (defScope s_first_rows) := ⟨rfl, rfl, rfl, by decide +kernel, rfl, by decide +kernel, by decide +kernel⟩
theorem ok_first_rows {f : Addr} {fd : FuncData} (F : Fun K "first_rows" "first_rows" s_first_rows f fd) (T : Txt K mg aN aO aM aC) (Dput : Kn P w K mg base CX0 3 "put_on" ["rows", "row"] (spPut K)) (Dbr : Kn P w K mg base CX0 1 "bound_row" ["plan", "k", "sign", "c"] (spBound K)) (Dmi : Kn P w K mg base CX0 3 "minus" ["q", "r"] (sp2 K P2 minus)) : FnOk P w K mg base CX0 4 f fd ["plan"] (spFirst K) := by
  refine F.ok sc_first_rows (fun vs H Q E h => ?_) (fun cdv A outer s H vs Q E hr h => ?_)
  · obtain ⟨x, N, _, _, ⟨_, rfl, _⟩, _⟩ := h
    rfl
  · obtain ⟨p, N, d, ⟨hS, hm⟩, ⟨v, rfl, h1⟩, k⟩ := h
    have hn := hS.n6
    refine ⟨_, (pss_cons (ps_set (i := 1) sc_first_rows.nd rfl (.inl rfl) (pe_lst pa_nil))
     (pss_cons (ps_for PassesOwn.never rfl (pi_list (pe_ix ix_tup (pv 0) pe_int (fun _ _ => rfl))) (pg_tup rfl (pgs_cons (pg_name (i := 2) sc_first_rows.nd rfl (.inl rfl)) (pgs_cons (pg_name (i := 3) sc_first_rows.nd rfl (.inl rfl)) (pgs_cons (pg_name (i := 4) sc_first_rows.nd rfl (.inl rfl)) pgs_nil))))
     (pss_one (ps_expr (pe_kn Dput (hr.mono (by decide)) rfl pass0 (pa_cons (pv 1) (pa_cons (pe_tup (pa_cons (pe_callTy call_list_of rfl T.list (by decide +kernel) (pa_cons (pv 2) pa_nil)) (pa_cons (pe_callTy call_list_of rfl T.list (by decide +kernel) (pa_cons (pv 3) pa_nil)) (pa_cons (pv 4) pa_nil)))) pa_nil))))))
     (pss_cons (ps_for PassesOwn.never rfl (pi_enum rfl T.enumerate (pa_cons (pe_ix ix_tup (pv 0) pe_int (fun _ _ => rfl)) pa_nil)) (pg_tup rfl (pgs_cons (pg_name (i := 5) sc_first_rows.nd rfl (.inl rfl)) (pgs_cons (pg_name (i := 6) sc_first_rows.nd rfl (.inl rfl)) pgs_nil)))
     (pss_cons (ps_expr (pe_kn Dput (hr.mono (by decide)) rfl pass0 (pa_cons (pv 1) (pa_cons (pe_kn Dbr (hr.mono (by decide)) rfl pass0 (pa_cons (pv 0) (pa_cons (pv 5) (pa_cons (pe_gr rfl T.ONE) (pa_cons (pe_kn Dmi (hr.mono (by decide)) rfl pass0 (pa_cons (pe_gr rfl T.NOUGHT) (pa_cons (pe_ix ix_tup (pv 6) pe_int (fun _ _ => rfl)) pa_nil))) pa_nil))))) pa_nil))))
     (pss_one (ps_expr (pe_kn Dput (hr.mono (by decide)) rfl pass0 (pa_cons (pv 1) (pa_cons (pe_kn Dbr (hr.mono (by decide)) rfl pass0 (pa_cons (pv 0) (pa_cons (pv 5) (pa_cons (pe_gr rfl T.LESS_ONE) (pa_cons (pe_ix ix_tup (pv 6) pe_int (fun _ _ => rfl)) pa_nil))))) pa_nil)))))))
     (pss_one (ps_ret (pv 1)))))), ?_⟩
    refine q_mkL d fun l hl nl => ?_
    have dd : Dom (ad N l) (upd H l (.lst [])) := d.ad
    have uu : Up N (ad N l) H (upd H l (.lst [])) := .ad d hl
    have hv : (fPl K).r p (ad N l) (upd H l (.lst [])) v := (fPl K).lift uu h1
    refine q_for (N := ad N l) (F := fR K) (ds := p.demands) (fun H1 i σ' H' => (∃ a b c, σ' = [some v, some (.ref l), a, b, c, none, none]) ∧ But l H1 H' ∧ Gw (ad N l) (fR K) l ((p.demands.take i).foldl putOn []) H') (ge_pD (ge_v (F := fPl K) rfl hv)) dd (fun H1 s1 => ⟨⟨_, _, _, rfl⟩, .of (Same.refl _), .nil (s1 l _ upd_same)⟩) (fun H1 i σ' H' s1 c => c.2.1.kp ad_self (s1 l _ upd_same)) ?_ ?_
    · rintro H1 i r x σ' H' s1 hq rq ⟨⟨a, b, c, rfl⟩, bt, gw⟩
      have d1 : Dom (ad N l) H' := (dd.same s1).but bt gw.ne
      obtain ⟨t, xa, xb, xc, rfl, ht, ra, rb, rc⟩ := rq
      refine n_tup3 ht ?_
      obtain ⟨k1, k2⟩ := hS.row hm (List.mem_of_getElem? hq)
      refine s_put (r := r) rfl (ge_mkR (ge_list (ge_v (F := fQs K) rfl ra)) (ge_list (ge_v (F := fQs K) rfl rb)) (ge_v (F := fQ K) rfl rc)) d1 ad_self gw k1 k2 ?_ fun H2 b2 gw2 => ⟨⟨_, _, _, rfl⟩, bt.trans b2, ?_⟩
      · have e1 := demands_len (p.demands.take i) []
        have e2 := hS.d8
        rw [List.length_take, List.length_nil] at e1
        omega
      · rw [take_more hq, List.foldl_append]
        exact gw2
    · rintro H1 σ' H' s1 ⟨⟨a, b, c, rfl⟩, bt, gw⟩
      rw [List.take_length] at gw
      have d1 : Dom (ad N l) H' := (dd.same s1).but bt gw.ne
      have kp : Kp (ad N l) (upd H l (.lst [])) H' := (Kp.of s1).trans (bt.kp ad_self (s1 l _ upd_same))
      have hv1 : (fPl K).r p (ad N l) H' v := (fPl K).fr kp hv
      refine q_forE (N := ad N l) (F := fB K) (ds := p.shims) (fun H1 i σ' H' => (∃ a b c x y, σ' = [some v, some (.ref l), a, b, c, x, y]) ∧ But l H1 H' ∧ Gw (ad N l) (fR K) l (boundsLoop p.sizes.length p.shims.length 0 (p.shims.take i) (p.demands.foldl putOn [])) H') (ge_pH (ge_v (F := fPl K) rfl hv1)) d1 (fun H1 s1 => ⟨⟨_, _, _, _, _, rfl⟩, .of (Same.refl _), gw.same s1⟩) (fun H2 i σ' H3 s2 c => ?_) ?_ ?_
      · obtain ⟨xs, e, _⟩ := gw.same s2
        exact c.2.1.kp ad_self e
      · rintro H2 i q x σ' H3 H4 s2 hq s4 rq ⟨⟨a, b, c, x1, y1, rfl⟩, b2, gw2⟩
        have hi := (List.getElem?_eq_some_iff.mp hq).1
        have sb := hS.sb q (List.mem_of_getElem? hq)
        have gw3 := gw2.same s4
        have b3 : But l H2 H4 := b2.trans (.of s4)
        have kp2 : Kp (ad N l) H' H4 := by
          obtain ⟨xs, e, _⟩ := gw.same s2
          exact (Kp.of s2).trans (b3.kp ad_self e)
        have d4 : Dom (ad N l) H4 := (d1.same s2).but b3 gw3.ne
        have hv4 : (fPl K).r p (ad N l) H4 v := (fPl K).fr kp2 hv1
        have ln := bounds_len (n := p.sizes.length) (m := p.shims.length) (p.shims.take i) 0 (p.demands.foldl putOn [])
        have ln2 := demands_len p.demands []
        have ln3 := hS.d8
        rw [List.length_take] at ln
        rw [List.length_nil] at ln2
        obtain ⟨o1, o2⟩ := bound_ok (n := p.sizes.length) (m := p.shims.length) (k := i) (s := one) hn hm sb.2.2
        obtain ⟨o3, o4⟩ := bound_ok (n := p.sizes.length) (m := p.shims.length) (k := i) (s := mone) hn hm sb.2.1
        refine q_put (r := boundRow p.sizes.length p.shims.length i one (minus zero q.1)) rfl (ge_bound (ge_v (F := fPl K) rfl hv4) (ge_vi rfl) (ge_one T) (ge_2 (ge_zero T) (ge_b0 (ge_v (F := fB K) rfl rq)) (.of bd_zero sb.1 (by decide))) rfl hi (by omega) (by omega)) d4 ad_self gw3 o1 o2 (by omega) fun H5 b5 gw5 => ?_
        have kp5 : Kp (ad N l) H4 H5 := by
          obtain ⟨xs, e, _⟩ := gw3
          exact b5.kp ad_self e
        have d5 : Dom (ad N l) H5 := d4.but b5 gw5.ne
        have ln4 := putOn_len (boundsLoop p.sizes.length p.shims.length 0 (p.shims.take i) (p.demands.foldl putOn [])) (boundRow p.sizes.length p.shims.length i one (minus zero q.1))
        refine s_put (r := boundRow p.sizes.length p.shims.length i mone q.2) rfl (ge_bound (ge_v (F := fPl K) rfl ((fPl K).fr kp5 hv4)) (ge_vi rfl) (ge_mone T) (ge_b1 (ge_v (F := fB K) rfl ((fB K).fr kp5 rq))) rfl hi (by omega) (by omega)) d5 ad_self gw5 o3 o4 (by omega) fun H6 b6 gw6 => ⟨⟨_, _, _, _, _, rfl⟩, (b3.trans b5).trans b6, ?_⟩
        rw [take_more hq, bounds_app]
        rw [List.length_take, Nat.min_eq_left (Nat.le_of_lt hi), Nat.zero_add]
        exact gw6
      · rintro H2 σ' H3 s2 ⟨⟨a, b, c, x1, y1, rfl⟩, b2, gw2⟩
        rw [List.take_length] at gw2
        refine ⟨_, rfl, k _ H3 ?_ (gw2.done (fun _ n => .inl n) nl)⟩
        exact Same.but ((same_new hl).trans s1) (bt.trans ((But.of s2).trans b2)) hl
theorem kn_first_rows (D : Df K mg "first_rows" s_first_rows) (T : Txt K mg aN aO aM aC) (Dput : Kn P w K mg base CX0 3 "put_on" ["rows", "row"] (spPut K)) (Dbr : Kn P w K mg base CX0 1 "bound_row" ["plan", "k", "sign", "c"] (spBound K)) (Dmi : Kn P w K mg base CX0 3 "minus" ["q", "r"] (sp2 K P2 minus)) : Kn P w K mg base CX0 4 "first_rows" ["plan"] (spFirst K) :=
  kn_of D (fun _ _ F => F.binds fun _ _ _ _ _ _ us hl => match us, hl with | [_], _ => rfl) fun _ _ F => ok_first_rows F T Dput Dbr Dmi
end
end Sh
/-! rows taken together -/
namespace Sh
open PySem PySem.Spec PyProof.Rows L2
theorem at_get {l : List Q} {k : Nat} (h : k < l.length) : l[k]? = some (at_ l k) := by
  unfold at_
  rw [List.getD_eq_getElem?_getD, List.getElem?_eq_getElem h]
  rfl
theorem mix_len {xs ys : List Q} {m n : Q} : (mix xs m ys n).length ≤ xs.length := by
  unfold mix
  rw [List.length_zipWith]
  exact Nat.min_le_left _ _
section
variable {X : Cx} {K : PySem.W.Frag}
/-! within a comprehension's block, whose frag is the function's -/
theorem ix_listK (h : X.K = K) : IxR X (rIxL K) := h ▸ ix_list
theorem ix_tupK (h : X.K = K) : IxR X (rIxT K) := h ▸ ix_tup
theorem pg_tupK {es : List Expr} {k : Nat} {t : TGs} {n : Nat} {pos : Pos} (hK : X.K = K) (hc : X.calm = true) (h : PGs X es t)
    (hn : (assignEach es X.env).length = n := by rfl) (hst : (assignEach es X.env).findIdx? (·.1) = none := by rfl) : PG X (.Tuple es k pos) (gTup K n t) := hK ▸ pg_tup hc h hn hst
end
section
variable {K : PySem.W.Frag} {σ : St} {N : AS} {H : Hp} {ta tb te : TE} {α β γ : Type} {F : Fam α} {G : Fam β} {I : Fam γ}
/-- a comprehension over zip -/
theorem ge_lcZ {tz : TA} {ds : List α} {es : List β} {vs : List Nat} {i1 i2 : Nat} (f : α → β → γ) (gz : GA tz σ N H (fun N' H' ws => ∃ x y, ws = [x, y] ∧ (fL F).r ds N' H' x ∧ (fL G).r es N' H' y)) (hl : ds.length ≤ 10000000) (hw : ∀ x y, wipe (((wipe σ vs).set i1 (some x)).set i2 (some y)) vs = wipe σ vs)
    (he : ∀ N' H1 d e v u, (d, e) ∈ ds.zip es → Up N N' H H1 → F.r d N' H1 v → G.r e N' H1 u → Ge te (((wipe σ vs).set i1 (some v)).set i2 (some u)) N' H1 (I.r (f d e))) :
    Ge (tLc (iZip K tz) (gTup K 2 (gCons (gName i1) (gCons (gName i2) gNil))) tYes te vs) σ N H ((fL I).r (List.zipWith f ds es)) := fun N1 H1 u1 Q q =>
  gz N1 H1 u1 _ fun ws H2 s2 ⟨v, u, e, ⟨a, xs, ea, ha, na, pa⟩, ⟨b, ys, eb, hb, nb, pb⟩⟩ => ⟨a, b, xs, ys, by rw [e, ea, eb], .of ha, .of hb, fun p hp => by
    have u2 := u1.more s2
    have d2 := u2.dom
    have l1 := Paired.length pa
    have l2 := Paired.length pb
    refine lc_it (walk_zip (xs := xs) (ys := ys) rfl) (fun i H' => Same H2 H' ∧ Gw (ad N1 p) I p ((List.zipWith f ds es).take i) H') ⟨same_new hp, Gw.nil upd_same⟩ (fun i H' _ c => ⟨.of (c.1 a _ ha), .of (c.1 b _ hb)⟩) ?_ ?_
    · rintro i x H' H'' hi ⟨s3, gw⟩ ⟨T, y, z, rfl, hT, rfl, ey, ez⟩
      obtain ⟨d, hd, rd⟩ := Paired.get pa ey
      obtain ⟨e', he', re⟩ := Paired.get pb ez
      have sT := same_new (o := .tup [y, z]) hT
      have s4 : Same H2 (upd H' T (.tup [y, z])) := s3.trans sT
      have up3 : Up N1 (ad N1 p) H2 (upd H' T (.tup [y, z])) := ⟨s4, fun _ n => .inl n, fun b n => n.elim .inl fun e => .inr (by rw [e]; exact hp), fun b n => n.elim (d2.same s4 b) fun e => by rw [e]; exact (gw.same sT).ne⟩
      have u3 := u2.trans up3
      have hz : (List.zipWith f ds es)[i]? = some (f d e') := by
        rw [List.getElem?_zipWith, hd, he']
      have hm : (d, e') ∈ ds.zip es := List.mem_of_getElem? (i := i) (by rw [List.getElem?_zip_eq_some]; exact ⟨hd, he'⟩)
      refine n_tup2 (.inl upd_same) ⟨hw _ _, ?_⟩
      unfold tYes
      show ite _ _ _
      refine iteT ?_
      refine he (ad N1 p) _ d e' y z hm u3 (F.lift up3 rd) (G.lift up3 re) _ _ (.refl u3.dom) _ fun w H4 s5 rw' => ?_
      obtain ⟨acc, h4, p4⟩ := (gw.same sT).same s5
      have l4 := Paired.length p4
      rw [List.length_take, List.length_zipWith] at l4
      refine ⟨acc, h4, line_lt (by omega), Same.but (s4.trans s5) But.upd hp, ?_⟩
      rw [take_more hz]
      exact Gw.push ad_self h4 p4 rw'
    · rintro H' ⟨s3, gw⟩
      rw [List.take_of_length_le (by rw [List.length_zipWith]; omega)] at gw
      exact q _ H' (s2.trans s3) (gw.done (fun _ n => .inl n) (d2.new hp))⟩
end
section
variable {P : Program} {w : World} {K : PySem.W.Frag} {mg : Str → Option Value} {base : Heap} {aN aO aM aC : Addr}
structure Mx where
  xs : List Q
  m : Q
  ys : List Q
  n : Q
def spMixed (K : PySem.W.Frag) : Sp := PSp (fun d : Mx => mixOk d.xs d.m d.ys d.n ∧ d.xs.length ≤ 1000) (fun d => A4 ((fQs K).r d.xs) ((fQ K).r d.m) ((fQs K).r d.ys) ((fQ K).r d.n)) (fun d => (fQs K).r (mix d.xs d.m d.ys d.n))
theorem ge_mixed {E : XK} {σ : St} {N : AS} {H : Hp} {t0 t1 t2 t3 : TE} {xs ys : List Q} {m n : Q} (h0 : Ge t0 σ N H ((fQs K).r xs)) (h1 : Ge t1 σ N H ((fQ K).r m)) (h2 : Ge t2 σ N H ((fQs K).r ys)) (h3 : Ge t3 σ N H ((fQ K).r n)) (hp : mixOk xs m ys n) (hl : xs.length ≤ 1000) :
    Ge (tCl (spMixed K) E (tCons t0 (tCons t1 (tCons t2 (tCons t3 tNil))))) σ N H ((fQs K).r (mix xs m ys n)) := ge_call (x := Mx.mk xs m ys n) ⟨hp, hl⟩ (ga4 h0 ((fQs K).mn _) h1 ((fQ K).mn _) h2 ((fQs K).mn _) h3 ((fQ K).mn _))
abbrev s_mixed : Stmt := top 20
theorem sc_mixed : FnScope ["ones", "many", "others", "more", "one", "other"] ["ones", "many", "others", "more"] (defScope s_mixed) := ⟨rfl, rfl, rfl, by decide +kernel, rfl, by decide +kernel, by decide +kernel⟩
theorem ok_mixed {f : Addr} {fd : FuncData} (F : Fun K "mixed" "mixed" s_mixed f fd) (T : Txt K mg aN aO aM aC) (Dpl : Kn P w K mg base CX0 3 "plus" ["q", "r"] (sp2 K P2 plus)) (Dti : Kn P w K mg base CX0 3 "times" ["q", "r"] (sp2 K P2 times)) : FnOk P w K mg base CX0 4 f fd ["ones", "many", "others", "more"] (spMixed K) := by
  refine F.ok sc_mixed (fun vs H Q E h => ?_) (fun cdv A outer s H vs Q E hr h => ?_)
  · obtain ⟨x, N, _, _, ⟨_, _, _, _, rfl, _⟩, _⟩ := h
    rfl
  · obtain ⟨⟨xs, m, ys, n⟩, N, d, ⟨hp, hl⟩, ⟨v0, v1, v2, v3, rfl, h0, h1, h2, h3⟩, k⟩ := h
    simp only at hp hl h0 h1 h2 h3
    refine ⟨_, (pss_one (ps_ret (pe_lc (own := [("one", 4), ("other", 5)]) (by rfl) sc_mixed.nd (pi_zip rfl T.zip (pa_cons (pv 0) (pa_cons (pv 2) pa_nil))) (blkOk_by (own := [("one", 4), ("other", 5)]) (N := ["ones", "many", "others", "more", "one", "other"]) (sc := defScope s_mixed) (by decide +kernel)) (fun _ _ _ _ _ => (pg_tupK (K := K) (n := 2) rfl rfl (pgs_cons (pg_name (i := 4) sc_mixed.nd rfl (.inl rfl) (.inr rfl)) (pgs_cons (pg_name (i := 5) sc_mixed.nd rfl (.inl rfl) (.inr rfl)) pgs_nil)))) (fun _ _ _ _ _ => pts_nil) (fun _ _ _ _ _ => (pe_kn Dpl (hr.mono (by decide)) rfl pass0 (pa_cons (pe_kn Dti (hr.mono (by decide)) rfl pass0 (pa_cons (pv 4) (pa_cons (pv 1) pa_nil))) (pa_cons (pe_kn Dti (hr.mono (by decide)) rfl pass0 (pa_cons (pv 5) (pa_cons (pv 3) pa_nil))) pa_nil))))))), ?_⟩
    refine s_ret (N := N) (ge_lcZ (F := fQ K) (G := fQ K) (I := fQ K) (fun x y => plus (times x m) (times y n)) (ga2 (ge_v (F := fQs K) rfl h0) ((fQs K).mn _) (ge_v (F := fQs K) rfl h2) ((fQs K).mn _)) (by omega) (fun x y => rfl) fun N' H1 x y v u hm up rx ry => ?_) d k
    obtain ⟨p1, p2, p3⟩ := hp _ hm
    exact ge_2 (ge_2 (ge_v (F := fQ K) rfl rx) (ge_v (F := fQ K) rfl ((fQ K).lift up h1)) p1) (ge_2 (ge_v (F := fQ K) rfl ry) (ge_v (F := fQ K) rfl ((fQ K).lift up h3)) p2) p3
theorem kn_mixed (D : Df K mg "mixed" s_mixed) (T : Txt K mg aN aO aM aC) (Dpl : Kn P w K mg base CX0 3 "plus" ["q", "r"] (sp2 K P2 plus)) (Dti : Kn P w K mg base CX0 3 "times" ["q", "r"] (sp2 K P2 times)) : Kn P w K mg base CX0 4 "mixed" ["ones", "many", "others", "more"] (spMixed K) :=
  kn_of D (fun _ _ F => F.binds fun _ _ _ _ _ _ us hl => match us, hl with | [_, _, _, _], _ => rfl) fun _ _ F => ok_mixed F T Dpl Dti
def TkPre (d : Row × Row × Nat) : Prop := TkOk d.1 d.2.1 d.2.2 ∧ d.2.2 < d.1.b.length ∧ d.2.2 < d.2.1.b.length ∧ d.1.a.length ≤ 1000 ∧ d.1.b.length ≤ 1000
def spTaken (K : PySem.W.Frag) : Sp := PSp TkPre (fun d => A3 ((fR K).r d.1) ((fR K).r d.2.1) (vI (d.2.2 : Int))) (fun d => (fR K).r (taken d.1 d.2.1 d.2.2))
theorem ge_taken {E : XK} {σ : St} {N : AS} {H : Hp} {t0 t1 t2 : TE} {lo hi : Row} {n : Nat} (h0 : Ge t0 σ N H ((fR K).r lo)) (h1 : Ge t1 σ N H ((fR K).r hi)) (h2 : Ge t2 σ N H (vI (n : Int))) (hp : TkPre (lo, hi, n)) :
    Ge (tCl (spTaken K) E (tCons t0 (tCons t1 (tCons t2 tNil)))) σ N H ((fR K).r (taken lo hi n)) := ge_call (x := (lo, hi, n)) hp (ga3 h0 ((fR K).mn _) h1 ((fR K).mn _) h2 mn_I)
abbrev s_taken_together : Stmt := top 21
theorem sc_taken_together : FnScope ["low", "high", "k", "many", "more", "c"] ["low", "high", "k"] (defScope s_taken_together) := ⟨rfl, rfl, rfl, by decide +kernel, rfl, by decide +kernel, by decide +kernel⟩
theorem ok_taken {f : Addr} {fd : FuncData} (F : Fun K "taken_together" "taken_together" s_taken_together f fd) (T : Txt K mg aN aO aM aC) (Dpl : Kn P w K mg base CX0 3 "plus" ["q", "r"] (sp2 K P2 plus)) (Dti : Kn P w K mg base CX0 3 "times" ["q", "r"] (sp2 K P2 times)) (Dmi : Kn P w K mg base CX0 3 "minus" ["q", "r"] (sp2 K P2 minus)) (Dmx : Kn P w K mg base CX0 4 "mixed" ["ones", "many", "others", "more"] (spMixed K)) : FnOk P w K mg base CX0 5 f fd ["low", "high", "k"] (spTaken K) := by
  refine F.ok sc_taken_together (fun vs H Q E h => ?_) (fun cdv A outer s H vs Q E hr h => ?_)
  · obtain ⟨x, N, _, _, ⟨_, _, _, rfl, _⟩, _⟩ := h
    rfl
  · obtain ⟨⟨lo, hi, n⟩, N, d, ⟨hk, l1, l2, l3, l4⟩, ⟨v0, v1, v2, rfl, h0, h1, h2⟩, k⟩ := h
    simp only at hk l1 l2 l3 l4 h0 h1 h2
    subst h2
    refine ⟨_, (pss_cons (ps_set (i := 3) sc_taken_together.nd rfl (.inl rfl) (pe_kn Dmi (hr.mono (by decide)) rfl pass0 (pa_cons (pe_gr rfl T.NOUGHT) (pa_cons (pe_ix ix_list (pe_ix ix_tup (pv 1) pe_int (fun _ _ => rfl)) (pv 2) (fun _ _ => rfl)) pa_nil))))
     (pss_cons (ps_set (i := 4) sc_taken_together.nd rfl (.inl rfl) (pe_ix ix_list (pe_ix ix_tup (pv 0) pe_int (fun _ _ => rfl)) (pv 2) (fun _ _ => rfl)))
     (pss_cons (ps_set (i := 5) sc_taken_together.nd rfl (.inl rfl) (pe_kn Dpl (hr.mono (by decide)) rfl pass0 (pa_cons (pe_kn Dti (hr.mono (by decide)) rfl pass0 (pa_cons (pe_ix ix_tup (pv 0) pe_int (fun _ _ => rfl)) (pa_cons (pv 3) pa_nil))) (pa_cons (pe_kn Dti (hr.mono (by decide)) rfl pass0 (pa_cons (pe_ix ix_tup (pv 1) pe_int (fun _ _ => rfl)) (pa_cons (pv 4) pa_nil))) pa_nil))))
     (pss_one (ps_ret (pe_tup (pa_cons (pe_kn Dmx (hr.mono (by decide)) rfl pass0 (pa_cons (pe_ix ix_tup (pv 0) pe_int (fun _ _ => rfl)) (pa_cons (pv 3) (pa_cons (pe_ix ix_tup (pv 1) pe_int (fun _ _ => rfl)) (pa_cons (pv 4) pa_nil))))) (pa_cons (pe_kn Dmx (hr.mono (by decide)) rfl pass0 (pa_cons (pe_ix ix_tup (pv 0) pe_int (fun _ _ => rfl)) (pa_cons (pv 3) (pa_cons (pe_ix ix_tup (pv 1) pe_int (fun _ _ => rfl)) (pa_cons (pv 4) pa_nil))))) (pa_cons (pv 5) pa_nil))))))))), ?_⟩
    refine q_set (N := N) (ge_2 (ge_zero T) (ge_ix (F := fQ K) (ge_rb (ge_v (F := fR K) rfl h1)) (ge_vi rfl) rfl (at_get l2)) hk.n1) d fun m H2 s2 rm => ?_
    refine q_set (N := N) (ge_ix (F := fQ K) (ge_rb (ge_v (F := fR K) rfl ((fR K).same s2 h0))) (ge_vi rfl) rfl (at_get l1)) (d.same s2) fun o H3 s3 ro => ?_
    have t3 := s2.trans s3
    have rm3 := (fQ K).same s3 rm
    refine q_set (N := N) (ge_2 (ge_2 (ge_rc (ge_v (F := fR K) rfl ((fR K).same t3 h0))) (ge_v (F := fQ K) rfl rm3) hk.c1) (ge_2 (ge_rc (ge_v (F := fR K) rfl ((fR K).same t3 h1))) (ge_v (F := fQ K) rfl ro) hk.c2) hk.c3) (d.same t3) fun c H4 s4 rc => ?_
    have t4 := t3.trans s4
    have q0 := (fR K).same t4 h0
    have q1 := (fR K).same t4 h1
    have qm := (fQ K).same s4 rm3
    have qo := (fQ K).same s4 ro
    refine s_ret (N := N) (ge_mkR (r := taken lo hi n) ?_ ?_ (ge_v (F := fQ K) rfl rc)) (d.same t4) fun v H5 s5 r => k v H5 (t4.trans s5) r
    · exact ge_mixed (ge_ra (ge_v (F := fR K) rfl q0)) (ge_v (F := fQ K) rfl qm) (ge_ra (ge_v (F := fR K) rfl q1)) (ge_v (F := fQ K) rfl qo) hk.a l3
    · exact ge_mixed (ge_rb (ge_v (F := fR K) rfl q0)) (ge_v (F := fQ K) rfl qm) (ge_rb (ge_v (F := fR K) rfl q1)) (ge_v (F := fQ K) rfl qo) hk.b l4
theorem kn_taken (D : Df K mg "taken_together" s_taken_together) (T : Txt K mg aN aO aM aC) (Dpl : Kn P w K mg base CX0 3 "plus" ["q", "r"] (sp2 K P2 plus)) (Dti : Kn P w K mg base CX0 3 "times" ["q", "r"] (sp2 K P2 times)) (Dmi : Kn P w K mg base CX0 3 "minus" ["q", "r"] (sp2 K P2 minus)) (Dmx : Kn P w K mg base CX0 4 "mixed" ["ones", "many", "others", "more"] (spMixed K)) : Kn P w K mg base CX0 5 "taken_together" ["low", "high", "k"] (spTaken K) :=
  kn_of D (fun _ _ F => F.binds fun _ _ _ _ _ _ us hl => match us, hl with | [_, _, _], _ => rfl) fun _ _ F => ok_taken F T Dpl Dti Dmi Dmx
end
end Sh
/-! taken_out -/
namespace Sh
open PySem PySem.Spec PyProof.Rows L2
theorem op_eqDK {X : Cx} {K : PySem.W.Frag} (h : X.K = K) (hu : X.A.units + 64 < cLine) : OpR X (compareOp .Eq) (rEqD K) := h ▸ op_eqD hu
section
variable {K : PySem.W.Frag} {σ : St} {N : AS} {H : Hp} {tl te : TE} {t : TT} {α : Type} {F : Fam α}
theorem ge_lcFW {ds : List α} {vs : List Nat} {j : Nat} (f : α → Bool) (gl : Ge tl σ N H ((fL F).r ds)) (hl : ds.length ≤ 10000000) (hw : ∀ x, wipe ((wipe σ vs).set j (some x)) vs = wipe σ vs)
    (ht : ∀ N' H1 d v, d ∈ ds → Up N N' H H1 → F.r d N' H1 v → GT t ((wipe σ vs).set j (some v)) N' H1 (f d)) (he : ∀ N' H1 d v, d ∈ ds → Up N N' H H1 → F.r d N' H1 v → Ge te ((wipe σ vs).set j (some v)) N' H1 (F.r d)) :
    Ge (tLc (iList K tl) (gName j) t te vs) σ N H (Nw H F (ds.filter f)) := by
  have := ge_lcW (K := K) (F := F) (G := F) (g := gName j) (t := t) (te := te) (σ := σ) (N := N) (H := H) (vs := vs) f id (fun d N' H1 σ2 => ∃ v, σ2 = (wipe σ vs).set j (some v) ∧ F.r d N' H1 v) gl hl (fun N' H1 d v k r hk => hk _ ⟨v, rfl, r⟩) (fun N' H1 d σ2 ⟨v, e, _⟩ => by rw [e]; exact hw v)
    (fun N' H1 d σ2 md u ⟨v, e, r⟩ => by rw [e]; exact ht N' H1 d v md u r) (fun N' H1 d σ2 md c u ⟨v, e, r⟩ => by rw [e]; exact he N' H1 d v md u r)
  rw [List.map_id] at this
  exact this
theorem ge_lcF {ds : List α} {vs : List Nat} {j : Nat} (f : α → Bool) (gl : Ge tl σ N H ((fL F).r ds)) (hl : ds.length ≤ 10000000) (hw : ∀ x, wipe ((wipe σ vs).set j (some x)) vs = wipe σ vs)
    (ht : ∀ N' H1 d v, d ∈ ds → Up N N' H H1 → F.r d N' H1 v → GT t ((wipe σ vs).set j (some v)) N' H1 (f d)) (he : ∀ N' H1 d v, d ∈ ds → Up N N' H H1 → F.r d N' H1 v → Ge te ((wipe σ vs).set j (some v)) N' H1 (F.r d)) :
    Ge (tLc (iList K tl) (gName j) t te vs) σ N H ((fL F).r (ds.filter f)) := (ge_lcFW f gl hl hw ht he).imp fun _ _ _ _ r => r.done
end
/-- rows that one shim is taken out of -/
structure OutOk (rows : List Row) (k : Nat) : Prop where
  len : rows.length ≤ 2000
  sz : ∃ x y, 1 ≤ x ∧ 4 * x + 3 ≤ 8000 ∧ 2 * x + 2 * y + 3 ≤ 8000 ∧ ∀ r ∈ rows, RB x y r
  row : ∀ r ∈ rows, k < r.b.length ∧ r.a.length + r.b.length ≤ 1000
theorem OutOk.b1 {rows : List Row} {k : Nat} (h : OutOk rows k) {r : Row} (hr : r ∈ rows) : PB zero (at_ r.b k) ∧ PB (at_ r.b k) zero := by
  obtain ⟨x, y, h1, h2, h3, h4⟩ := h.sz
  exact ⟨.of bd_zero ((h4 r hr).at h1) (by omega), .of ((h4 r hr).at h1) bd_zero (by omega)⟩
theorem OutOk.tk {rows : List Row} {k : Nat} (h : OutOk rows k) {lo hi : Row} (hl : lo ∈ rows) (hh : hi ∈ rows) : TkOk lo hi k ∧ k < lo.b.length ∧ k < hi.b.length ∧ lo.a.length ≤ 1000 ∧ lo.b.length ≤ 1000 := by
  obtain ⟨x, y, h1, h2, h3, h4⟩ := h.sz
  have l := h.row lo hl
  exact ⟨tkOk (h4 lo hl) (h4 hi hh) h1 h2 h3, l.1, (h.row hi hh).1, by omega, by omega⟩
theorem OutOk.put {rows : List Row} {k : Nat} (h : OutOk rows k) {lo hi : Row} (hl : lo ∈ rows) (hh : hi ∈ rows) : (taken lo hi k).a.length + (taken lo hi k).b.length ≤ 1000 ∧ PB (taken lo hi k).c zero := by
  obtain ⟨x, y, h1, h2, h3, h4⟩ := h.sz
  have l := h.row lo hl
  have e1 : (taken lo hi k).a.length ≤ lo.a.length := mix_len
  have e2 : (taken lo hi k).b.length ≤ lo.b.length := mix_len
  exact ⟨by omega, .of (RB.taken (h4 lo hl) (h4 hi hh) h1).c bd_zero (by omega)⟩
theorem out_sizes {rows : List Row} {k i j : Nat} (h : rows.length ≤ 2000) (hj : j ≤ (highsOf rows k).length) {lo : Row} : (crossIn k lo ((highsOf rows k).take j) (cross k ((lowsOf rows k).take i) (highsOf rows k) (leftOf rows k))).length ≤ 10000000 := by
  have h1 := three_len k rows
  have h2 := cross_len (k := k) (hs := highsOf rows k) ((lowsOf rows k).take i) (leftOf rows k)
  have h3 := crossIn_len (k := k) (lo := lo) ((highsOf rows k).take j) (cross k ((lowsOf rows k).take i) (highsOf rows k) (leftOf rows k))
  have h4 : ((lowsOf rows k).take i).length * (highsOf rows k).length ≤ 2000 * 2000 := Nat.mul_le_mul (by rw [List.length_take]; omega) (by omega)
  rw [List.length_take] at h3
  omega
theorem mem_low {rows : List Row} {k : Nat} {r : Row} (h : r ∈ lowsOf rows k) : r ∈ rows := (List.mem_filter.mp h).1
theorem mem_high {rows : List Row} {k : Nat} {r : Row} (h : r ∈ highsOf rows k) : r ∈ rows := (List.mem_filter.mp h).1
section
variable {P : Program} {w : World} {K : PySem.W.Frag} {mg : Str → Option Value} {base : Heap} {aN aO aM aC : Addr}
abbrev fO (K : PySem.W.Frag) : Fam (Step × List Row) := fT K (fL (fR K)) (fL (fR K)) (fL (fR K)) (fun d => d.1.1) (fun d => d.1.2) (fun d => d.2)
def spOut (K : PySem.W.Frag) : Sp := PSp (fun d : List Row × Nat => OutOk d.1 d.2) (fun d => A2 ((fL (fR K)).r d.1) (vI (d.2 : Int))) (fun d => (fO K).r (takenOut d.1 d.2))
abbrev s_taken_out : Stmt := top 22
theorem sc_taken_out : FnScope ["rows", "k", "lows", "highs", "left", "low", "high", "row"] ["rows", "k"] (defScope s_taken_out) := ⟨rfl, rfl, rfl, by decide +kernel, rfl, by decide +kernel, by decide +kernel⟩
theorem ok_taken_out {f : Addr} {fd : FuncData} (F : Fun K "taken_out" "taken_out" s_taken_out f fd) (T : Txt K mg aN aO aM aC) (Dbe : Kn P w K mg base CX0 1 "below" ["q", "r"] (spB K)) (Dput : Kn P w K mg base CX0 3 "put_on" ["rows", "row"] (spPut K)) (Dtk : Kn P w K mg base CX0 5 "taken_together" ["low", "high", "k"] (spTaken K)) : FnOk P w K mg base CX0 6 f fd ["rows", "k"] (spOut K) := by
  refine F.ok sc_taken_out (fun vs H Q E h => ?_) (fun cdv A outer s H vs Q E hr h => ?_)
  · obtain ⟨x, N, _, _, ⟨_, _, rfl, _⟩, _⟩ := h
    rfl
  · obtain ⟨⟨rows, n⟩, N, d, hp, ⟨v0, v1, rfl, h0, h1⟩, k⟩ := h
    simp only at hp h0 h1
    subst h1
    have hz := hp.len
    refine ⟨_, (pss_cons (ps_setLc (i := 2) (own := [("row", 7)]) rfl sc_taken_out.nd rfl rfl (sw_true rfl rfl rfl (by decide +kernel)) (pi_list (pv 0)) (blkOk_by (own := [("row", 7)]) (N := ["rows", "k", "lows", "highs", "left", "low", "high", "row"]) (sc := defScope s_taken_out) (by decide +kernel)) (fun _ _ _ _ _ => (pg_name (i := 7) sc_taken_out.nd rfl (.inl rfl))) (fun _ _ _ _ _ => (pts_one (pt_val (pe_kn Dbe (hr.mono (by decide)) rfl pass0 (pa_cons (pe_gr rfl T.NOUGHT) (pa_cons (pe_ix (ix_listK (K := K) rfl) (pe_ix (ix_tupK (K := K) rfl) (pv 7) pe_int (fun _ _ => rfl)) (pv 1) (fun _ _ => rfl)) pa_nil)))))) (fun _ _ _ _ _ => (pv 7)))
     (pss_cons (ps_setLc (i := 3) (own := [("row", 7)]) rfl sc_taken_out.nd rfl rfl (sw_true rfl rfl rfl (by decide +kernel)) (pi_list (pv 0)) (blkOk_by (own := [("row", 7)]) (N := ["rows", "k", "lows", "highs", "left", "low", "high", "row"]) (sc := defScope s_taken_out) (by decide +kernel)) (fun _ _ _ _ _ => (pg_name (i := 7) sc_taken_out.nd rfl (.inl rfl))) (fun _ _ _ _ _ => (pts_one (pt_val (pe_kn Dbe (hr.mono (by decide)) rfl pass0 (pa_cons (pe_ix (ix_listK (K := K) rfl) (pe_ix (ix_tupK (K := K) rfl) (pv 7) pe_int (fun _ _ => rfl)) (pv 1) (fun _ _ => rfl)) (pa_cons (pe_gr rfl T.NOUGHT) pa_nil)))))) (fun _ _ _ _ _ => (pv 7)))
     (pss_cons (ps_setLc (i := 4) (own := [("row", 7)]) rfl sc_taken_out.nd rfl rfl (sw_true rfl rfl rfl (by decide +kernel)) (pi_list (pv 0)) (blkOk_by (own := [("row", 7)]) (N := ["rows", "k", "lows", "highs", "left", "low", "high", "row"]) (sc := defScope s_taken_out) (by decide +kernel)) (fun _ _ _ _ _ => (pg_name (i := 7) sc_taken_out.nd rfl (.inl rfl))) (fun _ _ _ _ _ => (pts_one (pt_cmpR (op_eqDK (K := K) rfl (hu64 hr)) (pe_ix (ix_listK (K := K) rfl) (pe_ix (ix_tupK (K := K) rfl) (pv 7) pe_int (fun _ _ => rfl)) (pv 1) (fun _ _ => rfl)) (pe_gr rfl T.NOUGHT) (nomark _)))) (fun _ _ _ _ _ => (pv 7)))
     (pss_cons (ps_for PassesOwn.never rfl (pi_list (pv 2)) (pg_name (i := 5) sc_taken_out.nd rfl (.inl rfl))
     (pss_one (ps_for PassesOwn.never rfl (pi_list (pv 3)) (pg_name (i := 6) sc_taken_out.nd rfl (.inl rfl))
     (pss_one (ps_expr (pe_kn Dput (hr.mono (by decide)) rfl pass0 (pa_cons (pv 4) (pa_cons (pe_kn Dtk (hr.mono (by decide)) rfl pass0 (pa_cons (pv 5) (pa_cons (pv 6) (pa_cons (pv 1) pa_nil)))) pa_nil))))))))
     (pss_one (ps_ret (pe_tup (pa_cons (pv 2) (pa_cons (pv 3) (pa_cons (pv 4) pa_nil)))))))))), ?_⟩
    have ix : ∀ {σ : St} {N' : AS} {H1 : Hp} {r : Row} {v : V}, r ∈ rows → σ[7]? = some (some v) → σ[1]? = some (some (.int (n : Int))) → (fR K).r r N' H1 v → Ge (tOp (rIxL K) (tOp (rIxT K) (tVar 7) (tC (.int 1))) (tVar 1)) σ N' H1 ((fQ K).r (at_ r.b n)) := fun hm e7 e1 rv =>
      ge_ix (F := fQ K) (ge_rb (ge_v (F := fR K) e7 rv)) (ge_vi e1) rfl (at_get (hp.row _ hm).1)
    refine q_set (N := N) (ge_lcF (F := fR K) (fun r => below zero (at_ r.b n)) (ge_v (F := fL (fR K)) rfl h0) (by omega) (fun x => rfl) (fun N' H1 r v hm up rv => gt_B (ge_b (ge_zero T) (ix hm rfl rfl rv) (hp.b1 hm).1)) fun N' H1 r v hm up rv => ge_v (F := fR K) rfl rv) d fun vl H2 s2 rl => ?_
    refine q_set (N := N) (ge_lcF (F := fR K) (fun r => below (at_ r.b n) zero) (ge_v (F := fL (fR K)) rfl ((fL (fR K)).same s2 h0)) (by omega) (fun x => rfl) (fun N' H1 r v hm up rv => gt_B (ge_b (ix hm rfl rfl rv) (ge_zero T) (hp.b1 hm).2)) fun N' H1 r v hm up rv => ge_v (F := fR K) rfl rv) (d.same s2) fun vh H3 s3 rh => ?_
    have t3 := s2.trans s3
    have d3 := d.same t3
    refine q_set (N := N) (ge_lcFW (F := fR K) (fun r => decide (at_ r.b n = zero)) (ge_v (F := fL (fR K)) rfl ((fL (fR K)).same t3 h0)) (by omega) (fun x => rfl) (fun N' H1 r v hm up rv => gt_test (ge_eqQ (ix hm rfl rfl rv) (ge_zero T))) fun N' H1 r v hm up rv => ge_v (F := fR K) rfl rv) d3 fun vf H4 s4 ⟨p, ep, hp3, np, gw⟩ => ?_
    subst ep
    have t4 := t3.trans s4
    have d4 := d.same t4
    have up4 : Up N (ad N p) H3 H4 := ⟨s4, fun _ h => .inl h, fun b h => h.elim .inl fun e => .inr (by rw [e]; exact hp3), fun b h => h.elim (d4 b) fun e => by rw [e]; exact gw.ne⟩
    have rl4 : (fL (fR K)).r (lowsOf rows n) (ad N p) H4 vl := (fL (fR K)).lift up4 ((fL (fR K)).same s3 rl)
    have rh4 : (fL (fR K)).r (highsOf rows n) (ad N p) H4 vh := (fL (fR K)).lift up4 rh
    have h04 : (fL (fR K)).r rows N H4 v0 := (fL (fR K)).same t4 h0
    have gw4 : Gw (ad N p) (fR K) p (leftOf rows n) H4 := gw
    clear gw
    refine q_for (N := ad N p) (F := fR K) (ds := lowsOf rows n) (fun H1 i σ' H' => (∃ a b c, σ' = [some v0, some (.int (n : Int)), some vl, some vh, some (.ref p), a, b, c]) ∧ But p H1 H' ∧ Gw (ad N p) (fR K) p (cross n ((lowsOf rows n).take i) (highsOf rows n) (leftOf rows n)) H') (ge_v (F := fL (fR K)) rfl rl4) up4.d (fun H1 s1 => ⟨⟨_, _, _, rfl⟩, .of (Same.refl _), gw4.same s1⟩) (fun H1 i σ' H' s1 c => ?_) ?_ ?_
    · obtain ⟨xs, e, _⟩ := gw4.same s1
      exact c.2.1.kp ad_self e
    · rintro H5 i lo x σ' H6 s5 hi rx ⟨⟨a, b, c, rfl⟩, b6, gw6⟩
      have kp6 : Kp (ad N p) H4 H6 := by
        obtain ⟨xs, e, _⟩ := gw4.same s5
        exact (Kp.of s5).trans (b6.kp ad_self e)
      have d6 : Dom (ad N p) H6 := (Dom.same up4.d s5).but b6 gw6.ne
      have mlo := mem_low (List.mem_of_getElem? hi)
      refine n_name ?_
      refine s_for (N := ad N p) (F := fR K) (ds := highsOf rows n) (fun H1 j σ' H' => (∃ b c, σ' = [some v0, some (.int (n : Int)), some vl, some vh, some (.ref p), some x, b, c]) ∧ But p H1 H' ∧ Gw (ad N p) (fR K) p (crossIn n lo ((highsOf rows n).take j) (cross n ((lowsOf rows n).take i) (highsOf rows n) (leftOf rows n))) H') (ge_v (F := fL (fR K)) rfl ((fL (fR K)).fr kp6 rh4)) d6 (fun H1 s1 => ⟨⟨_, _, rfl⟩, .of (Same.refl _), gw6.same s1⟩) (fun H1 j σ' H' s1 c => ?_) ?_ ?_
      · obtain ⟨xs, e, _⟩ := gw6.same s1
        exact c.2.1.kp ad_self e
      · rintro H7 j hi' y σ' H8 s7 hj ry ⟨⟨b, c, rfl⟩, b8, gw8⟩
        have kp8 : Kp (ad N p) H6 H8 := by
          obtain ⟨xs, e, _⟩ := gw6.same s7
          exact (Kp.of s7).trans (b8.kp ad_self e)
        have d8 : Dom (ad N p) H8 := (d6.same s7).but b8 gw8.ne
        have mhi := mem_high (List.mem_of_getElem? hj)
        obtain ⟨q1, q2⟩ := hp.put mlo mhi
        refine n_name ?_
        refine s_put (r := taken lo hi' n) rfl (ge_taken (ge_v (F := fR K) rfl ((fR K).fr kp8 rx)) (ge_v (F := fR K) rfl ry) (ge_vi rfl) (hp.tk mlo mhi)) d8 ad_self gw8 q1 q2 (out_sizes hz (Nat.le_of_lt (List.getElem?_eq_some_iff.mp hj).1)) fun H9 b9 gw9 => ⟨⟨_, _, rfl⟩, b8.trans b9, ?_⟩
        rw [take_more hj]
        unfold crossIn
        rw [List.foldl_append]
        exact gw9
      · rintro H7 σ' H8 s7 ⟨⟨b, c, rfl⟩, b8, gw8⟩
        refine ⟨⟨_, _, _, rfl⟩, (b6.trans (.of s7)).trans b8, ?_⟩
        rw [List.take_length] at gw8
        rw [take_more hi]
        unfold cross
        rw [List.foldl_append]
        exact gw8
    · rintro H5 σ' H6 s5 ⟨⟨a, b, c, rfl⟩, b6, gw6⟩
      rw [List.take_length] at gw6
      have kp6 : Kp (ad N p) H4 H6 := by
        obtain ⟨xs, e, _⟩ := gw4.same s5
        exact (Kp.of s5).trans (b6.kp ad_self e)
      have s6 : Same H H6 := Same.but (t4.trans s5) b6 (t3.free hp3)
      refine s_ret (N := N) (ge_mkT (F := fL (fR K)) (G := fL (fR K)) (I := fL (fR K)) (p1 := fun d : Step × List Row => d.1.1) (p2 := fun d => d.1.2) (p3 := fun d => d.2) (d := takenOut rows n) (ge_v (F := fL (fR K)) rfl ?_) (ge_v (F := fL (fR K)) rfl ?_) (ge_v (F := fL (fR K)) rfl ?_)) (d.same s6) fun v H7 s7 r => k v H7 (s6.trans s7) r
      · exact (fL (fR K)).dn (fun _ h => .inl h) ((fL (fR K)).fr kp6 rl4)
      · exact (fL (fR K)).dn (fun _ h => .inl h) ((fL (fR K)).fr kp6 rh4)
      · exact gw6.done (fun _ h => .inl h) np
theorem kn_taken_out (D : Df K mg "taken_out" s_taken_out) (T : Txt K mg aN aO aM aC) (Dbe : Kn P w K mg base CX0 1 "below" ["q", "r"] (spB K)) (Dput : Kn P w K mg base CX0 3 "put_on" ["rows", "row"] (spPut K)) (Dtk : Kn P w K mg base CX0 5 "taken_together" ["low", "high", "k"] (spTaken K)) : Kn P w K mg base CX0 6 "taken_out" ["rows", "k"] (spOut K) :=
  kn_of D (fun _ _ F => F.binds fun _ _ _ _ _ _ us hl => match us, hl with | [_, _], _ => rfl) fun _ _ F => ok_taken_out F T Dbe Dput Dtk
end
end Sh
/-! rule_of -/
namespace Sh
open PySem PySem.Spec PyProof.Rows L2
section
variable {K : PySem.W.Frag} {σ : St} {N : AS} {H : Hp} {ta : TA} {te : TE} {α : Type} {F : Fam α} {D : Ends} {u : TS} {R : RP} {gt : TG}
theorem q_asg (g : Ge te σ N H R) (d : Dom N H) (k : ∀ v H2, Same H H2 → R N H2 v → gt v σ H2 (fun σ' H' => u D σ' H')) : tSeq (tAsg te gt) u D σ H := g N H (.refl d) _ k
/-- xs.append(e) -/
theorem s_app {i : Nat} {l : Addr} {ds : List α} {x : α} (hi : σ[i]? = some (some (.ref l))) (g : GA ta σ N H (fun N' H' vs => ∃ v, vs = [v] ∧ F.r x N' H' v)) (d : Dom N H) (nl : N l) (gw : Gw N F l ds H) (hz : ds.length ≤ 10000000) (k : ∀ H', But l H H' → Gw N F l (ds ++ [x]) H' → D.nx σ H') : tDrop (tBM K "list" rAppend (tVar i) ta) D σ H := by
  obtain ⟨xs, hp, pr⟩ := id gw
  refine ⟨_, hi, .inl ⟨rfl, _, .of hp⟩, g N H (.refl d) _ fun vs H2 s2 ⟨v, e, rv⟩ => ⟨l, xs, v, rfl, e, s2 l _ hp, line_lt (by have := Paired.length pr; omega), ?_⟩⟩
  exact k _ (But.trans (But.of s2) But.upd) (Gw.push nl (s2 l _ hp) (Paired.mapP pr fun _ _ z => F.same s2 z) rv)
theorem q_app {i : Nat} {l : Addr} {ds : List α} {x : α} (hi : σ[i]? = some (some (.ref l))) (g : GA ta σ N H (fun N' H' vs => ∃ v, vs = [v] ∧ F.r x N' H' v)) (d : Dom N H) (nl : N l) (gw : Gw N F l ds H) (hz : ds.length ≤ 10000000) (k : ∀ H', But l H H' → Gw N F l (ds ++ [x]) H' → u D σ H') : tSeq (tDrop (tBM K "list" rAppend (tVar i) ta)) u D σ H := s_app (D := { D with nx := u D }) hi g d nl gw hz k
/-- xs.insert(0, e) -/
theorem s_front {i : Nat} {l : Addr} {ds : List α} {x : α} (hi : σ[i]? = some (some (.ref l))) (g : GA ta σ N H (fun N' H' vs => ∃ w v, vs = [w, v] ∧ vI 0 N' H' w ∧ F.r x N' H' v)) (d : Dom N H) (nl : N l) (gw : Gw N F l ds H) (hz : ds.length ≤ 10000000) (k : ∀ H', But l H H' → Gw N F l (x :: ds) H' → D.nx σ H') :
    tDrop (tBM K "list" (fun x vs H Q => ∃ (l : Addr) (xs : List V) (i : Int) (y : V), x = .ref l ∧ vs = [.int i, y] ∧ H l = some (.lst xs) ∧ xs.length < sizeLine ∧ 0 ≤ i ∧ i < 2 ^ 63 ∧ Q .non (upd H l (.lst (xs.take i.toNat ++ [y] ++ xs.drop i.toNat)))) (tVar i) ta) D σ H := by
  obtain ⟨xs, hp, pr⟩ := id gw
  refine ⟨_, hi, .inl ⟨rfl, _, .of hp⟩, g N H (.refl d) _ fun vs H2 s2 ⟨w, v, e, ew, rv⟩ => ⟨l, xs, 0, v, rfl, by rw [e, show w = .int 0 from ew], s2 l _ hp, line_lt (by have := Paired.length pr; omega), by decide, by decide, ?_⟩⟩
  have kp : Kp N H2 (upd H2 l (.lst (xs.take 0 ++ [v] ++ xs.drop 0))) := But.upd.kp nl (s2 l _ hp)
  exact k _ (But.trans (But.of s2) But.upd) ⟨_, upd_same, .cons (F.fr kp rv) (Paired.mapP pr fun _ _ z => F.fr kp (F.same s2 z))⟩
/-- a for over range(m - 1, -1, -1) -/
theorem q_for3 {m j : Nat} {tbd : TS} (Pv : Hp → Nat → St → Hp → Prop) (ga : GA ta σ N H (fun _ _ vs => vs = [.int ((m : Int) - 1), .int (-1), .int (-1)])) (hm : m ≤ 1000) (d : Dom N H) (h0 : ∀ H1, Same H H1 → Pv H1 0 σ H1)
    (hs : ∀ H1 i σ' H', Same H H1 → i < m → Pv H1 i σ' H' → tbd { nx := Pv H1 (i + 1), rt := D.rt, ct := Pv H1 (i + 1), bk := u D } (σ'.set j (some (.int ((m - 1 - i : Nat) : Int)))) H') (hd : ∀ H1 σ' H', Same H H1 → Pv H1 m σ' H' → u D σ' H') :
    tSeq (tFor (iRng3 ta) (gName j) tbd) u D σ H :=
  ga N H (.refl d) _ fun vs H1 s1 e => ⟨(m : Int) - 1, -1, -1, m, e, by
    have := RgC.neg (i := (m : Int) - 1) (j := -1) (by omega) (by omega) (by decide) (by decide)
    rw [show ((m : Int) - 1 - -1).toNat = m by omega] at this
    exact this, for_rangeC (D := { D with nx := u D }) (Pv H1) (h0 H1 s1) (fun i σ' H' hi p => by
      have e1 : (m : Int) - 1 + (i : Nat) * (-1) = ((m - 1 - i : Nat) : Int) := by omega
      rw [e1]
      exact hs H1 i σ' H' s1 hi p) fun σ' H' p => hd H1 σ' H' s1 p⟩
end
def FrOk (p : Plan) : Prop := Small p ∧ p.shims.length ≤ 3 ∧ p.demands.length + 2 * p.shims.length ≤ 14
/-- the rows at level t -/
def At (p : Plan) (t : Nat) (r : Row) : Prop := Lv t r ∧ Rk p.shims.length r ∧ r.a.length = p.sizes.length
theorem at_first {p : Plan} (h : Small p) : ∀ r ∈ firstRows p, At p 0 r := fun r hr => ⟨h.first r hr,
  first_all (P := fun r => Rk p.shims.length r ∧ r.a.length = p.sizes.length) (fun r hr => ⟨h.good.de r hr, h.good.la r hr⟩) (fun s hs k => by
    obtain ⟨n1, n2, _⟩ := h.good.sh s hs
    exact ⟨⟨bound_rk nm_one (minus_nm nm_zero.1 n1.1), by show (List.replicate _ _).length = _; rw [List.length_replicate]⟩, bound_rk nm_mone n2, by show (List.replicate _ _).length = _; rw [List.length_replicate]⟩) r hr⟩
theorem at_out {p : Plan} {t k : Nat} {rows : List Row} (h : ∀ r ∈ rows, At p t r) : ∀ r ∈ (takenOut rows k).2, At p (t + 1) r :=
  (out_all (P := At p) (fun t r h => ⟨Lv.up t r h.1, h.2⟩) (fun t k lo hi h1 h2 => ⟨Lv.tk t k lo hi h1.1 h2.1, taken_rk h1.2.1 h2.2.1, by
    show (List.zipWith _ lo.a hi.a).length = _
    rw [List.length_zipWith, h1.2.2, h2.2.2, Nat.min_self]⟩) h).2.2
theorem at_ok {p : Plan} {t k : Nat} {rows : List Row} (hS : Small p) (hm : p.shims.length ≤ 3) (ht : t ≤ 2) (hk : k < p.shims.length) (h : ∀ r ∈ rows, At p t r) (hl : rows.length ≤ lc t) : OutOk rows k := by
  refine ⟨?_, ⟨111, 251, by decide, by decide, by decide, fun r hr => (h r hr).1.two ht⟩, fun r hr => ⟨by rw [(h r hr).2.1.len]; exact hk, ?_⟩⟩
  · have h3 : t = 0 ∨ t = 1 ∨ t = 2 := by omega
    rcases h3 with e | e | e <;> subst e <;> simp only [lc] at hl <;> omega
  · have h1 := (h r hr).2.1.len
    have h2 := (h r hr).2.2
    have h3 := hS.n6
    omega
section
variable {P : Program} {w : World} {K : PySem.W.Frag} {mg : Str → Option Value} {base : Heap} {aN aO aM aC : Addr}
def spRule (K : PySem.W.Frag) : Sp := PSp FrOk (fun p => A1 ((fPl K).r p)) (fun p => (fU K).r (ruleOf p))
theorem ge_first {E : XK} {σ : St} {N : AS} {H : Hp} {te : TE} {p : Plan} (h : Ge te σ N H ((fPl K).r p)) (hp : FrOk p) : Ge (tCl (spFirst K) E (tCons te tNil)) σ N H ((fL (fR K)).r (firstRows p)) := ge_call (x := p) ⟨hp.1, hp.2.1⟩ (ga1 h ((fPl K).mn _))
theorem ge_out {E : XK} {σ : St} {N : AS} {H : Hp} {ta tb : TE} {rows : List Row} {k : Nat} (h : Ge ta σ N H ((fL (fR K)).r rows)) (hk : Ge tb σ N H (vI (k : Int))) (hp : OutOk rows k) : Ge (tCl (spOut K) E (tCons ta (tCons tb tNil))) σ N H ((fO K).r (takenOut rows k)) := ge_call (x := (rows, k)) hp (ga2 h ((fL (fR K)).mn _) hk mn_I)
abbrev s_rule_of : Stmt := top 23
theorem sc_rule_of : FnScope ["plan", "rows", "steps", "k", "lows", "highs"] ["plan"] (defScope s_rule_of) := ⟨rfl, rfl, rfl, by decide +kernel, rfl, by decide +kernel, by decide +kernel⟩
theorem ok_rule_of {f : Addr} {fd : FuncData} (F : Fun K "rule_of" "rule_of" s_rule_of f fd) (T : Txt K mg aN aO aM aC) (Dfi : Kn P w K mg base CX0 4 "first_rows" ["plan"] (spFirst K)) (Dou : Kn P w K mg base CX0 6 "taken_out" ["rows", "k"] (spOut K)) : FnOk P w K mg base CX0 7 f fd ["plan"] (spRule K) := by
  refine F.ok sc_rule_of (fun vs H Q E h => ?_) (fun cdv A outer s H vs Q E hr h => ?_)
  · obtain ⟨x, N, _, _, ⟨_, rfl, _⟩, _⟩ := h
    rfl
  · obtain ⟨p, N, d, hp, ⟨v, rfl, h1⟩, k⟩ := h
    obtain ⟨hS, hm, h14⟩ := id hp
    refine ⟨_, (pss_cons (ps_set (i := 1) sc_rule_of.nd rfl (.inl rfl) (pe_kn Dfi (hr.mono (by decide)) rfl pass0 (pa_cons (pv 0) pa_nil)))
     (pss_cons (ps_set (i := 2) sc_rule_of.nd rfl (.inl rfl) (pe_lst pa_nil))
     (pss_cons (ps_for PassesOwn.never rfl (pi_range3 rfl T.range (pa_cons (pe_op op_sub (pe_callB call_len_seq rfl T.len (by decide +kernel) (pa_cons (pe_ix ix_tup (pv 0) pe_int (fun _ _ => rfl)) pa_nil)) pe_int) (pa_cons (pe_un un_neg pe_int) (pa_cons (pe_un un_neg pe_int) pa_nil)))) (pg_name (i := 3) sc_rule_of.nd rfl (.inl rfl))
     (pss_cons (ps_asg (pe_kn Dou (hr.mono (by decide)) rfl pass0 (pa_cons (pv 1) (pa_cons (pv 3) pa_nil))) (pg_tup rfl (pgs_cons (pg_name (i := 4) sc_rule_of.nd rfl (.inl rfl)) (pgs_cons (pg_name (i := 5) sc_rule_of.nd rfl (.inl rfl)) (pgs_cons (pg_name (i := 1) sc_rule_of.nd rfl (.inl rfl)) pgs_nil)))))
     (pss_one (ps_expr (pe_bm PySem.F.plainAttrs_list PySem.F.slot_list_insert PySem.F.type_list_insert mt_insert (pv 2) (pa_cons pe_int (pa_cons (pe_tup (pa_cons (pv 4) (pa_cons (pv 5) pa_nil))) pa_nil)))))))
     (pss_one (ps_ret (pe_tup (pa_cons (pv 2) (pa_cons (pv 1) pa_nil)))))))), ?_⟩
    refine q_set (N := N) (ge_first (ge_v (F := fPl K) rfl h1) hp) d fun vr H2 s2 rr => ?_
    refine q_mkL (d.same s2) fun l hl nl => ?_
    have uu : Up N (ad N l) H2 (upd H2 l (.lst [])) := .ad (d.same s2) hl
    have dd := uu.d
    refine q_for3 (N := ad N l) (m := p.shims.length) (fun H1 i σ' H' => ∃ (st : List Step) (rows : List Row) (vr : V) (a b c : Option V), σ' = [some v, some vr, some (.ref l), a, b, c] ∧ ruleLoop (p.shims.length - i) st rows = ruleOf p ∧ st.length = i ∧ rows.length ≤ lc i ∧ (∀ r ∈ rows, At p i r) ∧ But l H1 H' ∧ Gw (ad N l) (fS K) l st H' ∧ (fL (fR K)).r rows (ad N l) H' vr) (fun N' H1 u' Q' q' => ?_) (by omega) dd (fun H1 s1 => ?_) ?_ ?_
    · exact ga3 (ge_subI (ge_len (ge_pH (ge_v (F := fPl K) (x := p) rfl ((fPl K).lift uu ((fPl K).same s2 h1))))) ge_i) mn_I (ge_un ge_i) (fun _ _ _ _ _ _ h => h) (ge_un ge_i) (fun _ _ _ _ _ _ h => h) N' H1 u' Q' fun vs H3 s3 ⟨x, y, z, e, ex, ey, ez⟩ => q' vs H3 s3 (by rw [e, show x = _ from ex, ey, ez])
    · exact ⟨[], firstRows p, vr, _, _, _, rfl, rfl, rfl, first_len h14, at_first hS, .of (Same.refl _), .nil (s1 l _ upd_same), (fL (fR K)).same s1 ((fL (fR K)).lift uu rr)⟩
    · rintro H1 i σ' H' s1 hi ⟨st, rows, vr', a, b, c, rfl, hrl, hst, hln, hat, bt, gw, rv⟩
      have dH : Dom (ad N l) H' := (Dom.same dd s1).but bt gw.ne
      refine q_asg (N := ad N l) (ge_out (k := p.shims.length - 1 - i) (ge_v (F := fL (fR K)) rfl rv) (ge_vi rfl) (at_ok hS hm (by omega) (by omega) hat hln)) dH fun v3 H3 s3 ⟨t, x, y, z, ev, ht, rl, rh, rz⟩ => ?_
      subst ev
      refine n_tup3 ht ?_
      have gw3 := gw.same s3
      refine s_front (F := fS K) (x := (takenOut rows (p.shims.length - 1 - i)).1) rfl (ga2 ge_i mn_I (ge_mkP (F := fL (fR K)) (G := fL (fR K)) (d := (takenOut rows (p.shims.length - 1 - i)).1) (ge_v (F := fL (fR K)) rfl rl) (ge_v (F := fL (fR K)) rfl rh)) ((fS K).mn _)) (Dom.same dH s3) ad_self gw3 (by omega) fun H4 b4 gw4 => ?_
      refine ⟨_, (takenOut rows (p.shims.length - 1 - i)).2, z, _, _, _, rfl, ?_, by rw [List.length_cons, hst], out_lc (by omega) hln, at_out hat, (bt.trans (.of s3)).trans b4, gw4, ?_⟩
      · rw [← hrl, show p.shims.length - i = (p.shims.length - 1 - i) + 1 by omega]
        show _ = ruleLoop (p.shims.length - 1 - i) _ _
        rw [show p.shims.length - (i + 1) = p.shims.length - 1 - i by omega]
      · obtain ⟨xs, e, _⟩ := gw3
        exact (fL (fR K)).fr (b4.kp ad_self e) rz
    · rintro H1 σ' H' s1 ⟨st, rows, vr', a, b, c, rfl, hrl, hst, hln, hat, bt, gw, rv⟩
      rw [Nat.sub_self] at hrl
      have s5 : Same H H' := Same.but ((s2.trans (same_new hl)).trans s1) bt (s2.free hl)
      refine s_ret (N := N) (ge_mkP (F := fL (fS K)) (G := fL (fR K)) (d := ruleOf p) (ge_v (F := fL (fS K)) (x := (ruleOf p).1) rfl ?_) (ge_v (F := fL (fR K)) (x := (ruleOf p).2) rfl ?_)) (d.same s5) fun v H7 s7 r => k v H7 (s5.trans s7) r
      · rw [← hrl]
        exact gw.done (fun _ h => .inl h) nl
      · rw [← hrl]
        exact (fL (fR K)).dn (fun _ h => .inl h) rv
theorem kn_rule_of (D : Df K mg "rule_of" s_rule_of) (T : Txt K mg aN aO aM aC) (Dfi : Kn P w K mg base CX0 4 "first_rows" ["plan"] (spFirst K)) (Dou : Kn P w K mg base CX0 6 "taken_out" ["rows", "k"] (spOut K)) : Kn P w K mg base CX0 7 "rule_of" ["plan"] (spRule K) :=
  kn_of D (fun _ _ F => F.binds fun _ _ _ _ _ _ us hl => match us, hl with | [_], _ => rfl) fun _ _ F => ok_rule_of F T Dfi Dou
end
end Sh
/-! worth_of -/
namespace Sh
open PySem PySem.Spec PyProof.Rows L2
theorem Paired.zp {α β γ δ : Type} {F : α → γ → Prop} {G : β → δ → Prop} : ∀ {xs : List α} {ds : List γ} {ys : List β} {es : List δ}, Paired F xs ds → Paired G ys es → Paired (fun q d => F q.1 d.1 ∧ G q.2 d.2) (xs.zip ys) (ds.zip es)
  | _, _, _, _, .nil, _ => by rw [List.zip_nil_left, List.zip_nil_left]; exact .nil
  | _, _, _, _, .cons _ _, .nil => by rw [List.zip_nil_right, List.zip_nil_right]; exact .nil
  | _, _, _, _, .cons r t, .cons s u => by rw [List.zip_cons_cons, List.zip_cons_cons]; exact .cons ⟨r, s⟩ (Paired.zp t u)
theorem Paired.thru {α β γ δ : Type} {F : α → β → Prop} {G : β → γ → Prop} {I : δ → γ → Prop} {f : α → δ} (h : ∀ a b c, F a b → G b c → I (f a) c) : ∀ {xs : List α} {ys : List β} {zs : List γ}, Paired F xs ys → Paired G ys zs → Paired I (xs.map f) zs
  | _, _, _, .nil, .nil => .nil
  | _, _, _, .cons r t, .cons s u => .cons (h _ _ _ r s) (Paired.thru h t u)
theorem sumOk_at : ∀ {ps : List (Q × Q)} {f : Q} {i : Nat} {p : Q × Q}, sumOk f ps → ps[i]? = some p → P2 p.1 p.2 ∧ P2 (addUp f (ps.take i)) (times p.1 p.2)
  | [], _, i, _, _, h => by simp at h
  | x :: xs, f, 0, p, h, e => by
    have e' := Option.some.inj e
    subst e'
    exact ⟨h.1, h.2.1⟩
  | x :: xs, f, i + 1, p, h, e => sumOk_at (ps := xs) (f := plus f (times x.1 x.2)) (i := i) (p := p) h.2.2 e
theorem addUp_more {ps : List (Q × Q)} {f : Q} {i : Nat} {p : Q × Q} (e : ps[i]? = some p) : addUp f (ps.take (i + 1)) = plus (addUp f (ps.take i)) (times p.1 p.2) := by
  rw [take_more e, addUp_app]
  rfl
section
variable {K : PySem.W.Frag} {σ : St} {N : AS} {H : Hp} {tz : TA} {α β : Type} {F : Fam α} {G : Fam β}
/-- list(zip(a, b)) -/
theorem ge_lz {ds : List α} {es : List β} (gz : GA tz σ N H (fun N' H' ws => ∃ x y, ws = [x, y] ∧ (fL F).r ds N' H' x ∧ (fL G).r es N' H' y)) : Ge (Zi.tLz K tz) σ N H ((fL (fP K F G)).r (ds.zip es)) := fun N1 H1 u1 Q q =>
  gz N1 H1 u1 _ fun ws H2 s2 ⟨v, u, e, ⟨a, xs, ea, ha, na, pa⟩, ⟨b, ys, eb, hb, nb, pb⟩⟩ => ⟨a, b, xs, ys, by rw [e, ea, eb], .of ha, .of hb, fun H' p ts s3 hp _ hl pr =>
    q _ H' (s2.trans s3) ⟨p, _, rfl, hl, (u1.more s2).dom.new hp, Paired.thru (fun t q' d h1 h2 => ⟨t, q'.1, q'.2, rfl, .inl h1, F.same s3 h2.1, G.same s3 h2.2⟩) pr (Paired.zp pa pb)⟩⟩
end
section
variable {P : Program} {w : World} {K : PySem.W.Frag} {mg : Str → Option Value} {base : Heap} {aN aO aM aC : Addr}
structure Wo where
  r : Row
  made : List Q
  ch : List Q
def spWorth (K : PySem.W.Frag) : Sp := PSp (fun d : Wo => sumOk d.r.c (pairs d.r d.made d.ch) ∧ d.r.a.length + d.r.b.length ≤ 1000) (fun d => A3 ((fR K).r d.r) ((fQs K).r d.made) ((fQs K).r d.ch)) (fun d => (fQ K).r (worth d.r d.made d.ch))
theorem ge_worth {E : XK} {σ : St} {N : AS} {H : Hp} {t0 t1 t2 : TE} {r : Row} {made ch : List Q} (h0 : Ge t0 σ N H ((fR K).r r)) (h1 : Ge t1 σ N H ((fQs K).r made)) (h2 : Ge t2 σ N H ((fQs K).r ch)) (hp : sumOk r.c (pairs r made ch)) (hl : r.a.length + r.b.length ≤ 1000) :
    Ge (tCl (spWorth K) E (tCons t0 (tCons t1 (tCons t2 tNil)))) σ N H ((fQ K).r (worth r made ch)) := ge_call (x := Wo.mk r made ch) ⟨hp, hl⟩ (ga3 h0 ((fR K).mn _) h1 ((fQs K).mn _) h2 ((fQs K).mn _))
abbrev s_worth_of : Stmt := top 24
theorem sc_worth_of : FnScope ["row", "made", "choice", "found", "one", "other"] ["row", "made", "choice"] (defScope s_worth_of) := ⟨rfl, rfl, rfl, by decide +kernel, rfl, by decide +kernel, by decide +kernel⟩
theorem ok_worth_of {f : Addr} {fd : FuncData} (F : Fun K "worth_of" "worth_of" s_worth_of f fd) (T : Txt K mg aN aO aM aC) (Dpl : Kn P w K mg base CX0 3 "plus" ["q", "r"] (sp2 K P2 plus)) (Dti : Kn P w K mg base CX0 3 "times" ["q", "r"] (sp2 K P2 times)) : FnOk P w K mg base CX0 4 f fd ["row", "made", "choice"] (spWorth K) := by
  refine F.ok sc_worth_of (fun vs H Q E h => ?_) (fun cdv A outer s H vs Q E hr h => ?_)
  · obtain ⟨x, N, _, _, ⟨_, _, _, rfl, _⟩, _⟩ := h
    rfl
  · obtain ⟨⟨r, made, ch⟩, N, d, ⟨hs, hl⟩, ⟨v0, v1, v2, rfl, h0, h1, h2⟩, k⟩ := h
    simp only at hs hl h0 h1 h2
    refine ⟨_, (pss_cons (ps_set (i := 3) sc_worth_of.nd rfl (.inl rfl) (pe_ix ix_tup (pv 0) pe_int (fun _ _ => rfl)))
     (pss_cons (ps_for PassesOwn.never rfl (pi_list (pe_op op_cat (Zi.pe_lzip rfl T.list rfl T.zip (pa_cons (pe_ix ix_tup (pv 0) pe_int (fun _ _ => rfl)) (pa_cons (pv 1) pa_nil))) (Zi.pe_lzip rfl T.list rfl T.zip (pa_cons (pe_ix ix_tup (pv 0) pe_int (fun _ _ => rfl)) (pa_cons (pv 2) pa_nil))))) (pg_tup rfl (pgs_cons (pg_name (i := 4) sc_worth_of.nd rfl (.inl rfl)) (pgs_cons (pg_name (i := 5) sc_worth_of.nd rfl (.inl rfl)) pgs_nil)))
     (pss_one (ps_set (i := 3) sc_worth_of.nd rfl (.inl rfl) (pe_kn Dpl (hr.mono (by decide)) rfl pass0 (pa_cons (pv 3) (pa_cons (pe_kn Dti (hr.mono (by decide)) rfl pass0 (pa_cons (pv 4) (pa_cons (pv 5) pa_nil))) pa_nil))))))
     (pss_one (ps_ret (pv 3))))), ?_⟩
    refine q_set (N := N) (ge_rc (ge_v (F := fR K) rfl h0)) d fun vf H2 s2 rf => ?_
    have d2 := d.same s2
    have l1 := zip_len_le r.a made
    have l2 := zip_len_le r.b ch
    refine q_for (N := N) (F := fB K) (ds := pairs r made ch) (fun H1 i σ' H' => ∃ vf a b, σ' = [some v0, some v1, some v2, some vf, a, b] ∧ Same H1 H' ∧ (fQ K).r (addUp r.c ((pairs r made ch).take i)) N H' vf)
      (ge_cat (ge_lz (F := fQ K) (G := fQ K) (ga2 (ge_ra (ge_v (F := fR K) rfl ((fR K).same s2 h0))) ((fQs K).mn _) (ge_v (F := fQs K) rfl ((fQs K).same s2 h1)) ((fQs K).mn _))) (ge_lz (F := fQ K) (G := fQ K) (ga2 (ge_rb (ge_v (F := fR K) rfl ((fR K).same s2 h0))) ((fQs K).mn _) (ge_v (F := fQs K) rfl ((fQs K).same s2 h2)) ((fQs K).mn _))) (by omega)) d2
      (fun H1 s1 => ⟨_, _, _, rfl, Same.refl _, (fQ K).same s1 rf⟩) (fun H1 i σ' H' s1 ⟨_, _, _, _, c, _⟩ => .of c) ?_ ?_
    · rintro H1 i q x σ' H' s1 hq ⟨t, x1, x2, rfl, ht, r1, r2⟩ ⟨vf', a, b, rfl, s3, rv⟩
      obtain ⟨p1, p2⟩ := sumOk_at hs hq
      refine n_tup2 ht ?_
      refine s_set (N := N) (ge_2 (ge_v (F := fQ K) rfl rv) (ge_2 (ge_v (F := fQ K) rfl r1) (ge_v (F := fQ K) rfl r2) p1) p2) ((d2.same s1).same s3) fun v4 H4 s4 r4 => ⟨_, _, _, rfl, s3.trans s4, ?_⟩
      rw [addUp_more hq]
      exact r4
    · rintro H1 σ' H' s1 ⟨vf', a, b, rfl, s3, rv⟩
      rw [List.take_length] at rv
      exact ⟨_, rfl, k _ H' ((s2.trans s1).trans s3) rv⟩
theorem kn_worth_of (D : Df K mg "worth_of" s_worth_of) (T : Txt K mg aN aO aM aC) (Dpl : Kn P w K mg base CX0 3 "plus" ["q", "r"] (sp2 K P2 plus)) (Dti : Kn P w K mg base CX0 3 "times" ["q", "r"] (sp2 K P2 times)) : Kn P w K mg base CX0 4 "worth_of" ["row", "made", "choice"] (spWorth K) :=
  kn_of D (fun _ _ F => F.binds fun _ _ _ _ _ _ us hl => match us, hl with | [_, _, _], _ => rfl) fun _ _ F => ok_worth_of F T Dpl Dti
end
end Sh
/-! chosen_by -/
namespace Sh
open PySem PySem.Spec PyProof.Rows L2
def lenOk (r : Row) : Prop := r.a.length + r.b.length ≤ 1000
structure ChPre (rule : List Step × List Row) (made : List Q) : Prop where
  ok : ChOk rule made
  rl : ∀ r ∈ rule.2, lenOk r
  sl : ∀ s ∈ rule.1, ∀ r ∈ s.1, lenOk r
  nl : rule.1.length ≤ 1000
def rO (K : PySem.W.Frag) (o : Option Q) : RP := fun N H v => match o with
  | none => v = .non
  | some q => (fQ K).r q N H v
theorem rO_same {K : PySem.W.Frag} {o : Option Q} {N : AS} {H H' : Hp} {v : V} (s : Same H H') (h : rO K o N H v) : rO K o N H' v := match o, h with
  | none, h => h
  | some q, h => (fQ K).same s h
theorem rO_mn {K : PySem.W.Frag} {o : Option Q} : Mn (rO K o) := fun N N' H H' v u h => match o, h with
  | none, h => h
  | some q, h => (fQ K).mn q _ _ _ _ _ u h
/-- is w taken as the best? -/
def takes (o : Option Q) (w : Q) : Bool := match o with
  | none => true
  | some q => below q w
theorem better_yes {o : Option Q} {w : Q} (h : takes o w = true) : better o w = some w := by
  cases o with
  | none => rfl
  | some q => exact if_pos (show below q w = true from h)
theorem better_no {o : Option Q} {w : Q} (h : takes o w = false) : better o w = o := by
  cases o with
  | none => cases h
  | some q => exact if_neg (by rw [show below q w = false from h]; decide)
section
variable {K : PySem.W.Frag} {σ : St} {N : AS} {H : Hp} {c c' : TT} {b b' : Bool}
theorem gt_or (g : GT c σ N H b) (g' : b = false → GT c' σ N H b') : GT (tOr c c') σ N H (b || b') := fun N1 H1 u Q q => g N1 H1 u _ fun H2 s => by
  cases b with
  | true => exact iteT (q H2 s)
  | false => exact iteF (g' rfl N1 H2 (u.more s) Q fun H3 s3 => q H3 (s.trans s3))
theorem ge_isN {i : Nat} {v : V} (h : σ[i]? = some (some v)) : Ge (tOp (fun x y H Q => y = .non ∧ Q (.bl (decide (x = .non))) H) (tVar i) (tC .non)) σ N H (vB (decide (v = .non))) :=
  ge_two (R := fun _ _ x => x = v) (S := fun _ _ x => x = .non) (ge_var h (fun _ _ _ _ _ _ h => h) rfl) (fun _ _ _ _ _ _ h => h) ge_c fun N' H' x y _ e1 e2 Q q => ⟨e2, q _ H' (Same.refl _) (by rw [e1]; rfl)⟩
end
section
variable {P : Program} {w : World} {K : PySem.W.Frag} {mg : Str → Option Value} {base : Heap} {aN aO aM aC : Addr}
def spChosen (K : PySem.W.Frag) (aC : Addr) : Sp := fun vs H Q E => ∃ (rule : List Step × List Row) (made : List Sh.Q) (N : AS), Dom N H ∧ ChPre rule made ∧ A2 ((fU K).r rule) ((fQs K).r made) N H vs ∧
  (refused rule.2 made = true → ∀ H', Same H H' → E (.ref aC) none H') ∧ (refused rule.2 made = false → ∀ v H', Same H H' → (fQs K).r (choose rule.1 made []) N H' v → Q v H')
abbrev s_chosen_by : Stmt := top 25
theorem sc_chosen_by : FnScope ["rule", "made", "row", "choice", "steps", "rows", "k", "step", "best", "worth"] ["rule", "made"] (defScope s_chosen_by) := ⟨rfl, rfl, rfl, by decide +kernel, rfl, by decide +kernel, by decide +kernel⟩
theorem ok_chosen_by {f : Addr} {fd : FuncData} (F : Fun K "chosen_by" "chosen_by" s_chosen_by f fd) (T : Txt K mg aN aO aM aC) (Dwo : Kn P w K mg base CX0 4 "worth_of" ["row", "made", "choice"] (spWorth K)) (Dbe : Kn P w K mg base CX0 1 "below" ["q", "r"] (spB K)) (Dmi : Kn P w K mg base CX0 3 "minus" ["q", "r"] (sp2 K P2 minus)) (Dov : Kn P w K mg base CX0 3 "over" ["q", "r"] (sp2 K POv over)) : FnOk P w K mg base (L2.CX P w) 5 f fd ["rule", "made"] (spChosen K aC) := by
  refine F.okX sc_chosen_by (fun vs H Q E h => ?_) (fun cdv A outer s H vs Q E hr h => ?_)
  · obtain ⟨_, _, _, _, _, ⟨_, _, rfl, _⟩, _⟩ := h
    rfl
  · obtain ⟨⟨steps, rows⟩, made, N, d, hp, ⟨v0, v1, rfl, h0, h1⟩, kR, kC⟩ := h
    simp only at hp h0 h1 kR kC
    have okr := hp.ok.rows
    have oks := hp.ok.steps
    have rll := hp.rl
    have sll := hp.sl
    have nll := hp.nl
    simp only at okr oks rll sll nll
    refine ⟨_, (pss_cons (ps_asg (pv 0) (pg_tup rfl (pgs_cons (pg_name (i := 4) sc_chosen_by.nd rfl (.inl rfl)) (pgs_cons (pg_name (i := 5) sc_chosen_by.nd rfl (.inl rfl)) pgs_nil))))
     (pss_cons (ps_for (passes_of rfl) rfl (pi_list (pv 5)) (pg_name (i := 2) sc_chosen_by.nd rfl (.inl rfl))
     (pss_one (ps_if (pt_val (pe_kn Dbe (hr.mono (by decide)) rfl pass0 (pa_cons (pe_kn Dwo (hr.mono (by decide)) rfl pass0 (pa_cons (pv 2) (pa_cons (pv 1) (pa_cons (pe_lst pa_nil) pa_nil)))) (pa_cons (pe_gr rfl T.NOUGHT) pa_nil)))) (pss_one (ps_raise rfl (takes_of (E := E) rfl rfl rfl rfl) (pmk_own PySem.F.excBase_ValueError T.xC T.gC T.kC (raises_own T.bC T.tC) rfl))) pss_nil)))
     (pss_cons (ps_set (i := 3) sc_chosen_by.nd rfl (.inl rfl) (pe_lst pa_nil))
     (pss_cons (ps_for (passes_of rfl) rfl (pi_enum rfl T.enumerate (pa_cons (pv 4) pa_nil)) (pg_tup rfl (pgs_cons (pg_name (i := 6) sc_chosen_by.nd rfl (.inl rfl)) (pgs_cons (pg_name (i := 7) sc_chosen_by.nd rfl (.inl rfl)) pgs_nil)))
     (pss_cons (ps_set (i := 8) sc_chosen_by.nd rfl (.inl rfl) pe_non)
     (pss_cons (ps_for (passes_of rfl) rfl (pi_list (pe_ix ix_tup (pv 7) pe_int (fun _ _ => rfl))) (pg_name (i := 2) sc_chosen_by.nd rfl (.inl rfl))
     (pss_cons (ps_set (i := 9) sc_chosen_by.nd rfl (.inl rfl) (pe_kn Dov (hr.mono (by decide)) rfl pass0 (pa_cons (pe_kn Dmi (hr.mono (by decide)) rfl pass0 (pa_cons (pe_gr rfl T.NOUGHT) (pa_cons (pe_kn Dwo (hr.mono (by decide)) rfl pass0 (pa_cons (pv 2) (pa_cons (pv 1) (pa_cons (pv 3) pa_nil)))) pa_nil))) (pa_cons (pe_ix ix_list (pe_ix ix_tup (pv 2) pe_int (fun _ _ => rfl)) (pv 6) (fun _ _ => rfl)) pa_nil))))
     (pss_one (ps_if (PW.pt (pw_or (pt_cmpR op_isN (pv 8) pe_non (nomark _)) (pw_or1 (pt_val (pe_kn Dbe (hr.mono (by decide)) rfl pass0 (pa_cons (pv 8) (pa_cons (pv 9) pa_nil))))))) (pss_one (ps_set (i := 8) sc_chosen_by.nd rfl (.inl rfl) (pv 9))) pss_nil))))
     (pss_one (ps_expr (pe_bm PySem.F.plainAttrs_list PySem.F.slot_list_append PySem.F.type_list_append mt_append (pv 3) (pa_cons (pv 8) pa_nil)))))))
     (pss_one (ps_ret (pv 3))))))), ?_⟩
    refine q_asg (N := N) (ge_v (F := fU K) rfl h0) d fun v H2 s2 ⟨t, xs, xr, ev, ht, r1, r2⟩ => ?_
    subst ev
    refine n_tup2 ht ?_
    have d2 := d.same s2
    have m2 := (fQs K).same s2 h1
    refine q_for (N := N) (F := fR K) (ds := rows) (fun H1 i σ' H' => (∃ a, σ' = [some v0, some v1, a, none, some xs, some xr, none, none, none, none]) ∧ Same H1 H' ∧ ∀ r ∈ rows.take i, below (worth r made []) zero = false) (ge_v (F := fL (fR K)) rfl r2) d2 (fun H1 s1 => ⟨⟨_, rfl⟩, Same.refl _, fun r hr' => nomatch hr'⟩) (fun H1 i σ' H' s1 c => .of c.2.1) ?_ ?_
    · rintro H1 i r x σ' H' s1 hi rx ⟨⟨a, rfl⟩, s3, hn⟩
      have mr := List.mem_of_getElem? hi
      refine n_name ?_
      refine s_if (N := N) (b := below (worth r made []) zero) (gt_B (ge_b (ge_worth (ch := []) (ge_v (F := fR K) rfl rx) (ge_v (F := fQs K) rfl ((fQs K).same (s1.trans s3) m2)) (ge_lst (F := fQ K) ga_lnil (by simp)) (okr r mr).1 (rll r mr)) (ge_zero T) (okr r mr).2)) ((d2.same s1).same s3) (fun e H4 s4 => ?_) (fun e H4 s4 => ?_)
      · exact kR (List.any_eq_true.mpr ⟨r, mr, e⟩) H4 (((s2.trans s1).trans s3).trans s4)
      · refine ⟨⟨_, rfl⟩, s3.trans s4, fun z hz => ?_⟩
        rw [take_more hi] at hz
        rcases List.mem_append.mp hz with q | q
        · exact hn z q
        · rw [List.mem_singleton.mp q]; exact e
    · rintro H1 σ' H' s1 ⟨⟨a, rfl⟩, s3, hn⟩
      rw [List.take_length] at hn
      have hf : refused rows made = false := by
        unfold refused
        rw [List.any_eq_false]
        exact fun r hr' => by rw [hn r hr']; decide
      have kC' := kC hf
      have t3 := (s2.trans s1).trans s3
      have d3 := d.same t3
      refine q_mkL d3 fun l hl nl => ?_
      have uu : Up N (ad N l) H' (upd H' l (.lst [])) := .ad d3 hl
      have dd := uu.d
      have u13 : Same H2 H' := s1.trans s3
      refine q_forE (N := ad N l) (F := fS K) (ds := steps) (fun H1 i σ' H' => ∃ (ch : List Sh.Q) (a k st b w : Option V), σ' = [some v0, some v1, a, some (.ref l), some xs, some xr, k, st, b, w] ∧ ch.length = i ∧ choose (steps.drop i) made ch = choose steps made [] ∧ StOk made (steps.drop i) ch ∧ But l H1 H' ∧ Gw (ad N l) (fQ K) l ch H') (ge_v (F := fL (fS K)) rfl ((fL (fS K)).lift uu ((fL (fS K)).same u13 r1))) dd (fun H1 s1 => ⟨[], _, _, _, _, _, rfl, rfl, rfl, oks, .of (Same.refl _), .nil (s1 l _ upd_same)⟩) (fun H1 i σ' H' s1 ⟨_, _, _, _, _, _, _, _, _, _, c, _⟩ => c.kp ad_self (s1 l _ upd_same)) ?_ ?_
      · rintro H4 i s x σ' H5 H6 s4 hi s6 rx ⟨ch, a', k', st', b', w', rfl, hc, hch, hst, bt, gw⟩
        have gw6 := gw.same s6
        have kp6 : Kp (ad N l) (upd H' l (.lst [])) H6 := ((Kp.of s4).trans (bt.kp ad_self (s4 l _ upd_same))).trans (.of s6)
        have d6 : Dom (ad N l) H6 := (Dom.same dd s4).but (bt.trans (.of s6)) gw6.ne
        have d6N : Dom N H6 := fun b n => d6 b (.inl n)
        have m6 : (fQs K).r made N H6 v1 := (fQs K).dn (fun _ h => .inl h) ((fQs K).fr kp6 ((fQs K).lift uu ((fQs K).same u13 m2)))
        have rs6 : (fS K).r s N H6 x := (fS K).dn (fun _ h => .inl h) rx
        have ms := List.mem_of_getElem? hi
        have hdrop : steps.drop i = s :: steps.drop (i + 1) := by
          have e := List.getElem?_eq_some_iff.mp hi
          rw [List.drop_eq_getElem_cons e.1, e.2]
        rw [hdrop] at hch hst
        obtain ⟨g1, g2, g3, g4⟩ := hst
        refine q_setV (N := N) ge_c d6N fun H7 s7 => ?_
        have m7 := (fQs K).same s7 m6
        have gw7 := gw6.same s7
        have d7 := d6N.same s7
        refine q_for (N := N) (F := fR K) (ds := s.1) (fun H1 j σ' H' => ∃ (a w : Option V) (b : V), σ' = [some v0, some v1, a, some (.ref l), some xs, some xr, some (.int (i : Nat)), some x, some b, w] ∧ Same H1 H' ∧ rO K ((s.1.take j).foldl (fun best r => better best (lowest r made ch ch.length)) none) N H' b) (ge_p0 (F := fL (fR K)) (G := fL (fR K)) (ge_v (F := fS K) rfl ((fS K).same s7 rs6))) d7 (fun H1 s1 => ⟨_, _, _, rfl, Same.refl _, rfl⟩) (fun H1 j σ' H' s1 ⟨_, _, _, _, c, _⟩ => .of c) ?_ ?_
        · rintro H8 j r y σ' H9 s8 hj ry ⟨a9, w9, b9, rfl, s9, rb⟩
          have mr := List.mem_of_getElem? hj
          have lo := g2 r mr
          have t9 : Same H7 H9 := s8.trans s9
          have d9 := d7.same t9
          have gw9 : (fQs K).r ch N H9 (.ref l) := (gw7.same t9).done (fun _ h => .inl h) nl
          refine n_name ?_
          refine q_set (N := N) (ge_2 (pre := POv) (f := over) (q := minus zero (worth r made ch)) (r := at_ r.b ch.length) (ge_2 (ge_zero T) (ge_worth (ge_v (F := fR K) rfl ry) (ge_v (F := fQs K) rfl ((fQs K).same t9 m7)) (ge_v (F := fQs K) rfl gw9) lo.s (sll s ms r mr)) lo.m) (ge_ix (F := fQ K) (ge_rb (ge_v (F := fR K) rfl ry)) (ge_vi rfl) (by rw [hc]) (at_get lo.lt)) ⟨lo.o, lo.p⟩) d9 fun vw H10 s10 rw' => ?_
          have rb10 := rO_same s10 rb
          have hbt : ∀ b, (s.1.take j).foldl (fun best r => better best (lowest r made ch ch.length)) none = some b → PB b (lowest r made ch ch.length) := fun b e => by
            rcases best_mem (s.1.take j) none b e with q | ⟨r', hr', q⟩
            · cases q
            · rw [q]
              exact g3 r' (List.mem_of_mem_take hr') r mr
          refine s_if (N := N) (b := takes ((s.1.take j).foldl (fun best r => better best (lowest r made ch ch.length)) none) (lowest r made ch ch.length)) ?_ (d9.same s10) (fun e H11 s11 => ?_) (fun e H11 s11 => ?_)
          · generalize (s.1.take j).foldl (fun best r => better best (lowest r made ch ch.length)) none = ob at rb10 hbt
            cases ob with
            | none =>
              have eb : b9 = .non := rb10
              have g := gt_or (gt_test (ge_isN (σ := [some v0, some v1, some y, some (.ref l), some xs, some xr, some (.int (i : Nat)), some x, some b9, some vw]) (N := N) (H := H10) (i := 8) rfl)) (c' := tB (tCl (spB K) E0 (tCons (tVar 8) (tCons (tVar 9) tNil)))) (b' := true) (fun q => by rw [eb] at q; cases q)
              rw [eb] at g
              rw [eb]
              exact g
            | some q =>
              have rq : (fQ K).r q N H10 b9 := rb10
              have nb : decide (b9 = .non) = false := by
                obtain ⟨z, ez, _⟩ := rq
                rw [ez]
                rfl
              have g := gt_or (gt_test (ge_isN (σ := [some v0, some v1, some y, some (.ref l), some xs, some xr, some (.int (i : Nat)), some x, some b9, some vw]) (N := N) (H := H10) (i := 8) rfl)) (fun _ => gt_B (ge_b (E := E0) (ge_v (F := fQ K) (i := 8) rfl rq) (ge_v (F := fQ K) (i := 9) rfl rw') (hbt q rfl)))
              rw [nb, Bool.false_or] at g
              exact g
          · refine ⟨_, rfl, _, _, _, rfl, (s9.trans s10).trans s11, ?_⟩
            rw [take_more hj, List.foldl_append]
            show rO K (better _ _) _ _ _
            rw [better_yes e]
            exact (fQ K).same s11 rw'
          · refine ⟨_, _, _, rfl, (s9.trans s10).trans s11, ?_⟩
            rw [take_more hj, List.foldl_append]
            show rO K (better _ _) _ _ _
            rw [better_no e]
            exact rO_same s11 rb10
        · rintro H8 σ' H9 s8 ⟨a9, w9, b9, rfl, s9, rb⟩
          rw [List.take_length] at rb
          obtain ⟨q, eq⟩ := best_some (made := made) (ch := ch) (k := ch.length) s.1 none (.inl g1)
          rw [eq] at rb
          have rq : (fQ K).r q N H9 b9 := rb
          have t9 : Same H6 H9 := (s7.trans s8).trans s9
          have gw9 := gw6.same t9
          have d9 : Dom (ad N l) H9 := Dom.same d6 t9
          have rqA : (fQ K).r q (ad N l) H9 b9 := rq
          refine s_app (F := fQ K) (x := q) rfl (ga1 (ge_v (F := fQ K) rfl rqA) ((fQ K).mn _)) d9 ad_self gw9 (by have := (List.getElem?_eq_some_iff.mp hi).1; omega) fun H10 b10 gw10 => ?_
          have eb : bestOf s.1 made ch ch.length = some q := eq
          have hch' : choose (steps.drop (i + 1)) made (ch ++ [(bestOf s.1 made ch ch.length).getD zero]) = choose steps made [] := hch
          rw [eb] at hch' g4
          exact ⟨ch ++ [q], _, _, _, _, _, rfl, by rw [List.length_append, hc]; rfl, hch', g4, (bt.trans (.of (s6.trans t9))).trans b10, gw10⟩
      · rintro H4 σ' H5 s4 ⟨ch, a', k', st', b', w', rfl, hc, hch, hst, bt, gw⟩
        have hch' : ch = choose steps made [] := by
          rw [List.drop_length] at hch
          exact hch
        refine ⟨_, rfl, kC' _ H5 (Same.but ((t3.trans (same_new hl)).trans s4) bt (t3.free hl)) ?_⟩
        rw [← hch']
        exact gw.done (fun _ h => .inl h) nl
theorem kn_chosen_by (D : Df K mg "chosen_by" s_chosen_by) (T : Txt K mg aN aO aM aC) (Dwo : Kn P w K mg base CX0 4 "worth_of" ["row", "made", "choice"] (spWorth K)) (Dbe : Kn P w K mg base CX0 1 "below" ["q", "r"] (spB K)) (Dmi : Kn P w K mg base CX0 3 "minus" ["q", "r"] (sp2 K P2 minus)) (Dov : Kn P w K mg base CX0 3 "over" ["q", "r"] (sp2 K POv over)) : Kn P w K mg base (L2.CX P w) 5 "chosen_by" ["rule", "made"] (spChosen K aC) :=
  kn_of D (fun _ _ F => F.binds fun _ _ _ _ _ _ us hl => match us, hl with | [_, _], _ => rfl) fun _ _ F => ok_chosen_by F T Dwo Dbe Dmi Dov
end
end Sh
/-! the script, the law's own states -/
namespace Sh
open PySem PySem.Spec PyProof.Rows L2
/-- a written list -/
def KL (K : PySem.W.Frag) (a : Addr) (xs : List V) : Prop := SqL K (fun _ => none) a xs
theorem KL.sq {K : PySem.W.Frag} {H : Hp} {a : Addr} {xs : List V} (h : KL K a xs) : SqL K H a xs := h.elim (fun r => (rd_none r).elim) .inr
def fSc (K : PySem.W.Frag) : Fam (List Int) where
  r := fun ns N H v => ∃ a, v = .ref a ∧ ((Rd H a (.lst (ns.map V.int)) ∧ ¬ N a) ∨ KL K a (ns.map V.int))
  fr := fun k ⟨a, e, h⟩ => ⟨a, e, h.imp (fun ⟨r, n⟩ => ⟨r.imp (fun r => k.k a _ r n) fun ⟨o, r⟩ => ⟨o, k.k a _ r n⟩, n⟩) id⟩
  dn := fun i ⟨a, e, h⟩ => ⟨a, e, h.imp (fun ⟨r, n⟩ => ⟨r, fun z => n (i a z)⟩) id⟩
  up := fun i ⟨a, e, h⟩ => ⟨a, e, h.imp (fun ⟨r, n⟩ => ⟨r, fun z => (i a z).elim n fun q => by
    rcases r with r | ⟨o, r⟩ <;> rw [r] at q <;> cases q⟩) id⟩
section
variable {K : PySem.W.Frag} {σ : St} {N : AS} {H : Hp} {ta tb : TE} {ns : List Int}
theorem fSc_sq {v : V} (h : (fSc K).r ns N H v) : ∃ a, v = .ref a ∧ SqL K H a (ns.map V.int) := let ⟨a, e, h⟩ := h; ⟨a, e, h.elim (fun h => .inl h.1) KL.sq⟩
theorem fSc_of {a : Addr} (h : SqL K H a (ns.map V.int)) (n : ¬ N a) : (fSc K).r ns N H (.ref a) := ⟨a, rfl, h.imp (fun h => ⟨h, n⟩) .inr⟩
theorem ge_lenS (ha : Ge ta σ N H ((fSc K).r ns)) : Ge (tCB (fun xs H Q => ∃ p ys, xs = [.ref p] ∧ (SqL K H p ys ∨ SqT K H p ys) ∧ Q (.int ys.length) H) (tCons ta tNil)) σ N H (vI (ns.length : Int)) := fun N1 H1 u Q q =>
  ha N1 H1 u _ fun v H2 s2 h => by
    obtain ⟨a, e, h⟩ := fSc_sq h
    exact ⟨a, _, by rw [e], .inl h, q _ _ s2 (by show V.int _ = V.int _; rw [List.length_map])⟩
theorem ge_ixS {k : Nat} {i : Int} (ha : Ge ta σ N H ((fSc K).r ns)) (hb : Ge tb σ N H (vI (k : Int))) (hi : ns[k]? = some i) : Ge (tOp (rIxL K) ta tb) σ N H (vI i) :=
  ge_two ha ((fSc K).mn ns) hb fun N' H' x y _ h e2 Q q => by
    obtain ⟨a, e, h⟩ := fSc_sq h
    exact ⟨a, _, k, _, e, e2, h, atI_nat (by rw [List.getElem?_map, hi]; rfl), q _ H' (Same.refl _) rfl⟩
end
section
variable {P : Program} {w : World} {K : PySem.W.Frag} {mg : Str → Option Value} {base : Heap} {aN aO aM aC : Addr}
/-- some int -/
def vX (p : Int → Prop) : RP := fun _ _ v => ∃ i, v = .int i ∧ p i
theorem mn_X {p : Int → Prop} : Mn (vX p) := fun _ _ _ _ _ _ h => h
def spCell (K : PySem.W.Frag) : Sp := PSp (fun d : List Int × Nat => d.2 ≤ 1000) (fun d => A2 ((fSc K).r d.1) (vI (d.2 : Int))) (fun _ => vX fun _ => True)
theorem ge_cell {E : XK} {σ : St} {N : AS} {H : Hp} {ta tb : TE} {ns : List Int} {k : Nat} {i : Int} (ha : Ge ta σ N H ((fSc K).r ns)) (hb : Ge tb σ N H (vI i)) (ei : i = (k : Int)) (hk : k ≤ 1000) : Ge (tCl (spCell K) E (tCons ta (tCons tb tNil))) σ N H (vX fun _ => True) := by
  subst ei
  exact ge_call (x := (ns, k)) hk (ga2 ha ((fSc K).mn _) hb mn_I)
abbrev s_l_cell : Stmt := top 27
theorem sc_l_cell : FnScope ["script", "k"] ["script", "k"] (defScope s_l_cell) := ⟨rfl, rfl, rfl, by decide +kernel, rfl, by decide +kernel, by decide +kernel⟩
theorem small_mul {i j : Int} (hi : i.natAbs < 2 ^ 64) (hj : j.natAbs < 2 ^ 64) : CMulW i j := wide_mul hi hj (by decide) (by decide) (by decide)
theorem ok_l_cell {f : Addr} {fd : FuncData} (F : Fun K "_law_cell" "_law_cell" s_l_cell f fd) (T : Txt K mg aN aO aM aC) : FnOk P w K mg base CX0 1 f fd ["script", "k"] (spCell K) := by
  refine F.ok sc_l_cell (fun vs H Q E h => ?_) (fun cdv A outer s H vs Q E hr h => ?_)
  · obtain ⟨x, N, _, _, ⟨_, _, rfl, _⟩, _⟩ := h
    rfl
  · obtain ⟨⟨ns, n⟩, N, d, hn, ⟨v0, v1, rfl, h0, h1⟩, k⟩ := h
    simp only at hn h0 h1
    subst h1
    refine ⟨_, (pss_cons (ps_if (pt_cmpR op_lt (pv 1) (pe_callB call_len_seq rfl T.len (by decide +kernel) (pa_cons (pv 0) pa_nil)) (nomark _)) (pss_one (ps_ret (pe_ix ix_list (pv 0) (pv 1) (fun _ _ => rfl)))) pss_nil)
     (pss_one (ps_ret (pe_op op_add (pe_op op_add (pe_op op_mulW (pe_op op_mulW pe_int (pv 1)) (pv 1)) (pe_op op_mulW pe_int (pv 1))) pe_int)))), ?_⟩
    refine q_when (N := N) (b := decide ((n : Int) < (ns.length : Int))) (gt_test (ge_ltI (ge_vi rfl) (ge_lenS (ge_v (F := fSc K) rfl h0)))) d (fun e H2 s2 => ?_) (fun e H2 s2 => ?_)
    · have hl : n < ns.length := by
        have := of_decide_eq_true e
        omega
      exact s_ret (N := N) (ge_ixS (ge_v (F := fSc K) rfl ((fSc K).same s2 h0)) (ge_vi rfl) (List.getElem?_eq_getElem hl)) (d.same s2) fun v H3 s3 r => k v H3 (s2.trans s3) ⟨_, r, trivial⟩
    · have b1 : (5 * (n : Int)).natAbs ≤ 5000 := by omega
      have b2 : ((n : Int)).natAbs ≤ 1000 := by omega
      exact s_ret (N := N) (ge_addI (ge_addI (ge_mulI (ge_mulI ge_i (ge_vi rfl) (small_mul (by decide) (by omega))) (ge_vi rfl) (small_mul (by omega) (by omega))) (ge_mulI ge_i (ge_vi rfl) (small_mul (by decide) (by omega)))) ge_i) (d.same s2) fun v H3 s3 r => k v H3 (s2.trans s3) ⟨_, r, trivial⟩
theorem kn_l_cell (D : Df K mg "_law_cell" s_l_cell) (T : Txt K mg aN aO aM aC) : Kn P w K mg base CX0 1 "_law_cell" ["script", "k"] (spCell K) :=
  kn_of D (fun _ _ F => F.binds fun _ _ _ _ _ _ us hl => match us, hl with | [_, _], _ => rfl) fun _ _ F => ok_l_cell F T
/-! ### states -/
abbrev kR : Key := .inr "rest"
abbrev kM : Key := .inr "mixed"
abbrev kT : Key := .inr "turn"
def kv (r : Int) (m : Bool) (u : Int) : List (Key × V) := [(kR, .int r), (kM, .bl m), (kT, .int u)]
/-- a state at d, at most t turns on -/
def Sta (d : Addr) (t : Nat) (H : Hp) : Prop := ∃ r m u, H d = some (.dK (kv r m u)) ∧ u.natAbs ≤ t
theorem kv_r {r m u} : valV (kv r m u) kR = some (.int r) := by rfl
theorem kv_m {r m u} : valV (kv r m u) kM = some (.bl m) := by rfl
theorem kv_t {r m u} : valV (kv r m u) kT = some (.int u) := by rfl
theorem kv_pr {r m u r'} : putK (kv r m u) kR (.int r') = kv r' m u := by rfl
theorem kv_pt {r m u u'} : putK (kv r m u) kT (.int u') = kv r m u' := by rfl
theorem kv_mk {r m u} : mergeK [] [(kR, V.int r), (kM, .bl m), (kT, .int u)] = kv r m u := by rfl
end
end Sh
/-! states, turns -/
namespace Sh
open PySem PySem.Spec PyProof.Rows L2
section
variable {P : Program} {w : World} {K : PySem.W.Frag} {mg : Str → Option Value} {base : Heap} {aN aO aM aC : Addr}
def spState (K : PySem.W.Frag) : Sp := fun vs H Q _ => ∃ (ns : List Int) (n : Nat) (N : AS), Dom N H ∧ n ≤ 1000 ∧ A2 ((fSc K).r ns) (vI (n : Int)) N H vs ∧ ∀ d H', H d = none → Same H H' → Sta d n H' → Q (.ref d) H'
abbrev s_l_state : Stmt := top 28
theorem sc_l_state : FnScope ["script", "k"] ["script", "k"] (defScope s_l_state) := ⟨rfl, rfl, rfl, by decide +kernel, rfl, by decide +kernel, by decide +kernel⟩
theorem ge_eqX {σ : St} {N : AS} {H : Hp} {ta tb : TE} {p : Int → Prop} {j : Int} (ha : Ge ta σ N H (vX p)) (hb : Ge tb σ N H (vI j)) : Ge (tOp rEq ta tb) σ N H (fun _ _ v => ∃ b, v = .bl b) :=
  ge_two ha mn_X hb fun N' H' x y _ ⟨i, e1, _⟩ e2 Q q => by
    cases e1
    cases e2
    exact ⟨rfl, q _ H' (Same.refl _) ⟨_, rfl⟩⟩
theorem ge_modX {σ : St} {N : AS} {H : Hp} {ta tb : TE} {p : Int → Prop} {j : Int} (ha : Ge ta σ N H (vX p)) (hb : Ge tb σ N H (vI j)) (hj : 0 < j) : Ge (tOp (L2.rI (fun _ j => 0 < j) fun i j => .int (i % j)) ta tb) σ N H (vX fun z => 0 ≤ z ∧ z < j) :=
  ge_two ha mn_X hb fun N' H' x y _ ⟨i, e1, _⟩ e2 Q q => ⟨i, j, e1, e2, hj, q _ H' (Same.refl _) ⟨_, rfl, Int.emod_nonneg _ (by omega), Int.emod_lt_of_pos _ hj⟩⟩
theorem ok_l_state {f : Addr} {fd : FuncData} (F : Fun K "_law_state" "_law_state" s_l_state f fd) (T : Txt K mg aN aO aM aC) (Dce : Kn P w K mg base CX0 1 "_law_cell" ["script", "k"] (spCell K)) : FnOk P w K mg base CX0 2 f fd ["script", "k"] (spState K) := by
  refine F.ok sc_l_state (fun vs H Q E h => ?_) (fun cdv A outer s H vs Q E hr h => ?_)
  · obtain ⟨_, _, _, _, _, ⟨_, _, rfl, _⟩, _⟩ := h
    rfl
  · obtain ⟨ns, n, N, d, hn, ⟨v0, v1, rfl, h0, h1⟩, k⟩ := h
    subst h1
    refine ⟨_, (pss_one (ps_ret (pe_disp (pps_cons pe_str (pe_kn Dce (hr.mono (by decide)) rfl pass0 (pa_cons (pv 0) (pa_cons (pv 1) pa_nil))) (pps_cons pe_str (pe_cmpR op_eq (pe_op op_mod (pe_kn Dce (hr.mono (by decide)) rfl pass0 (pa_cons (pv 0) (pa_cons pe_int pa_nil))) pe_int) pe_int (nomark _)) (pps_cons pe_str (pv 1) pps_nil))) (by rfl) (by rfl) (fun z => by cases z) (by decide)))), ?_⟩
    intro p hp
    have s1 : Same H (upd H p (.dK [])) := same_new hp
    have d1 := d.same s1
    have g1 := ge_cell (K := K) (E := E0) (k := n) (ge_v (F := fSc K) (σ := [some v0, some (.int (n : Int))]) (i := 0) rfl ((fSc K).same s1 h0)) (ge_vi (i := 1) rfl) rfl hn
    refine g1 N _ (.refl d1) _ fun y H2 s2 ⟨i, ei, _⟩ => ?_
    subst ei
    have d2 := d1.same s2
    have g2 := ge_eqX (ge_modX (ge_cell (K := K) (E := E0) (k := 0) (ge_v (F := fSc K) (σ := [some v0, some (.int (n : Int))]) (i := 0) rfl ((fSc K).same (s1.trans s2) h0)) (ge_i (i := 0)) rfl (by decide)) (ge_i (i := 2)) (by decide)) (ge_i (i := 1))
    refine g2 N _ (.refl d2) _ fun y H3 s3 ⟨b, eb⟩ => ?_
    subst eb
    have hp3 : H3 p = some (.dK []) := (s2.trans s3) p _ upd_same
    refine ⟨_, rfl, hp3, [(kR, .int i), (kM, .bl b), (kT, .int (n : Int))], rfl, (by show 3 ≤ 15; decide), k p _ hp (Same.but (s1.trans (s2.trans s3)) But.upd hp) ⟨i, b, n, ?_, by omega⟩⟩
    rw [upd_same, kv_mk]
theorem kn_l_state (D : Df K mg "_law_state" s_l_state) (T : Txt K mg aN aO aM aC) (Dce : Kn P w K mg base CX0 1 "_law_cell" ["script", "k"] (spCell K)) : Kn P w K mg base CX0 2 "_law_state" ["script", "k"] (spState K) :=
  kn_of D (fun _ _ F => F.binds fun _ _ _ _ _ _ us hl => match us, hl with | [_, _], _ => rfl) fun _ _ F => ok_l_state F T Dce
/-! ### a turn -/
theorem dg_r {d : Addr} {H : Hp} {r m u} (h : H d = some (.dK (kv r m u))) : DGet H d (.str "rest") (some (.int r)) := by
  have := DGet.k (k := kR) h
  rw [kv_r] at this
  exact this
theorem dg_m {d : Addr} {H : Hp} {r m u} (h : H d = some (.dK (kv r m u))) : DGet H d (.str "mixed") (some (.bl m)) := by
  have := DGet.k (k := kM) h
  rw [kv_m] at this
  exact this
theorem dg_t {d : Addr} {H : Hp} {r m u} (h : H d = some (.dK (kv r m u))) : DGet H d (.str "turn") (some (.int u)) := by
  have := DGet.k (k := kT) h
  rw [kv_t] at this
  exact this
theorem dp_r {d : Addr} {H : Hp} {r m u r'} (h : H d = some (.dK (kv r m u))) : DPut H d (.str "rest") (.int r') (upd H d (.dK (kv r' m u))) := by
  have := DPut.k (k := kR) (v := .int r') h (line_lt (by decide : 3 < 16777216))
  rw [kv_pr] at this
  exact this
theorem dp_t {d : Addr} {H : Hp} {r m u u'} (h : H d = some (.dK (kv r m u))) : DPut H d (.str "turn") (.int u') (upd H d (.dK (kv r m u'))) := by
  have := DPut.k (k := kT) (v := .int u') h (line_lt (by decide : 3 < 16777216))
  rw [kv_pt] at this
  exact this
theorem upd_upd {H : Hp} {d : Addr} {o o' : HO} : upd (upd H d o) d o' = upd H d o' := by
  funext b
  unfold upd
  split <;> rfl
def spTake : Sp := fun vs H Q _ => ∃ (d : Addr) (t : Nat) (many : Int), vs = [.ref d, .int many] ∧ Sta d t H ∧ t ≤ 1000000 ∧ 0 < many ∧ many.natAbs < 2 ^ 64 ∧ ∀ x H', But d H H' → Sta d (t + 1) H' → 0 ≤ x → x < many → Q (.int x) H'
abbrev s_l_take : Stmt := top 29
theorem sc_l_take : FnScope ["state", "many", "stir", "found"] ["state", "many"] (defScope s_l_take) := ⟨rfl, rfl, rfl, by decide +kernel, rfl, by decide +kernel, by decide +kernel⟩
theorem ok_l_take {f : Addr} {fd : FuncData} (F : Fun K "_law_take" "_law_take" s_l_take f fd) (T : Txt K mg aN aO aM aC) : FnOk P w K mg base CX0 1 f fd ["state", "many"] spTake := by
  refine F.ok sc_l_take (fun vs H Q E h => ?_) (fun cdv A outer s H vs Q E hr h => ?_)
  · obtain ⟨_, _, _, rfl, _⟩ := h
    rfl
  · obtain ⟨d, t, many, rfl, ⟨r, m, u, hd, hu⟩, ht, h0, h64, k⟩ := h
    refine ⟨_, (pss_cons (ps_if (pt_not (pt_val (pe_dget (hu_of hr) (pv 0) pe_str (fun _ _ => rfl)))) (pss_cons (ps_set (i := 3) sc_l_take.nd rfl (.inl rfl) (pe_op op_mod (pe_dget (hu_of hr) (pv 0) pe_str (fun _ _ => rfl)) (pv 1)))
     (pss_cons (ps_dput (hu_of hr) (pv 0) pe_str (pe_op op_fdivW (pe_dget (hu_of hr) (pv 0) pe_str (fun _ _ => rfl)) (pv 1)) rfl)
     (pss_one (ps_ret (pv 3))))) pss_nil)
     (pss_cons (ps_dput (hu_of hr) (pv 0) pe_str (pe_op op_add (pe_dget (hu_of hr) (pv 0) pe_str (fun _ _ => rfl)) pe_int) rfl)
     (pss_cons (ps_set (i := 2) sc_l_take.nd rfl (.inl rfl) (pe_op op_mod (pe_op op_add (pe_op op_mod (pe_dget (hu_of hr) (pv 0) pe_str (fun _ _ => rfl)) pe_int) (pe_op op_mulW pe_int (pe_dget (hu_of hr) (pv 0) pe_str (fun _ _ => rfl)))) pe_int))
     (pss_cons (ps_set (i := 2) sc_l_take.nd rfl (.inl rfl) (pe_op op_mod (pe_op op_mulW (pv 2) (pv 2)) pe_int))
     (pss_cons (ps_dput (hu_of hr) (pv 0) pe_str (pe_op op_mod (pe_op op_add (pe_op op_mulW (pv 2) pe_int) pe_int) pe_int) rfl)
     (pss_one (ps_ret (pe_op op_mod (pe_op op_fdivW (pe_dget (hu_of hr) (pv 0) pe_str (fun _ _ => rfl)) pe_int) (pv 1))))))))), ?_⟩
    have cd : ∀ i : Int, CDivW i many := fun i => wide_div (b := 64) h0 h64 (by decide) (by decide)
    refine ⟨_, rfl, d, _, rfl, dg_m hd, m, rfl, ?_⟩
    cases m with
    | false =>
      refine iteT ?_
      refine ⟨_, rfl, d, _, rfl, dg_r hd, _, rfl, _, _, rfl, rfl, h0, ?_⟩
      refine ⟨_, rfl, d, _, rfl, dg_r hd, _, rfl, _, _, rfl, rfl, cd _, _, rfl, d, _, rfl, dp_r hd, ?_⟩
      exact ⟨_, rfl, k _ _ But.upd ⟨_, _, _, upd_same, by omega⟩ (Int.emod_nonneg _ (by omega)) (Int.emod_lt_of_pos _ h0)⟩
    | true =>
      refine iteF ?_
      refine ⟨_, rfl, d, _, rfl, dg_t hd, _, _, rfl, rfl, _, rfl, d, _, rfl, dp_t hd, ?_⟩
      have hd1 : (upd H d (.dK (kv r true (u + 1)))) d = some (.dK (kv r true (u + 1))) := upd_same
      refine ⟨_, rfl, d, _, rfl, dg_r hd1, _, _, rfl, rfl, (show (0 : Int) < 2147483579 from by decide), _, rfl, d, _, rfl, dg_t hd1, _, _, rfl, rfl, small_mul (by decide) (by omega), _, _, rfl, rfl, _, _, rfl, rfl, (show (0 : Int) < 2147483579 from by decide), ?_⟩
      generalize hx : (r % 2147483579 + 70001 * (u + 1)) % 2147483579 = x
      have hx0 : 0 ≤ x := by rw [← hx]; exact Int.emod_nonneg _ (by decide)
      have hx1 : x < 2147483579 := by rw [← hx]; exact Int.emod_lt_of_pos _ (by decide)
      refine ⟨_, rfl, _, rfl, _, _, rfl, rfl, small_mul (by omega) (by omega), _, _, rfl, rfl, (show (0 : Int) < 2147483563 from by decide), ?_⟩
      generalize hy : x * x % 2147483563 = y
      have hy0 : 0 ≤ y := by rw [← hy]; exact Int.emod_nonneg _ (by decide)
      have hy1 : y < 2147483563 := by rw [← hy]; exact Int.emod_lt_of_pos _ (by decide)
      refine ⟨_, rfl, _, _, rfl, rfl, small_mul (by omega) (by decide), _, _, rfl, rfl, _, _, rfl, rfl, (show (0 : Int) < 2147483579 from by decide), _, rfl, d, _, rfl, dp_r hd1, ?_⟩
      rw [upd_upd]
      have hd2 : ∀ z, (upd H d (.dK (kv z true (u + 1)))) d = some (.dK (kv z true (u + 1))) := fun z => upd_same
      refine ⟨_, rfl, d, _, rfl, dg_r (hd2 _), _, _, rfl, rfl, wide_div (b := 64) (by decide) (by decide) (by decide) (by decide), _, rfl, _, _, rfl, rfl, h0, ?_⟩
      exact k _ _ But.upd ⟨_, _, _, upd_same, by omega⟩ (Int.emod_nonneg _ (by omega)) (Int.emod_lt_of_pos _ h0)
theorem kn_l_take (D : Df K mg "_law_take" s_l_take) (T : Txt K mg aN aO aM aC) : Kn P w K mg base CX0 1 "_law_take" ["state", "many"] spTake :=
  kn_of D (fun _ _ F => F.binds fun _ _ _ _ _ _ us hl => match us, hl with | [_, _], _ => rfl) fun _ _ F => ok_l_take F T
end
end Sh
/-! what is read off a state -/
namespace Sh
open PySem PySem.Spec PyProof.Rows L2
/-- a datum with p -/
def rX {α : Type} (F : Fam α) (p : α → Prop) : RP := fun N H v => ∃ x, F.r x N H v ∧ p x
theorem mn_rX {α : Type} {F : Fam α} {p : α → Prop} : Mn (rX F p) := fun N N' H H' v u ⟨x, r, h⟩ => ⟨x, F.lift u r, h⟩
theorem But.refl {p : Addr} {H : Hp} : But p H H := fun _ _ e _ => e
theorem Sta.ne {d : Addr} {t : Nat} {H : Hp} (h : Sta d t H) : H d ≠ none := let ⟨_, _, _, e, _⟩ := h; by rw [e]; simp
theorem Sta.mono {d : Addr} {t t' : Nat} {H : Hp} (h : Sta d t H) (l : t ≤ t') : Sta d t' H := let ⟨r, m, u, e, hu⟩ := h; ⟨r, m, u, e, Nat.le_trans hu l⟩
theorem Sta.same {d : Addr} {t : Nat} {H H' : Hp} (h : Sta d t H) (s : Same H H') : Sta d t H' := let ⟨r, m, u, e, hu⟩ := h; ⟨r, m, u, s d _ e, hu⟩
theorem Sta.kp {N : AS} {d : Addr} {t : Nat} {H H' : Hp} (h : Sta d t H) (b : But d H H') (n : N d) : Kp N H H' := let ⟨_, _, _, e, _⟩ := h; b.kpD n e
/-- told behind a change at d, too -/
def Ks (N : AS) (R : RP) : Prop := ∀ H H' v, Kp N H H' → R N H v → R N H' v
theorem ks_X {N : AS} {p : Int → Prop} : Ks N (vX p) := fun _ _ _ _ h => h
theorem ks_F {α : Type} {N : AS} {F : Fam α} {x : α} : Ks N (F.r x) := fun _ _ _ k h => F.fr k h
theorem ks_rX {α : Type} {N : AS} {F : Fam α} {p : α → Prop} : Ks N (rX F p) := fun _ _ _ k ⟨x, r, h⟩ => ⟨x, F.fr k r, h⟩
/-- what an expression comes to that may turn the state at d on: from t turns to t' -/
def Gd (te : TE) (σ : St) (N : AS) (d : Addr) (t t' : Nat) (H : Hp) (R : RP) : Prop := ∀ H1, But d H H1 → Sta d t H1 → ∀ Q : VK, (∀ v H2, But d H1 H2 → Sta d t' H2 → R N H2 v → Q v H2) → te σ H1 Q
section
variable {K : PySem.W.Frag} {σ : St} {N : AS} {d : Addr} {t t1 t' : Nat} {H : Hp} {ta tb te : TE} {R S T : RP} {E : XK} {p q : Int → Prop} {α : Type} {F : Fam α}
theorem Gd.imp (g : Gd te σ N d t t' H R) (h : ∀ H v, R N H v → S N H v) : Gd te σ N d t t' H S := fun H1 b s Q k => g H1 b s Q fun v H2 b2 s2 r => k v H2 b2 s2 (h H2 v r)
theorem Gd.from (g : Gd te σ N d t t' H R) {H' : Hp} (b : But d H H') : Gd te σ N d t t' H' R := fun H1 b1 s Q k => g H1 (b.trans b1) s Q k
theorem gd_const {z : Int} (h : ∀ H1 (Q : VK), Q (.int z) H1 → te σ H1 Q) : Gd te σ N d t t H (vX fun i => i = z) := fun H1 b s Q k => h H1 Q (k _ H1 .refl s ⟨z, rfl, rfl⟩)
theorem gd_i {z : Int} : Gd (tC (.int z)) σ N d t t H (vX fun i => i = z) := gd_const fun H1 Q h => h
theorem gd_v {i : Nat} {v : V} (h : σ[i]? = some (some v)) (hs : Sta d t1 H) (nd : N d) (ks : Ks N R) (r : R N H v) : Gd (tVar i) σ N d t t H R := fun H1 b s Q k => ⟨v, h, k v H1 .refl s (ks _ _ _ (hs.kp b nd) r)⟩
theorem gd_ge {m : Nat} (hs : Sta d m H) (nd : N d) (dN : Dom N H) (g : ∀ H1, Kp N H H1 → Ge te σ N H1 R) : Gd te σ N d t t H R := fun H1 b s Q k => g H1 (hs.kp b nd) N H1 (.refl (dN.but b s.ne)) Q fun v H2 s2 r => k v H2 (.of s2) (s.same s2) r
theorem gd_take {i : Nat} {many : Int} {tm : TE} (h : σ[i]? = some (some (.ref d))) (hm : ∀ H1, But d H H1 → Sta d t H1 → ∀ Q : VK, (∀ H2, Same H1 H2 → Q (.int many) H2) → tm σ H1 Q) (ht : t ≤ 1000000) (h0 : 0 < many) (h64 : many.natAbs < 2 ^ 64) :
    Gd (tCl spTake E (tCons (tVar i) (tCons tm tNil))) σ N d t (t + 1) H (vX fun z => 0 ≤ z ∧ z < many) := fun H1 b s Q k =>
  ⟨_, h, hm H1 b s _ fun H2 s2 => ⟨d, t, many, rfl, s.same s2, ht, h0, h64, fun x H' b' s' x0 x1 => k _ H' ((But.of s2).trans b') s' ⟨x, rfl, x0, x1⟩⟩⟩
theorem gd_takeC {i : Nat} {many : Int} (h : σ[i]? = some (some (.ref d))) (ht : t ≤ 1000000) (h0 : 0 < many) (h64 : many.natAbs < 2 ^ 64) :
    Gd (tCl spTake E (tCons (tVar i) (tCons (tC (.int many)) tNil))) σ N d t (t + 1) H (vX fun z => 0 ≤ z ∧ z < many) := gd_take h (fun H1 _ _ Q q => q H1 (Same.refl _)) ht h0 h64
theorem gd_two {r : R2} (nd : N d) (ha : Gd ta σ N d t t1 H R) (ks : Ks N R) (hb : Gd tb σ N d t1 t' H S) (h : ∀ H' x y, R N H' x → S N H' y → ∀ Q : VK, (∀ v, T N H' v → Q v H') → r x y H' Q) : Gd (tOp r ta tb) σ N d t t' H T := fun H1 b s Q k =>
  ha H1 b s _ fun x H2 b2 s2 rx => hb H2 (b.trans b2) s2 _ fun y H3 b3 s3 ry => h H3 x y (ks _ _ _ (s2.kp b3 nd) rx) ry Q fun v rv => k v H3 (b2.trans b3) s3 rv
theorem gd_add (nd : N d) (ha : Gd ta σ N d t t1 H (vX p)) (hb : Gd tb σ N d t1 t' H (vX q)) : Gd (tOp (rI0 fun i j => .int (i + j)) ta tb) σ N d t t' H (vX fun z => ∃ x y, p x ∧ q y ∧ z = x + y) :=
  gd_two nd ha ks_X hb fun H' x y ⟨i, e1, h1⟩ ⟨j, e2, h2⟩ Q k => ⟨i, j, e1, e2, k _ ⟨_, rfl, i, j, h1, h2, rfl⟩⟩
theorem gd_sub (nd : N d) (ha : Gd ta σ N d t t1 H (vX p)) (hb : Gd tb σ N d t1 t' H (vX q)) : Gd (tOp (rI0 fun i j => .int (i - j)) ta tb) σ N d t t' H (vX fun z => ∃ x y, p x ∧ q y ∧ z = x - y) :=
  gd_two nd ha ks_X hb fun H' x y ⟨i, e1, h1⟩ ⟨j, e2, h2⟩ Q k => ⟨i, j, e1, e2, k _ ⟨_, rfl, i, j, h1, h2, rfl⟩⟩
/-- two arguments -/
theorem gd_args {sp : Sp} (nd : N d) (ha : Gd ta σ N d t t1 H R) (ks : Ks N R) (hb : Gd tb σ N d t1 t' H S) (h : ∀ H' x y, R N H' x → S N H' y → H' d ≠ none → ∀ Q : VK, (∀ v H2, Same H' H2 → T N H2 v → Q v H2) → sp [x, y] H' Q E) : Gd (tCl sp E (tCons ta (tCons tb tNil))) σ N d t t' H T := fun H1 b s Q k =>
  ha H1 b s _ fun x H2 b2 s2 rx => hb H2 (b.trans b2) s2 _ fun y H3 b3 s3 ry => h H3 x y (ks _ _ _ (s2.kp b3 nd) rx) ry s3.ne Q fun v H4 s4 rv => k v H4 ((b2.trans b3).trans (.of s4)) (s3.same s4) rv
end
/-- a world over whatever H: only d is being built -/
def At1 (d : Addr) : AS := fun a => a = d
theorem dom1 {d : Addr} {H : Hp} (h : H d ≠ none) : Dom (At1 d) H := fun a e => by rw [e]; exact h
section
variable {K : PySem.W.Frag} {σ : St} {N : AS} {d : Addr} {t t1 t' : Nat} {H : Hp} {ta tb te : TE} {E : XK} {p q : Int → Prop} {p2 q2 : Q → Prop}
theorem gd_fr (nd : N d) (ha : Gd ta σ N d t t1 H (vX p)) (hb : Gd tb σ N d t1 t' H (vX q)) (hq : ∀ y, q y → 0 < y ∧ y.natAbs < 2 ^ 64) : Gd (tCl (spFr K) E (tCons ta (tCons tb tNil))) σ N d t t' H (rX (fQ K) fun z => ∃ x y, p x ∧ q y ∧ z = fr x y) :=
  gd_args nd ha ks_X hb fun H' x y ⟨i, e1, h1⟩ ⟨j, e2, h2⟩ hne Q k => ⟨(i, j), At1 d, dom1 hne, ⟨(hq j h2).1, Nat.lt_of_lt_of_le (hq j h2).2 (pow_le2 (by decide))⟩, ⟨x, y, rfl, e1, e2⟩, fun v H2 s r => k v H2 s ⟨_, r, i, j, h1, h2, rfl⟩⟩
theorem gd_2 {pre : Q → Q → Prop} {f : Q → Q → Q} (nd : N d) (ha : Gd ta σ N d t t1 H (rX (fQ K) p2)) (hb : Gd tb σ N d t1 t' H (rX (fQ K) q2)) (hq : ∀ x y, p2 x → q2 y → pre x y) : Gd (tCl (sp2 K pre f) E (tCons ta (tCons tb tNil))) σ N d t t' H (rX (fQ K) fun z => ∃ x y, p2 x ∧ q2 y ∧ z = f x y) :=
  gd_args nd ha ks_rX hb fun H' x y ⟨i, r1, h1⟩ ⟨j, r2, h2⟩ hne Q k => ⟨(i, j), At1 d, dom1 hne, hq i j h1 h2, ⟨x, y, rfl, r1, r2⟩, fun v H2 s r => k v H2 s ⟨_, r, i, j, h1, h2, rfl⟩⟩
theorem gd_mkQ (nd : N d) (ha : Gd ta σ N d t t1 H (vX p)) (hb : Gd tb σ N d t1 t' H (vX q)) : Gd (tTup (tCons ta (tCons tb tNil))) σ N d t t' H (rX (fQ K) fun z => ∃ x y, p x ∧ q y ∧ z = (x, y)) := fun H1 b s Q k =>
  ha H1 b s _ fun x H2 b2 s2 ⟨i, e1, h1⟩ => hb H2 (b.trans b2) s2 _ fun y H3 b3 s3 ⟨j, e2, h2⟩ => ⟨line_le (by decide : 2 ≤ 16777216), fun a ha' => k _ _ ((b2.trans b3).trans (.of (same_new ha'))) (s3.same (same_new ha')) ⟨(i, j), ⟨a, rfl, .inl (by rw [upd_same, e1, e2])⟩, i, j, h1, h2, rfl⟩⟩
theorem gd_mkB (nd : N d) (ha : Gd ta σ N d t t1 H (rX (fQ K) p2)) (hb : Gd tb σ N d t1 t' H (rX (fQ K) q2)) : Gd (tTup (tCons ta (tCons tb tNil))) σ N d t t' H (rX (fB K) fun z => p2 z.1 ∧ q2 z.2) := fun H1 b s Q k =>
  ha H1 b s _ fun x H2 b2 s2 ⟨i, e1, h1⟩ => hb H2 (b.trans b2) s2 _ fun y H3 b3 s3 ⟨j, e2, h2⟩ => ⟨line_le (by decide : 2 ≤ 16777216), fun a ha' => k _ _ ((b2.trans b3).trans (.of (same_new ha'))) (s3.same (same_new ha')) ⟨(i, j), ⟨a, x, y, rfl, .inl upd_same, (fQ K).same (same_new ha') ((fQ K).fr (s2.kp b3 nd) e1), (fQ K).same (same_new ha') e2⟩, h1, h2⟩⟩
/-- a promise upon a state -/
def spD (c : Nat) (R : RP) : Sp := fun vs H Q _ => ∃ (d : Addr) (t : Nat), vs = [.ref d] ∧ Sta d t H ∧ t + c ≤ 1000000 ∧ ∀ v H', But d H H' → Sta d (t + c) H' → R (At1 d) H' v → Q v H'
theorem gd_call {c i : Nat} {R S : RP} (h : σ[i]? = some (some (.ref d))) (ht : t + c ≤ 1000000) (hR : ∀ H v, R (At1 d) H v → S N H v) : Gd (tCl (spD c R) E (tCons (tVar i) tNil)) σ N d t (t + c) H S := fun H1 b s Q k =>
  ⟨_, h, d, t, rfl, s, ht, fun v H' b' s' r => k v H' b' s' (hR H' v r)⟩
end
section
variable {σ : St} {N : AS} {d : Addr} {t t' : Nat} {H : Hp} {te : TE} {R : RP} {D : Ends} {u : TS} {i : Nat}
theorem sd_ret (g : Gd te σ N d t t' H R) (s : Sta d t H) (k : ∀ v H2, But d H H2 → Sta d t' H2 → R N H2 v → D.rt v H2) : tRet te D σ H := g H .refl s _ k
theorem sd_set (g : Gd te σ N d t t' H R) (s : Sta d t H) (k : ∀ v H2, But d H H2 → Sta d t' H2 → R N H2 v → D.nx (σ.set i (some v)) H2) : tAsg te (gName i) D σ H := g H .refl s _ k
theorem qd_set (g : Gd te σ N d t t' H R) (s : Sta d t H) (k : ∀ v H2, But d H H2 → Sta d t' H2 → R N H2 v → u D (σ.set i (some v)) H2) : tSeq (tAsg te (gName i)) u D σ H := g H .refl s _ k
end
section
variable {P : Program} {w : World} {K : PySem.W.Frag} {mg : Str → Option Value} {base : Heap} {aN aO aM aC : Addr}
def spSome (K : PySem.W.Frag) : Sp := spD 3 (rX (fQ K) SomeQ)
def spWeight (K : PySem.W.Frag) : Sp := spD 3 (rX (fQ K) WeightQ)
def spBounds (K : PySem.W.Frag) : Sp := spD 5 (rX (fB K) BoundOk)
theorem p64 {y : Int} {n : Int} (h0 : 0 ≤ y) (h1 : y < n) (hn : n ≤ 1000) : 0 < 1 + y ∧ (1 + y).natAbs < 2 ^ 64 := ⟨by omega, by omega⟩
abbrev s_l_some : Stmt := top 34
theorem sc_l_some : FnScope ["state", "kind"] ["state"] (defScope s_l_some) := ⟨rfl, rfl, rfl, by decide +kernel, rfl, by decide +kernel, by decide +kernel⟩
theorem ok_l_some {f : Addr} {fd : FuncData} (F : Fun K "_law_some" "_law_some" s_l_some f fd) (Dta : Kn P w K mg base CX0 1 "_law_take" ["state", "many"] spTake) (Dfr : Kn P w K mg base CX0 1 "_law_frac" ["top", "bottom"] (spFr K)) : FnOk P w K mg base CX0 2 f fd ["state"] (spSome K) := by
  refine F.ok sc_l_some (fun vs H Q E h => ?_) (fun cdv A outer s H vs Q E hr h => ?_)
  · obtain ⟨_, _, rfl, _⟩ := h
    rfl
  · obtain ⟨d, t, rfl, hs, ht, k⟩ := h
    refine ⟨_, (pss_cons (ps_set (i := 1) sc_l_some.nd rfl (.inl rfl) (pe_kn Dta (hr.mono (by decide)) rfl pass0 (pa_cons (pv 0) (pa_cons pe_int pa_nil))))
     (pss_cons (ps_if (pt_cmpR op_eq (pv 1) pe_int (nomark _)) (pss_one (ps_ret (pe_kn Dfr (hr.mono (by decide)) rfl pass0 (pa_cons (pe_op op_sub (pe_kn Dta (hr.mono (by decide)) rfl pass0 (pa_cons (pv 0) (pa_cons (pe_op op_pow pe_int pe_int) pa_nil))) (pe_op op_mulW pe_int (pe_op op_pow pe_int pe_int))) (pa_cons (pe_op op_add pe_int (pe_kn Dta (hr.mono (by decide)) rfl pass0 (pa_cons (pv 0) (pa_cons pe_int pa_nil)))) pa_nil))))) pss_nil)
     (pss_cons (ps_if (pt_cmpR op_lt (pv 1) pe_int (nomark _)) (pss_one (ps_ret (pe_tup (pa_cons (pe_op op_sub (pe_kn Dta (hr.mono (by decide)) rfl pass0 (pa_cons (pv 0) (pa_cons pe_int pa_nil))) pe_int) (pa_cons pe_int pa_nil))))) pss_nil)
     (pss_one (ps_ret (pe_kn Dfr (hr.mono (by decide)) rfl pass0 (pa_cons (pe_op op_sub (pe_kn Dta (hr.mono (by decide)) rfl pass0 (pa_cons (pv 0) (pa_cons pe_int pa_nil))) pe_int) (pa_cons (pe_op op_add pe_int (pe_kn Dta (hr.mono (by decide)) rfl pass0 (pa_cons (pv 0) (pa_cons pe_int pa_nil)))) pa_nil)))))))), ?_⟩
    have nd : At1 d d := rfl
    refine qd_set (N := At1 d) (t := t) (t' := t + 1) (gd_takeC rfl (by omega) (by decide) (by decide)) hs fun v H2 b2 s2 ⟨kind, ev, k0, k1⟩ => ?_
    subst ev
    have d2 := dom1 s2.ne
    refine q_when (N := At1 d) (b := decide (kind = 7)) (gt_test (ge_eqI (ge_vi rfl) ge_i)) d2 (fun e H3 s3 => ?_) (fun e H3 s3 => ?_)
    · refine sd_ret (N := At1 d) (t := t + 1) (t' := t + 1 + 1 + 1) (gd_fr nd (gd_sub nd (gd_take (many := 1000000000000) rfl (fun H1 _ _ Q q => ⟨10, 12, rfl, rfl, ⟨by decide, by decide, by decide⟩, q H1 (Same.refl _)⟩) (by omega) (by decide) (by decide)) (gd_const (z := 500000000000) fun H1 Q q => ⟨10, 11, rfl, rfl, ⟨by decide, by decide, by decide⟩, 5, 100000000000, rfl, rfl, small_mul (by decide) (by decide), q⟩)) (gd_add nd gd_i (gd_takeC rfl (by omega) (by decide) (by decide))) ?_) (s2.same s3) fun v H4 b4 s4 r => k v H4 ((b2.trans (.of s3)).trans b4) s4 ?_
      · rintro y ⟨a, b, rfl, ⟨hb0, hb1⟩, rfl⟩
        exact p64 hb0 hb1 (by decide)
      · obtain ⟨q, rq, x, y, ⟨x1, x2, ⟨a0, a1⟩, rfl, rfl⟩, ⟨y1, y2, rfl, ⟨c0, c1⟩, rfl⟩, rfl⟩ := r
        exact ⟨_, rq, some_big a0 a1 c0 c1⟩
    have d3 := d2.same s3
    refine q_when (N := At1 d) (b := decide (kind < 3)) (gt_test (ge_ltI (ge_vi rfl) ge_i)) d3 (fun e H4 s4 => ?_) (fun e H4 s4 => ?_)
    · refine sd_ret (N := At1 d) (t := t + 1) (t' := t + 1 + 1) (gd_mkQ (K := K) nd (gd_sub nd (gd_takeC rfl (by omega) (by decide) (by decide)) gd_i) gd_i) ((s2.same s3).same s4) fun v H5 b5 s5 r => k v H5 ((b2.trans (.of (s3.trans s4))).trans b5) (s5.mono (by omega)) ?_
      obtain ⟨q, rq, x, y, ⟨x1, x2, ⟨a0, a1⟩, rfl, rfl⟩, rfl, rfl⟩ := r
      exact ⟨_, rq, some_int a0 a1⟩
    · refine sd_ret (N := At1 d) (t := t + 1) (t' := t + 1 + 1 + 1) (gd_fr nd (gd_sub nd (gd_takeC rfl (by omega) (by decide) (by decide)) gd_i) (gd_add nd gd_i (gd_takeC rfl (by omega) (by decide) (by decide))) ?_) ((s2.same s3).same s4) fun v H5 b5 s5 r => k v H5 ((b2.trans (.of (s3.trans s4))).trans b5) s5 ?_
      · rintro y ⟨a, b, rfl, ⟨hb0, hb1⟩, rfl⟩
        exact p64 hb0 hb1 (by decide)
      · obtain ⟨q, rq, x, y, ⟨x1, x2, ⟨a0, a1⟩, rfl, rfl⟩, ⟨y1, y2, rfl, ⟨c0, c1⟩, rfl⟩, rfl⟩ := r
        exact ⟨_, rq, some_mid a0 a1 c0 c1⟩
theorem kn_l_some (D : Df K mg "_law_some" s_l_some) (Dta : Kn P w K mg base CX0 1 "_law_take" ["state", "many"] spTake) (Dfr : Kn P w K mg base CX0 1 "_law_frac" ["top", "bottom"] (spFr K)) : Kn P w K mg base CX0 2 "_law_some" ["state"] (spSome K) :=
  kn_of D (fun _ _ F => F.binds fun _ _ _ _ _ _ us hl => match us, hl with | [_], _ => rfl) fun _ _ F => ok_l_some F Dta Dfr
end
end Sh
/-! weights, bounds -/
namespace Sh
open PySem PySem.Spec PyProof.Rows L2
section
variable {P : Program} {w : World} {K : PySem.W.Frag} {mg : Str → Option Value} {base : Heap} {aN aO aM aC : Addr}
abbrev s_l_weight : Stmt := top 35
theorem sc_l_weight : FnScope ["state", "some", "kind"] ["state"] (defScope s_l_weight) := ⟨rfl, rfl, rfl, by decide +kernel, rfl, by decide +kernel, by decide +kernel⟩
theorem ge_neg {σ : St} {N : AS} {H : Hp} {i : Int} : Ge (tUn (rU fun i => .int (-i)) (tC (.int i))) σ N H (vI (-i)) := ge_un ge_i
theorem ok_l_weight {f : Addr} {fd : FuncData} (F : Fun K "_law_weight" "_law_weight" s_l_weight f fd) (Dta : Kn P w K mg base CX0 1 "_law_take" ["state", "many"] spTake) (Dfr : Kn P w K mg base CX0 1 "_law_frac" ["top", "bottom"] (spFr K)) : FnOk P w K mg base CX0 2 f fd ["state"] (spWeight K) := by
  refine F.ok sc_l_weight (fun vs H Q E h => ?_) (fun cdv A outer s H vs Q E hr h => ?_)
  · obtain ⟨_, _, rfl, _⟩ := h
    rfl
  · obtain ⟨d, t, rfl, hs, ht, k⟩ := h
    refine ⟨_, (pss_cons (ps_set (i := 1) sc_l_weight.nd rfl (.inl rfl) (pe_lst (pa_cons (pe_tup (pa_cons pe_int (pa_cons pe_int pa_nil))) (pa_cons (pe_tup (pa_cons pe_int (pa_cons pe_int pa_nil))) (pa_cons (pe_tup (pa_cons pe_int (pa_cons pe_int pa_nil))) (pa_cons (pe_tup (pa_cons (pe_un un_neg pe_int) (pa_cons pe_int pa_nil))) (pa_cons (pe_tup (pa_cons pe_int (pa_cons pe_int pa_nil))) (pa_cons (pe_tup (pa_cons (pe_un un_neg pe_int) (pa_cons pe_int pa_nil))) (pa_cons (pe_tup (pa_cons pe_int (pa_cons pe_int pa_nil))) (pa_cons (pe_tup (pa_cons (pe_un un_neg pe_int) (pa_cons pe_int pa_nil))) (pa_cons (pe_tup (pa_cons pe_int (pa_cons pe_int pa_nil))) (pa_cons (pe_tup (pa_cons (pe_un un_neg pe_int) (pa_cons pe_int pa_nil))) pa_nil))))))))))))
     (pss_cons (ps_set (i := 2) sc_l_weight.nd rfl (.inl rfl) (pe_kn Dta (hr.mono (by decide)) rfl pass0 (pa_cons (pv 0) (pa_cons pe_int pa_nil))))
     (pss_cons (ps_if (pt_cmpR op_lt (pv 2) pe_int (nomark _)) (pss_one (ps_ret (pe_ix ix_list (pv 1) (pv 2) (fun _ _ => rfl)))) pss_nil)
     (pss_one (ps_ret (pe_kn Dfr (hr.mono (by decide)) rfl pass0 (pa_cons (pe_op op_sub (pe_kn Dta (hr.mono (by decide)) rfl pass0 (pa_cons (pv 0) (pa_cons pe_int pa_nil))) pe_int) (pa_cons (pe_op op_add pe_int (pe_kn Dta (hr.mono (by decide)) rfl pass0 (pa_cons (pv 0) (pa_cons pe_int pa_nil)))) pa_nil)))))))), ?_⟩
    have nd : At1 d d := rfl
    have d0 : Dom (At1 d) H := dom1 hs.ne
    refine q_set (N := At1 d) (ge_lst (F := fQ K) (ds := weights) (ga_lcons (ge_mkQ ge_i ge_i) (ga_lcons (ge_mkQ ge_i ge_i) (ga_lcons (ge_mkQ ge_i ge_i) (ga_lcons (ge_mkQ ge_neg ge_i) (ga_lcons (ge_mkQ ge_i ge_i) (ga_lcons (ge_mkQ ge_neg ge_i) (ga_lcons (ge_mkQ ge_i ge_i) (ga_lcons (ge_mkQ ge_neg ge_i) (ga_lcons (ge_mkQ ge_i ge_i) (ga_lcons (ge_mkQ ge_neg ge_i) ga_lnil)))))))))) (by decide)) d0 fun vl H1 s1 rl => ?_
    have hs1 := hs.same s1
    refine qd_set (N := At1 d) (t := t) (t' := t + 1) (gd_takeC rfl (by omega) (by decide) (by decide)) hs1 fun v H2 b2 s2 ⟨kind, ev, k0, k1⟩ => ?_
    subst ev
    have d2 := dom1 s2.ne
    have rl2 := (fL (fQ K)).fr (hs1.kp b2 nd) rl
    refine q_when (N := At1 d) (b := decide (kind < 10)) (gt_test (ge_ltI (ge_vi rfl) ge_i)) d2 (fun e H3 s3 => ?_) (fun e H3 s3 => ?_)
    · have hk : kind.toNat < weights.length := by
        have := of_decide_eq_true e
        show kind.toNat < 10
        omega
      have hg := List.getElem?_eq_getElem hk
      refine s_ret (N := At1 d) (ge_ix (F := fQ K) (n := kind.toNat) (ge_v (F := fL (fQ K)) rfl ((fL (fQ K)).same s3 rl2)) (ge_vi rfl) (by omega) hg) (d2.same s3) fun v H4 s4 r => k v H4 ((But.of s1).trans (b2.trans (.of (s3.trans s4)))) ((s2.same (s3.trans s4)).mono (by omega)) ⟨_, r, weights_ok _ (List.mem_of_getElem? hg)⟩
    · refine sd_ret (N := At1 d) (t := t + 1) (t' := t + 1 + 1 + 1) (gd_fr nd (gd_sub nd (gd_takeC rfl (by omega) (by decide) (by decide)) gd_i) (gd_add nd gd_i (gd_takeC rfl (by omega) (by decide) (by decide))) ?_) (s2.same s3) fun v H5 b5 s5 r => k v H5 ((But.of s1).trans ((b2.trans (.of s3)).trans b5)) s5 ?_
      · rintro y ⟨a, b, rfl, ⟨hb0, hb1⟩, rfl⟩
        exact p64 hb0 hb1 (by decide)
      · obtain ⟨q, rq, x, y, ⟨x1, x2, ⟨a0, a1⟩, rfl, rfl⟩, ⟨y1, y2, rfl, ⟨c0, c1⟩, rfl⟩, rfl⟩ := r
        exact ⟨_, rq, weight_mid a0 a1 c0 c1⟩
theorem kn_l_weight (D : Df K mg "_law_weight" s_l_weight) (Dta : Kn P w K mg base CX0 1 "_law_take" ["state", "many"] spTake) (Dfr : Kn P w K mg base CX0 1 "_law_frac" ["top", "bottom"] (spFr K)) : Kn P w K mg base CX0 2 "_law_weight" ["state"] (spWeight K) :=
  kn_of D (fun _ _ F => F.binds fun _ _ _ _ _ _ us hl => match us, hl with | [_], _ => rfl) fun _ _ F => ok_l_weight F Dta Dfr
abbrev s_l_bounds : Stmt := top 36
theorem sc_l_bounds : FnScope ["state", "low"] ["state"] (defScope s_l_bounds) := ⟨rfl, rfl, rfl, by decide +kernel, rfl, by decide +kernel, by decide +kernel⟩
theorem ok_l_bounds {f : Addr} {fd : FuncData} (F : Fun K "_law_bounds" "_law_bounds" s_l_bounds f fd) (Dso : Kn P w K mg base CX0 2 "_law_some" ["state"] (spSome K)) (Dta : Kn P w K mg base CX0 1 "_law_take" ["state", "many"] spTake) (Dfr : Kn P w K mg base CX0 1 "_law_frac" ["top", "bottom"] (spFr K)) (Dpl : Kn P w K mg base CX0 2 "_law_plus" ["q", "r"] (sp2 K P2 plus)) : FnOk P w K mg base CX0 3 f fd ["state"] (spBounds K) := by
  refine F.ok sc_l_bounds (fun vs H Q E h => ?_) (fun cdv A outer s H vs Q E hr h => ?_)
  · obtain ⟨_, _, rfl, _⟩ := h
    rfl
  · obtain ⟨d, t, rfl, hs, ht, k⟩ := h
    refine ⟨_, (pss_cons (ps_set (i := 1) sc_l_bounds.nd rfl (.inl rfl) (pe_kn Dso (hr.mono (by decide)) rfl pass0 (pa_cons (pv 0) pa_nil)))
     (pss_one (ps_ret (pe_tup (pa_cons (pv 1) (pa_cons (pe_kn Dpl (hr.mono (by decide)) rfl pass0 (pa_cons (pv 1) (pa_cons (pe_kn Dfr (hr.mono (by decide)) rfl pass0 (pa_cons (pe_kn Dta (hr.mono (by decide)) rfl pass0 (pa_cons (pv 0) (pa_cons pe_int pa_nil))) (pa_cons (pe_op op_add pe_int (pe_kn Dta (hr.mono (by decide)) rfl pass0 (pa_cons (pv 0) (pa_cons pe_int pa_nil)))) pa_nil))) pa_nil))) pa_nil)))))), ?_⟩
    have nd : At1 d d := rfl
    refine qd_set (N := At1 d) (t := t) (t' := t + 3) (R := rX (fQ K) SomeQ) (gd_call rfl (by omega) fun _ _ h => h) hs fun v H2 b2 s2 ⟨low, rl, hl⟩ => ?_
    have gv : ∀ t1, Gd (tVar 1) [some (.ref d), some v] (At1 d) d t1 t1 H2 (rX (fQ K) fun z => z = low) := fun t1 => gd_v rfl s2 nd ks_rX ⟨low, rl, rfl⟩
    refine sd_ret (N := At1 d) (t := t + 3) (t' := t + 3 + 1 + 1) (gd_mkB nd (gv _) (gd_2 nd (gv _) (gd_fr nd (gd_takeC rfl (by omega) (by decide) (by decide)) (gd_add nd gd_i (gd_takeC rfl (by omega) (by decide) (by decide))) ?_) ?_)) s2 fun v H3 b3 s3 r => k v H3 (b2.trans b3) s3 ?_
    · rintro y ⟨a, b, rfl, ⟨hb0, hb1⟩, rfl⟩
      exact p64 hb0 hb1 (by decide)
    · rintro x y rfl ⟨a, b, ⟨a0, a1⟩, ⟨c, e, rfl, ⟨e0, e1⟩, rfl⟩, rfl⟩
      have n : Nb 8 3 (fr a (1 + e)) := fr_nb (by omega) (by omega) (by omega)
      exact nb_p2 hl.2 n (by decide) (by decide) (by decide) (by decide)
    · obtain ⟨⟨q1, q2⟩, rq, e1, x, y, rfl, ⟨a, b, ⟨a0, a1⟩, ⟨c, e, rfl, ⟨e0, e1'⟩, rfl⟩, rfl⟩, eq⟩ := r
      have e1 : q1 = _ := e1
      have eq : q2 = _ := eq
      subst e1 eq
      exact ⟨_, rq, bound_of hl a0 a1 e0 e1'⟩
theorem kn_l_bounds (D : Df K mg "_law_bounds" s_l_bounds) (Dso : Kn P w K mg base CX0 2 "_law_some" ["state"] (spSome K)) (Dta : Kn P w K mg base CX0 1 "_law_take" ["state", "many"] spTake) (Dfr : Kn P w K mg base CX0 1 "_law_frac" ["top", "bottom"] (spFr K)) (Dpl : Kn P w K mg base CX0 2 "_law_plus" ["q", "r"] (sp2 K P2 plus)) : Kn P w K mg base CX0 3 "_law_bounds" ["state"] (spBounds K) :=
  kn_of D (fun _ _ F => F.binds fun _ _ _ _ _ _ us hl => match us, hl with | [_], _ => rfl) fun _ _ F => ok_l_bounds F Dso Dta Dfr Dpl
end
end Sh
/-! lists of what is read off states -/
namespace Sh
open PySem PySem.Spec PyProof.Rows L2
theorem Gw.dn {α : Type} {N N' : AS} {F : Fam α} {p : Addr} {ds : List α} {H : Hp} (g : Gw N' F p ds H) (i : ∀ a, N a → N' a) : Gw N F p ds H := let ⟨xs, h, q⟩ := g; ⟨xs, h, Paired.mapP q fun _ _ z => F.dn i z⟩
section
variable {K : PySem.W.Frag} {σ : St} {N : AS} {d : Addr} {t t1 t2 t' : Nat} {H : Hp} {ta tb tc te : TE} {tn : TA} {E E' : XK} {p q : Int → Prop} {α β : Type} {F : Fam α} {G : Fam β} {D : Ends} {u : TS}
/-- _law_bounds(_law_state(script, k)) -/
theorem ge_bd {ns : List Int} {k : Nat} {i : Int} (gz : GA tn σ N H (A2 ((fSc K).r ns) (vI i))) (ei : i = (k : Int)) (hk : k ≤ 1000) : Ge (tCl (spBounds K) E (tCons (tCl (spState K) E' tn) tNil)) σ N H (rX (fB K) BoundOk) := fun N1 H1 u1 Q q =>
  gz N1 H1 u1 _ fun vs H2 s2 a => ⟨ns, k, N1, (u1.more s2).dom, hk, by rw [← ei]; exact a, fun d H3 hd s3 st => ⟨d, k, rfl, st, by omega, fun v H4 b4 _ r => q v H4 (Same.but (s2.trans s3) b4 ((s2.free) hd)) r⟩⟩
/-- a comprehension over range(n) -/
theorem ge_lcR {n j : Nat} {vs : List Nat} {pr : α → Prop} (gn : GA tn σ N H (fun _ _ ws => ws = [.int (n : Int)])) (hn : n ≤ 1000) (hw : ∀ x, wipe ((wipe σ vs).set j (some x)) vs = wipe σ vs)
    (he : ∀ N' H1 i, i < n → Up N N' H H1 → Ge te ((wipe σ vs).set j (some (.int (i : Nat)))) N' H1 (rX F pr)) : Ge (tLc (iRng1 tn) (gName j) tYes te vs) σ N H (rX (fL F) fun ds => ds.length = n ∧ ∀ x ∈ ds, pr x) := fun N1 H1 u1 Q q =>
  gn N1 H1 u1 _ fun ws H2 s2 e => ⟨n, e, by omega, by omega, fun p hp => by
    have u2 := u1.more s2
    have d2 := u2.dom
    refine lc_it (walk_range (lo := 0) (n := (n : Int).toNat)) (fun i H' => Same H2 H' ∧ ∃ ds, ds.length = i ∧ (∀ x ∈ ds, pr x) ∧ Gw (ad N1 p) F p ds H') ⟨same_new hp, [], rfl, (fun x hx => nomatch hx), Gw.nil upd_same⟩ (fun _ _ _ _ => trivial) ?_ ?_
    · rintro i x H' H'' hi ⟨s3, ds, el, hp', gw⟩ ⟨rfl, rfl⟩
      have up3 : Up N1 (ad N1 p) H2 H'' := ⟨s3, fun _ n => .inl n, fun b n => n.elim .inl fun e => .inr (by rw [e]; exact hp), fun b n => n.elim (d2.same s3 b) fun e => by rw [e]; exact gw.ne⟩
      have u3 := u2.trans up3
      show gName j (V.int ((0 : Int) + (i : Nat))) _ _ _
      rw [Int.zero_add]
      refine ⟨hw _, ?_⟩
      unfold tYes
      show ite _ _ _
      refine iteT ?_
      refine he (ad N1 p) H'' i (by omega) u3 _ _ (.refl u3.dom) _ fun y H4 s5 ⟨z, rz, hz⟩ => ?_
      obtain ⟨acc, h4, p4⟩ := gw.same s5
      have l4 := Paired.length p4
      refine ⟨acc, h4, line_lt (by omega), Same.but (s3.trans s5) But.upd hp, ds ++ [z], by rw [List.length_append, el]; rfl, fun x hx => ?_, Gw.push ad_self h4 p4 rz⟩
      rcases List.mem_append.mp hx with m | m
      · exact hp' x m
      · rw [List.mem_singleton.mp m]; exact hz
    · rintro H' ⟨s3, ds, el, hp', gw⟩
      exact q _ H' (s2.trans s3) ⟨ds, gw.done (fun _ n => .inl n) (d2.new hp), by omega, hp'⟩⟩
/-- a comprehension over a list that turns the state at d on -/
theorem gd_lc {ds : List α} {i0 j c : Nat} {vs : List Nat} {v : V} {pr : β → Prop} {Q : VK} (hi : σ[i0]? = some (some v)) (r : (fL F).r ds N H v) (hs : Sta d t H) (nd : N d) (dN : Dom N H) (hl : ds.length ≤ 1000) (hc : t + c * ds.length ≤ 1000000) (hw : ∀ x, wipe ((wipe σ vs).set j (some x)) vs = wipe σ vs)
    (he : ∀ N' x t1 H1, N' d → t1 + c ≤ 1000000 → Gd te ((wipe σ vs).set j (some x)) N' d t1 (t1 + c) H1 (rX G pr)) (k : ∀ v' H', But d H H' → Sta d (t + c * ds.length) H' → rX (fL G) (fun es => es.length = ds.length ∧ ∀ e ∈ es, pr e) N H' v' → Q v' H') :
    tLc (iList K (tVar i0)) (gName j) tYes te vs σ H Q := by
  obtain ⟨a, xs, rfl, ha, na, pa⟩ := r
  have lx := Paired.length pa
  have nad : a ≠ d := fun e => na (by rw [e]; exact nd)
  refine ⟨_, hi, a, rfl, ⟨xs, .of ha⟩, fun p hp => ?_⟩
  have npd : p ≠ d := fun e => hs.ne (by rw [← e]; exact hp)
  refine lc_list (xs := xs) (fun i H' => But d H H' ∧ Sta d (t + c * i) H' ∧ ∃ es, es.length = i ∧ (∀ e ∈ es, pr e) ∧ Gw (ad N p) G p es H') ⟨.of (same_new hp), ?_, [], rfl, (fun x hx => nomatch hx), Gw.nil upd_same⟩ (fun i H' _ c => .of (c.1 a _ ha nad)) ?_ ?_
  · exact (hs.same (same_new hp)).mono (by omega)
  · rintro i x H' hx ⟨bt, st, es, el, hes, gw⟩
    have hil : i < ds.length := by rw [← lx]; exact (List.getElem?_eq_some_iff.mp hx).1
    have hci : c * i + c ≤ c * ds.length := by
      have := Nat.mul_le_mul_left c (show i + 1 ≤ ds.length by omega)
      rw [Nat.mul_add, Nat.mul_one] at this
      exact this
    refine ⟨hw _, ?_⟩
    unfold tYes
    show ite _ _ _
    refine iteT ?_
    have nd' : (ad N p) d := .inl nd
    refine he (ad N p) x (t + c * i) H' nd' (by omega) H' .refl st _ fun y H4 b4 s4 ⟨z, rz, hz⟩ => ?_
    have kp := st.kp b4 nd'
    obtain ⟨acc, h3, p3⟩ := gw
    have l3 := Paired.length p3
    have h4 : H4 p = some (.lst acc) := b4 p _ h3 npd
    have p4 := Paired.mapP p3 fun _ _ z => G.fr kp z
    refine ⟨acc, h4, line_lt (by omega), fun b o e n => ?_, ?_, es ++ [z], by rw [List.length_append, el]; rfl, fun e he' => ?_, Gw.push ad_self h4 p4 rz⟩
    · rw [upd_ne (ne_of_none e hp)]
      exact b4 b o (bt b o e n) n
    · obtain ⟨r, m, u, e, hu⟩ := s4
      rw [Nat.mul_add, Nat.mul_one, ← Nat.add_assoc]
      exact ⟨r, m, u, by rw [upd_ne (Ne.symm npd)]; exact e, hu⟩
    · rcases List.mem_append.mp he' with m | m
      · exact hes e m
      · rw [List.mem_singleton.mp m]; exact hz
  · rintro H' ⟨bt, st, es, el, hes, gw⟩
    rw [lx] at st el
    exact k _ H' bt st ⟨es, gw.done (fun _ n => .inl n) (dN.new hp), el, hes⟩
theorem qd_lc {ds : List α} {i0 j c jj : Nat} {vs : List Nat} {v : V} {pr : β → Prop} (hi : σ[i0]? = some (some v)) (r : (fL F).r ds N H v) (hs : Sta d t H) (nd : N d) (dN : Dom N H) (hl : ds.length ≤ 1000) (hc : t + c * ds.length ≤ 1000000) (hw : ∀ x, wipe ((wipe σ vs).set j (some x)) vs = wipe σ vs)
    (he : ∀ N' x t1 H1, N' d → t1 + c ≤ 1000000 → Gd te ((wipe σ vs).set j (some x)) N' d t1 (t1 + c) H1 (rX G pr)) (k : ∀ v' H', But d H H' → Sta d (t + c * ds.length) H' → rX (fL G) (fun es => es.length = ds.length ∧ ∀ e ∈ es, pr e) N H' v' → u D (σ.set jj (some v')) H') :
    tSeq (tAsg (tLc (iList K (tVar i0)) (gName j) tYes te vs) (gName jj)) u D σ H := gd_lc (Q := fun v' H' => u D (σ.set jj (some v')) H') hi r hs nd dN hl hc hw he k
/-- name = _law_state(script, k) -/
theorem q_state {ns : List Int} {k jj : Nat} {i : Int} (gz : GA tn σ N H (A2 ((fSc K).r ns) (vI i))) (dN : Dom N H) (ei : i = (k : Int)) (hk : k ≤ 1000) (h : ∀ d H', H d = none → Same H H' → Sta d k H' → u D (σ.set jj (some (.ref d))) H') : tSeq (tAsg (tCl (spState K) E tn) (gName jj)) u D σ H :=
  gz N H (.refl dN) _ fun vs H2 s2 a => ⟨ns, k, N, dN.same s2, hk, by rw [← ei]; exact a, fun d H3 hd s3 st => h d H3 (s2.free hd) (s2.trans s3) st⟩
/-- rows with a state turned on -/
theorem gd_mkR {pa pb : List Q → Prop} {pc : Q → Prop} (nd : N d) (ha : Gd ta σ N d t t1 H (rX (fQs K) pa)) (hb : Gd tb σ N d t1 t2 H (rX (fQs K) pb)) (hc : Gd tc σ N d t2 t' H (rX (fQ K) pc)) :
    Gd (tTup (tCons ta (tCons tb (tCons tc tNil)))) σ N d t t' H (rX (fR K) fun r => pa r.a ∧ pb r.b ∧ pc r.c) := fun H1 b s Q k =>
  ha H1 b s _ fun x H2 b2 s2 ⟨i, e1, h1⟩ => hb H2 (b.trans b2) s2 _ fun y H3 b3 s3 ⟨j, e2, h2⟩ => hc H3 ((b.trans b2).trans b3) s3 _ fun z H4 b4 s4 ⟨l, e3, h3⟩ => ⟨line_le (by decide : 3 ≤ 16777216), fun a ha' => k _ _ (((b2.trans b3).trans b4).trans (.of (same_new ha'))) (s4.same (same_new ha'))
    ⟨⟨i, j, l⟩, ⟨a, x, y, z, rfl, .inl upd_same, (fQs K).same (same_new ha') ((fQs K).fr ((s2.kp b3 nd).trans (s3.kp b4 nd)) e1), (fQs K).same (same_new ha') ((fQs K).fr (s3.kp b4 nd) e2), (fQ K).same (same_new ha') e3⟩, h1, h2, h3⟩⟩
/-- all but what is at d, at l -/
def But2 (d l : Addr) (H H' : Hp) : Prop := ∀ a o, H a = some o → a ≠ d → a ≠ l → H' a = some o
theorem sd_app {i : Nat} {l : Addr} {ds : List α} {pr : α → Prop} (hi : σ[i]? = some (some (.ref l))) (g : Gd te σ N d t t' H (rX F pr)) (hs : Sta d t H) (nd : N d) (nl : N l) (nld : l ≠ d) (gw : Gw N F l ds H) (hz : ds.length ≤ 10000000) (k : ∀ x H', pr x → But2 d l H H' → Sta d t' H' → Gw N F l (ds ++ [x]) H' → D.nx σ H') : tDrop (tBM K "list" rAppend (tVar i) (tCons te tNil)) D σ H := by
  obtain ⟨xs, hp, pr'⟩ := id gw
  refine ⟨_, hi, .inl ⟨rfl, _, .of hp⟩, g H .refl hs _ fun v H2 b2 s2 ⟨x, rx, hx⟩ => ⟨l, xs, v, rfl, rfl, b2 l _ hp nld, line_lt (by have := Paired.length pr'; omega), ?_⟩⟩
  refine k x _ hx (fun a o e n1 n2 => by rw [upd_ne n2]; exact b2 a o e n1) ?_ (Gw.push nl (b2 l _ hp nld) (Paired.mapP pr' fun _ _ z => F.fr (hs.kp b2 nd) z) rx)
  obtain ⟨r, m, u, e, hu⟩ := s2
  exact ⟨r, m, u, by rw [upd_ne (Ne.symm nld)]; exact e, hu⟩
/-- a for over range(n) -/
theorem q_forR {n j : Nat} {tbd : TS} (Pv : Hp → Nat → St → Hp → Prop) (ga : GA tn σ N H (fun _ _ vs => vs = [.int (n : Int)])) (hn : n ≤ 1000) (d : Dom N H) (h0 : ∀ H1, Same H H1 → Pv H1 0 σ H1)
    (hs : ∀ H1 i σ' H', Same H H1 → i < n → Pv H1 i σ' H' → tbd { nx := Pv H1 (i + 1), rt := D.rt, ct := Pv H1 (i + 1), bk := u D } (σ'.set j (some (.int (i : Nat)))) H') (hd : ∀ H1 σ' H', Same H H1 → Pv H1 n σ' H' → u D σ' H') :
    tSeq (tFor (iRng1 tn) (gName j) tbd) u D σ H :=
  ga N H (.refl d) _ fun vs H1 s1 e => ⟨n, e, by omega, by omega, for_range (D := { D with nx := u D }) (Pv H1) (h0 H1 s1) (fun i σ' H' hi p => by
    rw [Int.zero_add]
    exact hs H1 i σ' H' s1 (by omega) p) fun σ' H' p => hd H1 σ' H' s1 (by rw [show ((n : Int)).toNat = n by omega] at p; exact p)⟩
theorem ge_divX {p : Int → Prop} {j : Int} (ha : Ge ta σ N H (vX p)) (hb : Ge tb σ N H (vI j)) (hj : ∀ i, CDivW i j) : Ge (tOp (L2.rI CDivW fun i j => .int (i / j)) ta tb) σ N H (vX fun _ => True) :=
  ge_two ha mn_X hb fun N' H' x y _ ⟨i, e1, _⟩ e2 Q q => ⟨i, j, e1, e2, hj i, q _ H' (Same.refl _) ⟨_, rfl, trivial⟩⟩
theorem ge_andV {x y : Bool} (ha : Ge ta σ N H (vB x)) (hb : Ge tb σ N H (vB y)) : Ge (tAndV ta tb) σ N H (vB (x && y)) := fun N1 H1 u Q q => ha N1 H1 u _ fun v H2 s2 e => by
  refine ⟨x, e, ?_⟩
  cases x with
  | true => exact iteT (hb N1 H2 (u.more s2) Q fun v' H3 s3 e3 => q v' H3 (s2.trans s3) e3)
  | false => exact iteF (q _ H2 s2 rfl)
theorem ge_int {x : Bool} (ha : Ge ta σ N H (vB x)) : Ge (tCB (fun xs H Q => (∃ i, xs = [.int i] ∧ Q (.int i) H) ∨ ∃ k, xs = [.bl k] ∧ Q (.int (if k then 1 else 0)) H) (tCons ta tNil)) σ N H (vI (if x then 1 else 0)) := fun N1 H1 u Q q =>
  ha N1 H1 u _ fun v H2 s2 e => .inr ⟨x, by rw [e], q _ H2 s2 rfl⟩
theorem ge_fI {i : Int} (ha : Ge ta σ N H (vI i)) : Ge ta σ N H (fI.r i) := ha
end
structure PlanOk (p : Plan) : Prop where
  s1 : 1 ≤ p.sizes.length
  s6 : p.sizes.length ≤ 6
  h3 : p.shims.length ≤ 3
  d8 : p.demands.length ≤ 8
  sb : ∀ s ∈ p.sizes, BoundOk s
  hb : ∀ s ∈ p.shims, BoundOk s
  db : ∀ r ∈ p.demands, r.a.length = p.sizes.length ∧ r.b.length = p.shims.length ∧ (∀ q ∈ r.a, WeightQ q) ∧ (∀ q ∈ r.b, WeightQ q) ∧ SomeQ r.c
end Sh
/-! _law_plan -/
namespace Sh
open PySem PySem.Spec PyProof.Rows L2
section
variable {P : Program} {w : World} {K : PySem.W.Frag} {mg : Str → Option Value} {base : Heap} {aN aO aM aC : Addr}
theorem pick {l : List Int} {k : Int} (h0 : 0 ≤ k) (h1 : k.toNat < l.length) : ∃ x, l[k.toNat]? = some x ∧ x ∈ l := ⟨_, List.getElem?_eq_getElem h1, List.getElem_mem h1⟩
def spPlan (K : PySem.W.Frag) : Sp := PSp (fun _ : List Int => True) (fun ns => A1 ((fSc K).r ns)) (fun _ => rX (fPl K) PlanOk)
abbrev s_l_plan : Stmt := top 37
theorem sc_l_plan : FnScope ["script", "first", "shims", "many", "most", "sizes", "bounds", "demands", "k", "state", "a", "b", "size", "shim"] ["script"] (defScope s_l_plan) := ⟨rfl, rfl, rfl, by decide +kernel, rfl, by decide +kernel, by decide +kernel⟩
theorem ok_l_plan {f : Addr} {fd : FuncData} (F : Fun K "_law_plan" "_law_plan" s_l_plan f fd) (T : Txt K mg aN aO aM aC) (Dce : Kn P w K mg base CX0 1 "_law_cell" ["script", "k"] (spCell K)) (Dst : Kn P w K mg base CX0 2 "_law_state" ["script", "k"] (spState K)) (Dbo : Kn P w K mg base CX0 3 "_law_bounds" ["state"] (spBounds K)) (Dwe : Kn P w K mg base CX0 2 "_law_weight" ["state"] (spWeight K)) (Dso : Kn P w K mg base CX0 2 "_law_some" ["state"] (spSome K)) : FnOk P w K mg base CX0 4 f fd ["script"] (spPlan K) := by
  refine F.ok sc_l_plan (fun vs H Q E h => ?_) (fun cdv A outer s H vs Q E hr h => ?_)
  · obtain ⟨x, N, _, _, ⟨_, rfl, _⟩, _⟩ := h
    rfl
  · obtain ⟨ns, N, d, _, ⟨v0, rfl, h0⟩, kk⟩ := h
    have cd : ∀ (j : Int), 0 < j → j.natAbs < 2 ^ 64 → ∀ i, CDivW i j := fun j h1 h2 i => wide_div (b := 64) h1 h2 (by decide) (by decide)
    refine ⟨_, (pss_cons (ps_set (i := 1) sc_l_plan.nd rfl (.inl rfl) (pe_op op_fdivW (pe_kn Dce (hr.mono (by decide)) rfl pass0 (pa_cons (pv 0) (pa_cons pe_int pa_nil))) pe_int))
    (pss_cons (ps_set (i := 2) sc_l_plan.nd rfl (.inl rfl) (pe_ix ix_list (pe_lst (pa_cons pe_int (pa_cons pe_int (pa_cons pe_int (pa_cons pe_int (pa_cons pe_int (pa_cons pe_int (pa_cons pe_int (pa_cons pe_int pa_nil))))))))) (pe_op op_mod (pe_op op_fdivW (pv 1) pe_int) pe_int) (fun _ _ => rfl)))
    (pss_cons (ps_set (i := 3) sc_l_plan.nd rfl (.inl rfl) (pe_ix ix_list (pe_lst (pa_cons (pe_op op_add pe_int (pe_op op_mod (pv 1) pe_int)) (pa_cons pe_int pa_nil))) (pe_callTy call_int1 rfl T.int (by decide +kernel) (pa_cons (pe_and (pe_cmpR op_eq (pe_op op_mod (pe_op op_fdivW (pv 1) pe_int) pe_int) pe_int (nomark _)) (pe_one (pe_cmpR op_lt (pv 2) pe_int (nomark _)))) pa_nil)) (fun _ _ => rfl)))
    (pss_cons (ps_set (i := 4) sc_l_plan.nd rfl (.inl rfl) (pe_ix ix_list (pe_lst (pa_cons pe_int (pa_cons pe_int (pa_cons pe_int (pa_cons pe_int pa_nil))))) (pv 2) (fun _ _ => rfl)))
    (pss_cons (ps_setLc (i := 5) (own := [("k", 8)]) rfl sc_l_plan.nd rfl rfl (sw_true rfl rfl rfl (by decide +kernel)) (pi_range1 rfl T.range (pa_cons (pv 3) pa_nil)) (blkOk_by (own := [("k", 8)]) (N := ["script", "first", "shims", "many", "most", "sizes", "bounds", "demands", "k", "state", "a", "b", "size", "shim"]) (sc := defScope s_l_plan) (by decide +kernel)) (fun _ _ _ _ _ => (pg_name (i := 8) sc_l_plan.nd rfl (.inl rfl))) (fun _ _ _ _ _ => pts_nil) (fun _ _ _ _ _ => (pe_kn Dbo (hr.mono (by decide)) rfl pass0 (pa_cons (pe_kn Dst (hr.mono (by decide)) rfl pass0 (pa_cons (pv 0) (pa_cons (pe_op op_add pe_int (pv 8)) pa_nil))) pa_nil))))
    (pss_cons (ps_setLc (i := 6) (own := [("k", 8)]) rfl sc_l_plan.nd rfl rfl (sw_true rfl rfl rfl (by decide +kernel)) (pi_range1 rfl T.range (pa_cons (pv 2) pa_nil)) (blkOk_by (own := [("k", 8)]) (N := ["script", "first", "shims", "many", "most", "sizes", "bounds", "demands", "k", "state", "a", "b", "size", "shim"]) (sc := defScope s_l_plan) (by decide +kernel)) (fun _ _ _ _ _ => (pg_name (i := 8) sc_l_plan.nd rfl (.inl rfl))) (fun _ _ _ _ _ => pts_nil) (fun _ _ _ _ _ => (pe_kn Dbo (hr.mono (by decide)) rfl pass0 (pa_cons (pe_kn Dst (hr.mono (by decide)) rfl pass0 (pa_cons (pv 0) (pa_cons (pe_op op_add pe_int (pv 8)) pa_nil))) pa_nil))))
    (pss_cons (ps_set (i := 7) sc_l_plan.nd rfl (.inl rfl) (pe_lst pa_nil))
    (pss_cons (ps_for PassesOwn.never rfl (pi_range1 rfl T.range (pa_cons (pe_op op_sub (pv 4) (pe_op op_mod (pe_op op_fdivW (pv 1) pe_int) (pe_op op_add pe_int (pv 4)))) pa_nil)) (pg_name (i := 8) sc_l_plan.nd rfl (.inl rfl))
    (pss_cons (ps_set (i := 9) sc_l_plan.nd rfl (.inr rfl) (pe_kn Dst (hr.mono (by decide)) rfl pass0 (pa_cons (pv 0) (pa_cons (pe_op op_add pe_int (pv 8)) pa_nil))))
    (pss_cons (ps_setLc (i := 10) (own := [("size", 12)]) rfl sc_l_plan.nd rfl rfl (sw_true rfl rfl rfl (by decide +kernel)) (pi_list (pv 5)) (blkOk_by (own := [("size", 12)]) (N := ["script", "first", "shims", "many", "most", "sizes", "bounds", "demands", "k", "state", "a", "b", "size", "shim"]) (sc := defScope s_l_plan) (by decide +kernel)) (fun _ _ _ _ _ => (pg_name (i := 12) sc_l_plan.nd rfl (.inl rfl))) (fun _ _ _ _ _ => pts_nil) (fun _ _ _ _ _ => (pe_kn Dwe (hr.mono (by decide)) rfl pass0 (pa_cons (pv 9) pa_nil))))
    (pss_cons (ps_setLc (i := 11) (own := [("shim", 13)]) rfl sc_l_plan.nd rfl rfl (sw_true rfl rfl rfl (by decide +kernel)) (pi_list (pv 6)) (blkOk_by (own := [("shim", 13)]) (N := ["script", "first", "shims", "many", "most", "sizes", "bounds", "demands", "k", "state", "a", "b", "size", "shim"]) (sc := defScope s_l_plan) (by decide +kernel)) (fun _ _ _ _ _ => (pg_name (i := 13) sc_l_plan.nd rfl (.inl rfl))) (fun _ _ _ _ _ => pts_nil) (fun _ _ _ _ _ => (pe_kn Dwe (hr.mono (by decide)) rfl pass0 (pa_cons (pv 9) pa_nil))))
    (pss_one (ps_expr (pe_bm PySem.F.plainAttrs_list PySem.F.slot_list_append PySem.F.type_list_append mt_append (pv 7) (pa_cons (pe_tup (pa_cons (pv 10) (pa_cons (pv 11) (pa_cons (pe_kn Dso (hr.mono (by decide)) rfl pass0 (pa_cons (pv 9) pa_nil)) pa_nil)))) pa_nil))))))))
    (pss_one (ps_ret (pe_tup (pa_cons (pv 5) (pa_cons (pv 6) (pa_cons (pv 7) pa_nil)))))))))))))), ?_⟩
    refine q_set (N := N) (ge_divX (ge_cell (k := 0) (ge_v (F := fSc K) rfl h0) ge_i rfl (by decide)) ge_i (cd 2 (by decide) (by decide))) d fun v H1 s1 ⟨f, ev, _⟩ => ?_
    subst ev
    have d1 := d.same s1
    have m8 := Int.emod_nonneg (f / 24) (show (8 : Int) ≠ 0 by decide)
    have m8' := Int.emod_lt_of_pos (f / 24) (show (0 : Int) < 8 by decide)
    obtain ⟨sh, hsh, msh⟩ := pick (l := [1, 0, 2, 2, 3, 3, 2, 1]) m8 (by show _ < 8; omega)
    have bsh : 0 ≤ sh ∧ sh ≤ 3 := by
      simp only [List.mem_cons, List.not_mem_nil, or_false] at msh
      omega
    refine q_set (N := N) (ge_ix (F := fI) (n := (f / 24 % 8).toNat) (d := sh) (ge_lst (F := fI) (ds := [1, 0, 2, 2, 3, 3, 2, 1]) (ga_lcons ge_i (ga_lcons ge_i (ga_lcons ge_i (ga_lcons ge_i (ga_lcons ge_i (ga_lcons ge_i (ga_lcons ge_i (ga_lcons ge_i ga_lnil)))))))) (by decide)) (ge_modI (ge_divI (ge_vi rfl) ge_i (cd 24 (by decide) (by decide) f)) ge_i (by decide)) (by omega) hsh) d1 fun v H2 s2 ev => ?_
    have ev : v = .int sh := ev
    subst ev
    have d2 := d1.same s2
    have b3 := Int.emod_nonneg f (show (3 : Int) ≠ 0 by decide)
    have b3' := Int.emod_lt_of_pos f (show (0 : Int) < 3 by decide)
    obtain ⟨mn, hmn, mmn⟩ := pick (l := [1 + f % 3, 6]) (k := if decide (f / 3 % 8 = 5) && decide (sh < 3) then 1 else 0) (by split <;> decide) (by show _ < 2; split <;> decide)
    have bmn : 1 ≤ mn ∧ mn ≤ 6 := by
      simp only [List.mem_cons, List.not_mem_nil, or_false] at mmn
      omega
    refine q_set (N := N) (ge_ix (F := fI) (n := (if decide (f / 3 % 8 = 5) && decide (sh < 3) then 1 else 0 : Int).toNat) (d := mn) (ge_lst (F := fI) (ds := [1 + f % 3, 6]) (ga_lcons (ge_addI ge_i (ge_modI (ge_vi rfl) ge_i (by decide))) (ga_lcons ge_i ga_lnil)) (by show 2 ≤ 1000; decide)) (ge_int (ge_andV (ge_eqI (ge_modI (ge_divI (ge_vi rfl) ge_i (cd 3 (by decide) (by decide) f)) ge_i (by decide)) ge_i) (ge_ltI (ge_vi rfl) ge_i))) (by split <;> rfl) hmn) d2 fun v H3 s3 ev => ?_
    have ev : v = .int mn := ev
    subst ev
    have d3 := d2.same s3
    obtain ⟨ms, hms, mms⟩ := pick (l := [8, 8, 6, 3]) bsh.1 (by show _ < 4; omega)
    have bms : 0 ≤ ms ∧ ms ≤ 8 := by
      simp only [List.mem_cons, List.not_mem_nil, or_false] at mms
      omega
    refine q_set (N := N) (ge_ix (F := fI) (n := sh.toNat) (d := ms) (ge_lst (F := fI) (ds := [8, 8, 6, 3]) (ga_lcons ge_i (ga_lcons ge_i (ga_lcons ge_i (ga_lcons ge_i ga_lnil)))) (by decide)) (ge_vi rfl) (by omega) hms) d3 fun v H4 s4 ev => ?_
    have ev : v = .int ms := ev
    subst ev
    have d4 := d3.same s4
    have t4 := ((s1.trans s2).trans s3).trans s4
    obtain ⟨nm, rfl⟩ := Int.eq_ofNat_of_zero_le (show 0 ≤ mn by omega)
    obtain ⟨nh, rfl⟩ := Int.eq_ofNat_of_zero_le bsh.1
    clear hmn mmn hms mms hsh msh
    -- sizes, bounds
    refine q_set (N := N) (ge_lcR (F := fB K) (n := nm) (pr := BoundOk) (fun N' H1 u Q' q' => ga1 (ge_vi (N := N) (H := H4) rfl) mn_I N' H1 u Q' fun vs H2 s2 ⟨x, e, ex⟩ => q' vs H2 s2 (by rw [e, ex])) (by omega) (fun x => rfl) fun N' H1 i hi u => ge_bd (k := 1 + i) (ga2 (ge_v (F := fSc K) rfl ((fSc K).lift u ((fSc K).same t4 h0))) ((fSc K).mn _) (ge_addI ge_i (ge_vi rfl)) mn_I) (by omega) (by omega)) d4 fun v5 H5 s5 ⟨zs, rz, lz, bz⟩ => ?_
    have d5 := d4.same s5
    have t5 := t4.trans s5
    refine q_set (N := N) (ge_lcR (F := fB K) (n := nh) (pr := BoundOk) (fun N' H1 u Q' q' => ga1 (ge_vi (N := N) (H := H5) rfl) mn_I N' H1 u Q' fun vs H2 s2 ⟨x, e, ex⟩ => q' vs H2 s2 (by rw [e, ex])) (by omega) (fun x => rfl) fun N' H1 i hi u => ge_bd (k := 7 + i) (ga2 (ge_v (F := fSc K) rfl ((fSc K).lift u ((fSc K).same t5 h0))) ((fSc K).mn _) (ge_addI ge_i (ge_vi rfl)) mn_I) (by omega) (by omega)) d5 fun v6 H6 s6 ⟨hs, rh, lh, bh⟩ => ?_
    have d6 := d5.same s6
    have t6 := t5.trans s6
    refine q_mkL d6 fun l hl nl => ?_
    have uu : Up N (ad N l) H6 (upd H6 l (.lst [])) := .ad d6 hl
    have dd := uu.d
    have c0 := Int.emod_nonneg (f / 192) (show (1 + ms : Int) ≠ 0 by omega)
    have c1 := Int.emod_lt_of_pos (f / 192) (show (0 : Int) < 1 + ms by omega)
    obtain ⟨nd, hnd⟩ := Int.eq_ofNat_of_zero_le (show 0 ≤ ms - f / 192 % (1 + ms) by omega)
    have h0l : (fSc K).r ns (ad N l) (upd H6 l (.lst [])) v0 := (fSc K).lift uu ((fSc K).same t6 h0)
    have rzl : (fL (fB K)).r zs (ad N l) (upd H6 l (.lst [])) v5 := (fL (fB K)).lift uu ((fL (fB K)).same s6 rz)
    have rhl : (fL (fB K)).r hs (ad N l) (upd H6 l (.lst [])) v6 := (fL (fB K)).lift uu rh
    refine q_forR (N := ad N l) (n := nd) (fun H1 i σ' H' => ∃ (rows : List Row) (k st a b : Option V), σ' = [some v0, some (.int f), some (.int nh), some (.int nm), some (.int ms), some v5, some v6, some (.ref l), k, st, a, b, none, none] ∧ rows.length = i ∧ (∀ r ∈ rows, r.a.length = nm ∧ r.b.length = nh ∧ (∀ q ∈ r.a, WeightQ q) ∧ (∀ q ∈ r.b, WeightQ q) ∧ SomeQ r.c) ∧ But l H1 H' ∧ Gw (ad N l) (fR K) l rows H') (fun N' H1 u Q' q' => ?_) (by omega) dd (fun H1 s1 => ⟨[], _, _, _, _, rfl, rfl, (fun r hr => nomatch hr), .of (Same.refl _), .nil (s1 l _ upd_same)⟩) ?_ ?_
    · exact ga1 (ge_subI (ge_vi (N := ad N l) (H := upd H6 l (.lst [])) rfl) (ge_modI (ge_divI (ge_vi rfl) ge_i (cd 192 (by decide) (by decide) f)) (ge_addI ge_i (ge_vi rfl)) (by omega))) mn_I N' H1 u Q' fun vs H2 s2 ⟨x, e, ex⟩ => q' vs H2 s2 (by rw [e, show x = _ from ex, hnd])
    · rintro H1 i σ' H' s7 hi ⟨rows, k', st', a', b', rfl, hlen, hrow, bt, gw⟩
      have kp7 : Kp (ad N l) (upd H6 l (.lst [])) H' := (Kp.of s7).trans (bt.kp ad_self (s7 l _ upd_same))
      have d7 : Dom (ad N l) H' := (Dom.same dd s7).but bt gw.ne
      have h07 := (fSc K).fr kp7 h0l
      refine q_state (N := ad N l) (k := 11 + i) (ga2 (ge_v (F := fSc K) rfl h07) ((fSc K).mn _) (ge_addI ge_i (ge_vi rfl)) mn_I) d7 (by omega) (by omega) fun e H8 he s8 st8 => ?_
      have nle : l ≠ e := fun z => by
        obtain ⟨xs, q, _⟩ := gw
        rw [z, he] at q
        cases q
      have s8u : Up (ad N l) (ad (ad N l) e) H' H8 := ⟨s8, fun _ n => .inl n, fun b n => n.elim .inl fun z => .inr (by rw [z]; exact he), fun b n => n.elim (Dom.same d7 s8 b) fun z => by rw [z]; exact st8.ne⟩
      have ne : (ad (ad N l) e) e := ad_self
      have d8 := s8u.d
      have rz8 := (fL (fB K)).lift s8u ((fL (fB K)).fr kp7 rzl)
      have rh8 := (fL (fB K)).lift s8u ((fL (fB K)).fr kp7 rhl)
      refine qd_lc (K := K) (F := fB K) (G := fQ K) (N := ad (ad N l) e) (d := e) (t := 11 + i) (c := 3) (ds := zs) (pr := WeightQ) rfl rz8 st8 ne d8 (by omega) (by omega) (fun x => rfl) (fun N' x t1 H1 nd' ht => gd_call rfl ht fun _ _ h => h) fun v9 H9 b9 st9 ⟨qa, ra, la, wa⟩ => ?_
      have kp9 := st8.kp b9 ne
      have d9 : Dom (ad (ad N l) e) H9 := Dom.but d8 b9 st9.ne
      refine qd_lc (K := K) (F := fB K) (G := fQ K) (N := ad (ad N l) e) (d := e) (t := 11 + i + 3 * zs.length) (c := 3) (ds := hs) (pr := WeightQ) rfl ((fL (fB K)).fr kp9 rh8) st9 ne d9 (by omega) (by omega) (fun x => rfl) (fun N' x t1 H1 nd' ht => gd_call rfl ht fun _ _ h => h) fun v10 H10 b10 st10 ⟨qb, rb, lb, wb⟩ => ?_
      have kp10 := st9.kp b10 ne
      have gw10 : Gw (ad (ad N l) e) (fR K) l rows H10 := by
        obtain ⟨xs, q, pr⟩ := (gw.up s8u)
        exact ⟨xs, b10 l _ (b9 l _ q nle) nle, Paired.mapP pr fun _ _ z => (fR K).fr (kp9.trans kp10) z⟩
      refine sd_app (F := fR K) (N := ad (ad N l) e) (d := e) (t := 11 + i + 3 * zs.length + 3 * hs.length) (t' := 11 + i + 3 * zs.length + 3 * hs.length + 3) (pr := fun r => qa = r.a ∧ qb = r.b ∧ SomeQ r.c) rfl (gd_mkR ne (gd_v rfl st10 ne ks_rX ⟨qa, (fL (fQ K)).fr kp10 ra, rfl⟩) (gd_v rfl st10 ne ks_rX ⟨qb, rb, rfl⟩) (gd_call (t := 11 + i + 3 * zs.length + 3 * hs.length) (c := 3) rfl (by omega) fun _ _ h => h)) st10 ne (.inl ad_self) nle gw10 (by omega) fun r H11 hr' b11 st11 gw11 => ?_
      obtain ⟨e1, e2, e3⟩ := hr'
      have e1 := e1.symm
      have e2 := e2.symm
      refine ⟨rows ++ [r], _, _, _, _, rfl, by rw [List.length_append, hlen]; rfl, fun z hz => ?_, fun a o ea na => ?_, gw11.dn fun _ h => .inl h⟩
      · rcases List.mem_append.mp hz with m | m
        · exact hrow z m
        · rw [List.mem_singleton.mp m]
          exact ⟨by rw [e1, la, lz], by rw [e2, lb, lh], by rw [e1]; exact wa, by rw [e2]; exact wb, e3⟩
      · have ea' := s8 a o (bt a o ea na)
        have nae : a ≠ e := fun z => by
          have q := bt a o ea na
          rw [z, he] at q
          cases q
        exact b11 a o (b10 a o (b9 a o ea' nae) nae) nae na
    · rintro H1 σ' H' s7 ⟨rows, k', st', a', b', rfl, hlen, hrow, bt, gw⟩
      have kp7 : Kp (ad N l) (upd H6 l (.lst [])) H' := (Kp.of s7).trans (bt.kp ad_self (s7 l _ upd_same))
      have s9 : Same H H' := Same.but ((t6.trans (same_new hl)).trans s7) bt (t6.free hl)
      refine s_ret (N := N) (ge_mkT (F := fL (fB K)) (G := fL (fB K)) (I := fL (fR K)) (p1 := Plan.sizes) (p2 := Plan.shims) (p3 := Plan.demands) (d := ⟨zs, hs, rows⟩) (ge_v (F := fL (fB K)) rfl ?_) (ge_v (F := fL (fB K)) rfl ?_) (ge_v (F := fL (fR K)) rfl ?_)) (d.same s9) fun v H9 s10 r => kk v H9 (s9.trans s10) ⟨⟨zs, hs, rows⟩, r, ?_⟩
      · exact (fL (fB K)).dn (fun _ h => .inl h) ((fL (fB K)).fr kp7 rzl)
      · exact (fL (fB K)).dn (fun _ h => .inl h) ((fL (fB K)).fr kp7 rhl)
      · exact gw.done (fun _ h => .inl h) nl
      · refine ⟨?_, ?_, ?_, ?_, bz, bh, fun r hr' => ?_⟩
        · show 1 ≤ zs.length
          omega
        · show zs.length ≤ 6
          omega
        · show hs.length ≤ 3
          omega
        · show rows.length ≤ 8
          omega
        · obtain ⟨e1, e2, e3⟩ := hrow r hr'
          exact ⟨by rw [e1]; exact lz.symm, by rw [e2]; exact lh.symm, e3⟩
theorem kn_l_plan (D : Df K mg "_law_plan" s_l_plan) (T : Txt K mg aN aO aM aC) (Dce : Kn P w K mg base CX0 1 "_law_cell" ["script", "k"] (spCell K)) (Dst : Kn P w K mg base CX0 2 "_law_state" ["script", "k"] (spState K)) (Dbo : Kn P w K mg base CX0 3 "_law_bounds" ["state"] (spBounds K)) (Dwe : Kn P w K mg base CX0 2 "_law_weight" ["state"] (spWeight K)) (Dso : Kn P w K mg base CX0 2 "_law_some" ["state"] (spSome K)) : Kn P w K mg base CX0 4 "_law_plan" ["script"] (spPlan K) :=
  kn_of D (fun _ _ F => F.binds fun _ _ _ _ _ _ us hl => match us, hl with | [_], _ => rfl) fun _ _ F => ok_l_plan F T Dce Dst Dbo Dwe Dso
end
end Sh
/-! _law_made -/
namespace Sh
open PySem PySem.Spec PyProof.Rows L2
theorem But2.kp {N : AS} {d l : Addr} {H H' : Hp} {kvs : List (Key × V)} {xs : List V} (b : But2 d l H H') (nd : N d) (nl : N l) (ed : H d = some (.dK kvs)) (el : H l = some (.lst xs)) : Kp N H H' :=
  ⟨fun a o e n => b a o e (fun z => n (by rw [z]; exact nd)) (fun z => n (by rw [z]; exact nl)), fun a ys e => b a _ e (fun z => by rw [z, ed] at e; cases e) (fun z => by rw [z, el] at e; cases e)⟩
theorem But2.trans {d l : Addr} {H H1 H2 : Hp} (a : But2 d l H H1) (b : But2 d l H1 H2) : But2 d l H H2 := fun c o e n m => b c o (a c o e n m) n m
theorem But2.ofD {d l : Addr} {H H1 : Hp} (a : But d H H1) : But2 d l H H1 := fun c o e n _ => a c o e n
theorem But2.ofL {d l : Addr} {H H1 : Hp} (a : But l H H1) : But2 d l H H1 := fun c o e _ n => a c o e n
theorem But2.of {d l : Addr} {H H1 : Hp} (a : Same H H1) : But2 d l H H1 := fun c o e _ _ => a c o e
theorem Dom.but2 {N : AS} {H H' : Hp} {d l : Addr} (dN : Dom N H) (b : But2 d l H H') (e : H' d ≠ none) (e' : H' l ≠ none) : Dom N H' := fun a n q => by
  by_cases c : a = d
  · rw [c] at q; exact e q
  · by_cases c' : a = l
    · rw [c'] at q; exact e' q
    · cases r : H a with
      | none => exact dN a n r
      | some o => rw [b a o r c c'] at q; cases q
section
variable {σ : St} {N : AS} {d : Addr} {t t1 t' : Nat} {H : Hp} {ta tb te : TE} {D : Ends} {u c : TS} {p q : Int → Prop}
theorem gd_eq (nd : N d) (ha : Gd ta σ N d t t1 H (vX p)) (hb : Gd tb σ N d t1 t' H (vX q)) : Gd (tOp rEq ta tb) σ N d t t' H (fun _ _ v => ∃ b, v = .bl b) :=
  gd_two nd ha ks_X hb fun H' x y ⟨i, e1, h1⟩ ⟨j, e2, h2⟩ Q k => by
    cases e1
    cases e2
    exact ⟨rfl, k _ ⟨_, rfl⟩⟩
theorem qd_when (g : Gd te σ N d t t' H (fun _ _ v => ∃ b, v = .bl b)) (s : Sta d t H) (h1 : ∀ H2, But d H H2 → Sta d t' H2 → c { D with nx := u D } σ H2) (h2 : ∀ H2, But d H H2 → Sta d t' H2 → u D σ H2) : tSeq (tIfS (tTest te) c tNext) u D σ H :=
  g H .refl s _ fun v H2 b2 s2 ⟨b, e⟩ => ⟨b, e, by
    cases b with
    | true => exact iteT (h1 H2 b2 s2)
    | false => exact iteF (h2 H2 b2 s2)⟩
end
section
variable {P : Program} {w : World} {K : PySem.W.Frag} {mg : Str → Option Value} {base : Heap} {aN aO aM aC : Addr}
def spMade (K : PySem.W.Frag) : Sp := fun vs H Q _ => ∃ (d : Addr) (t : Nat) (p : Plan) (N : AS) (v1 : V), vs = [.ref d, v1] ∧ N d ∧ Dom N H ∧ Sta d t H ∧ t + 5 * p.sizes.length ≤ 1000000 ∧ p.sizes.length ≤ 1000 ∧ (∀ s ∈ p.sizes, BoundOk s) ∧ (fPl K).r p N H v1 ∧
  ∀ v H', But d H H' → rX (fQs K) (fun made => ∀ q ∈ made, Bd 68 q) N H' v → Q v H'
abbrev s_l_made : Stmt := top 38
theorem sc_l_made : FnScope ["state", "plan", "found", "low", "high", "part", "size"] ["state", "plan"] (defScope s_l_made) := ⟨rfl, rfl, rfl, by decide +kernel, rfl, by decide +kernel, by decide +kernel⟩
theorem ok_l_made {f : Addr} {fd : FuncData} (F : Fun K "_law_made" "_law_made" s_l_made f fd) (Dta : Kn P w K mg base CX0 1 "_law_take" ["state", "many"] spTake) (Dfr : Kn P w K mg base CX0 1 "_law_frac" ["top", "bottom"] (spFr K)) (Dpl : Kn P w K mg base CX0 2 "_law_plus" ["q", "r"] (sp2 K P2 plus)) (Dti : Kn P w K mg base CX0 2 "_law_times" ["q", "r"] (sp2 K P2 times)) (Dso : Kn P w K mg base CX0 2 "_law_some" ["state"] (spSome K)) : FnOk P w K mg base CX0 3 f fd ["state", "plan"] (spMade K) := by
  refine F.ok sc_l_made (fun vs H Q E h => ?_) (fun cdv A outer s H vs Q E hr h => ?_)
  · obtain ⟨_, _, _, _, _, rfl, _⟩ := h
    rfl
  · obtain ⟨d, t, p, N, v1, rfl, nd, dN, hs, ht, hz, hb, h1, kk⟩ := h
    refine ⟨_, (pss_cons (ps_set (i := 2) sc_l_made.nd rfl (.inl rfl) (pe_lst pa_nil))
    (pss_cons (ps_for PassesOwn.never rfl (pi_list (pe_ix ix_tup (pv 1) pe_int (fun _ _ => rfl))) (pg_tup rfl (pgs_cons (pg_name (i := 3) sc_l_made.nd rfl (.inl rfl)) (pgs_cons (pg_name (i := 4) sc_l_made.nd rfl (.inl rfl)) pgs_nil)))
    (pss_cons (ps_set (i := 5) sc_l_made.nd rfl (.inl rfl) (pe_kn Dfr (hr.mono (by decide)) rfl pass0 (pa_cons (pe_kn Dta (hr.mono (by decide)) rfl pass0 (pa_cons (pv 0) (pa_cons pe_int pa_nil))) (pa_cons pe_int pa_nil))))
    (pss_cons (ps_set (i := 6) sc_l_made.nd rfl (.inl rfl) (pe_kn Dpl (hr.mono (by decide)) rfl pass0 (pa_cons (pv 3) (pa_cons (pe_kn Dti (hr.mono (by decide)) rfl pass0 (pa_cons (pv 5) (pa_cons (pe_kn Dpl (hr.mono (by decide)) rfl pass0 (pa_cons (pv 4) (pa_cons (pe_tup (pa_cons (pe_un un_neg (pe_ix ix_tup (pv 3) pe_int (fun _ _ => rfl))) (pa_cons (pe_ix ix_tup (pv 3) pe_int (fun _ _ => rfl)) pa_nil))) pa_nil))) pa_nil))) pa_nil))))
    (pss_cons (ps_if (pt_cmpR op_eq (pe_kn Dta (hr.mono (by decide)) rfl pass0 (pa_cons (pv 0) (pa_cons pe_int pa_nil))) pe_int (nomark _)) (pss_one (ps_set (i := 6) sc_l_made.nd rfl (.inl rfl) (pe_kn Dpl (hr.mono (by decide)) rfl pass0 (pa_cons (pv 6) (pa_cons (pe_kn Dso (hr.mono (by decide)) rfl pass0 (pa_cons (pv 0) pa_nil)) pa_nil))))) pss_nil)
    (pss_one (ps_expr (pe_bm PySem.F.plainAttrs_list PySem.F.slot_list_append PySem.F.type_list_append mt_append (pv 2) (pa_cons (pv 6) pa_nil))))))))
    (pss_one (ps_ret (pv 2))))), ?_⟩
    refine q_mkL dN fun l hl nl => ?_
    have nld : l ≠ d := fun z => nl (by rw [z]; exact nd)
    have uu : Up N (ad N l) H (upd H l (.lst [])) := .ad dN hl
    have dd := uu.d
    have ndA : (ad N l) d := .inl nd
    have hs0 : Sta d t (upd H l (.lst [])) := hs.same (same_new hl)
    obtain ⟨kv0, ed0⟩ : ∃ kvs, (upd H l (.lst [])) d = some (.dK kvs) := let ⟨_, _, _, e, _⟩ := hs0; ⟨_, e⟩
    refine q_for (N := ad N l) (F := fB K) (ds := p.sizes) (fun H1 i σ' H' => ∃ (made : List Sh.Q) (a b c e : Option V), σ' = [some (.ref d), some v1, some (.ref l), a, b, c, e] ∧ made.length = i ∧ (∀ q ∈ made, Bd 68 q) ∧ But2 d l H1 H' ∧ Sta d (t + 5 * i) H' ∧ Gw (ad N l) (fQ K) l made H') (ge_pS (ge_v (F := fPl K) rfl ((fPl K).lift uu h1))) dd (fun H1 s1 => ⟨[], _, _, _, _, rfl, rfl, (fun q hq => nomatch hq), .of (Same.refl _), hs0.same s1, .nil (s1 l _ upd_same)⟩) (fun H1 i σ' H' s1 ⟨_, _, _, _, _, _, _, _, c, _⟩ => c.kp ndA ad_self (s1 d _ ed0) (s1 l _ upd_same)) ?_ ?_
    · rintro H1 i s x σ' H' s1 hi ⟨tt, x1, x2, rfl, htt, r1, r2⟩ ⟨made, a, b, c, e, rfl, hlen, hmade, bt, st, gw⟩
      have hil := (List.getElem?_eq_some_iff.mp hi).1
      have hbs := hb s (List.mem_of_getElem? hi)
      have dH : Dom (ad N l) H' := (Dom.same dd s1).but2 bt st.ne gw.ne
      have ht5 : t + 5 * i + 5 ≤ 1000000 := by omega
      refine n_tup2 htt ?_
      refine qd_set (N := ad N l) (d := d) (t := t + 5 * i) (t' := t + 5 * i + 1) (gd_fr (K := K) ndA (gd_takeC rfl (by omega) (by decide) (by decide)) (gd_i (z := 8)) (by rintro y rfl; decide)) st fun vp H2 b2 s2 ⟨part, rp, x0, y0, ⟨k0, k1⟩, ey, ep⟩ => ?_
      subst ey ep
      have kp2 := st.kp b2 ndA
      have d2 : Dom (ad N l) H2 := dH.but b2 s2.ne
      have r1' := (fQ K).fr kp2 r1
      have r2' := (fQ K).fr kp2 r2
      have np : Nb 8 8 (fr x0 8) := fr_nb (by omega) (by decide) (by decide)
      have nn : Nb 500000000000 97 (-s.1.1, s.1.2) := neg_nb hbs.s1
      have n1 := (plus_nb hbs.s2 nn).mono (A' := 2 ^ 90) (B' := 2 ^ 90) (by decide) (by decide)
      have n2 := (times_nb np (plus_nb hbs.s2 nn)).mono (A' := 2 ^ 90) (B' := 2 ^ 90) (by decide) (by decide)
      have n3 := made_one hbs k0 k1
      refine q_set (N := ad N l) (ge_2 (K := K) (f := plus) (pre := P2) (q := s.1) (r := times (fr x0 8) (plus s.2 (-s.1.1, s.1.2))) (ge_v (F := fQ K) rfl r1') (ge_2 (f := times) (pre := P2) (ge_v (F := fQ K) rfl rp) (ge_2 (f := plus) (pre := P2) (ge_v (F := fQ K) rfl r2') (ge_mkQ (q := (-s.1.1, s.1.2)) (ge_un (ge_q0 (K := K) (q := s.1) (ge_v (F := fQ K) rfl r1'))) (ge_q1 (K := K) (q := s.1) (ge_v (F := fQ K) rfl r1'))) ?_) ?_) ?_) d2 fun vz H3 s3 rz => ?_
      · exact nb_p2 hbs.s2 nn (by decide) (by decide) (by decide) (by decide)
      · exact nb_p2 np n1 (by decide) (by decide) (by decide) (by decide)
      · exact nb_p2 hbs.s1 n2 (by decide) (by decide) (by decide) (by decide)
      have st3 := s2.same s3
      have bt3 : But2 d l H1 H3 := bt.trans ((But2.ofD b2).trans (.of s3))
      have gw3 : Gw (ad N l) (fQ K) l made H3 := by
        obtain ⟨xs, q, pr⟩ := gw
        exact ⟨xs, s3 l _ (b2 l _ q nld), Paired.mapP pr fun _ _ z => (fQ K).same s3 ((fQ K).fr kp2 z)⟩
      refine qd_when (N := ad N l) (d := d) (t := t + 5 * i + 1) (t' := t + 5 * i + 1 + 1) (gd_eq ndA (gd_takeC rfl (by omega) (by decide) (by decide)) gd_i) st3 (fun H4 b4 s4 => ?_) (fun H4 b4 s4 => ?_)
      · have kp4 := st3.kp b4 ndA
        refine sd_set (N := ad N l) (d := d) (t := t + 5 * i + 1 + 1) (t' := t + 5 * i + 1 + 1 + 3) (gd_2 (K := K) (pre := P2) (f := plus) (p2 := fun z => z = plus s.1 (times (fr x0 8) (plus s.2 (-s.1.1, s.1.2)))) (q2 := SomeQ) ndA (gd_v rfl s4 ndA ks_rX ⟨_, (fQ K).fr kp4 rz, rfl⟩) (gd_call rfl (by omega) fun _ _ h => h) ?_) s4 fun v5 H5 b5 s5 ⟨q5, r5, x5, y5, e5, h5, eq5⟩ => ?_
        · rintro x y rfl hy
          exact nb_p2 n3 hy.2 (by decide) (by decide) (by decide) (by decide)
        · subst e5 eq5
          have kp5 := s4.kp b5 ndA
          have gw5 : Gw (ad N l) (fQ K) l made H5 := by
            obtain ⟨xs, q, pr⟩ := gw3
            exact ⟨xs, b5 l _ (b4 l _ q nld) nld, Paired.mapP pr fun _ _ z => (fQ K).fr (kp4.trans kp5) z⟩
          have bt5 : But2 d l H1 H5 := bt3.trans ((But2.ofD b4).trans (.ofD b5))
          have d5 : Dom (ad N l) H5 := (Dom.same dd s1).but2 bt5 s5.ne gw5.ne
          refine s_app (F := fQ K) rfl (ga1 (ge_v (F := fQ K) rfl r5) ((fQ K).mn _)) d5 ad_self gw5 (by omega) fun H6 b6 gw6 => ⟨made ++ [_], _, _, _, _, rfl, by rw [List.length_append, hlen]; rfl, fun q hq => ?_, bt5.trans (.ofL b6), ?_, gw6⟩
          · rcases List.mem_append.mp hq with m | m
            · exact hmade q m
            · rw [List.mem_singleton.mp m]
              exact (made_more n3 h5).bd (by decide) (by decide)
          · obtain ⟨r, m, u, e, hu⟩ := s5
            exact ⟨r, m, u, b6 d _ e (Ne.symm nld), by omega⟩
      · have kp4 := st3.kp b4 ndA
        have gw4 : Gw (ad N l) (fQ K) l made H4 := by
          obtain ⟨xs, q, pr⟩ := gw3
          exact ⟨xs, b4 l _ q nld, Paired.mapP pr fun _ _ z => (fQ K).fr kp4 z⟩
        have bt4 : But2 d l H1 H4 := bt3.trans (But2.ofD b4)
        have d4 : Dom (ad N l) H4 := (Dom.same dd s1).but2 bt4 s4.ne gw4.ne
        refine s_app (F := fQ K) rfl (ga1 (ge_v (F := fQ K) rfl ((fQ K).fr kp4 rz)) ((fQ K).mn _)) d4 ad_self gw4 (by omega) fun H6 b6 gw6 => ⟨made ++ [_], _, _, _, _, rfl, by rw [List.length_append, hlen]; rfl, fun q hq => ?_, bt4.trans (.ofL b6), ?_, gw6⟩
        · rcases List.mem_append.mp hq with m | m
          · exact hmade q m
          · rw [List.mem_singleton.mp m]
            exact n3.bd (by decide) (by decide)
        · obtain ⟨r, m, u, e, hu⟩ := s4
          exact ⟨r, m, u, b6 d _ e (Ne.symm nld), by omega⟩
    · rintro H1 σ' H' s1 ⟨made, a, b, c, e, rfl, hlen, hmade, bt, st, gw⟩
      refine ⟨_, rfl, kk _ H' (fun a o ea na => ?_) ⟨made, gw.done (fun _ h => .inl h) nl, hmade⟩⟩
      exact bt a o (s1 a o (same_new hl a o ea)) na (ne_of_none ea hl)
theorem kn_l_made (D : Df K mg "_law_made" s_l_made) (Dta : Kn P w K mg base CX0 1 "_law_take" ["state", "many"] spTake) (Dfr : Kn P w K mg base CX0 1 "_law_frac" ["top", "bottom"] (spFr K)) (Dpl : Kn P w K mg base CX0 2 "_law_plus" ["q", "r"] (sp2 K P2 plus)) (Dti : Kn P w K mg base CX0 2 "_law_times" ["q", "r"] (sp2 K P2 times)) (Dso : Kn P w K mg base CX0 2 "_law_some" ["state"] (spSome K)) : Kn P w K mg base CX0 3 "_law_made" ["state", "plan"] (spMade K) :=
  kn_of D (fun _ _ F => F.binds fun _ _ _ _ _ _ us hl => match us, hl with | [_, _], _ => rfl) fun _ _ F => ok_l_made F Dta Dfr Dpl Dti Dso
end
end Sh
/-! told, wider, two -/
namespace Sh
open PySem PySem.Spec PyProof.Rows L2
theorem sl_listK {X : Cx} {K : PySem.W.Frag} (h : X.K = K) : SlR X (rSlL K) := h ▸ sl_list
theorem cut_take (xs : List V) (k : Nat) : cutV xs none (some (k : Int)) = xs.take k := by
  unfold cutV
  rw [HT.sIx_none, HT.sIx_nat, List.drop_zero, Nat.sub_zero]
  rcases Nat.le_total k xs.length with h | h
  · rw [Nat.min_eq_left h]
  · rw [Nat.min_eq_right h, List.take_of_length_le (Nat.le_refl _), List.take_of_length_le h]
theorem cut_drop (xs : List V) (k : Nat) : cutV xs (some (k : Int)) none = xs.drop k := by
  unfold cutV
  rw [HT.sIx_none, HT.sIx_nat]
  rcases Nat.le_total k xs.length with h | h
  · rw [Nat.min_eq_left h, List.take_of_length_le (by rw [List.length_drop]; omega)]
  · rw [Nat.min_eq_right h, List.drop_eq_nil_of_le (Nat.le_refl _), List.drop_eq_nil_of_le h, List.take_nil]
section
variable {K : PySem.W.Frag} {σ : St} {N : AS} {H : Hp} {ta tk te : TE} {α : Type} {F : Fam α}
theorem ge_slT {ds : List α} {k : Nat} {i : Int} (ha : Ge ta σ N H ((fL F).r ds)) (hk : Ge tk σ N H (vI i)) (ei : i = (k : Int)) : Ge (tSl (rSlL K) ta tNoPart (tPart tk)) σ N H ((fL F).r (ds.take k)) := fun N1 H1 u Q q =>
  ha N1 H1 u _ fun x H2 s2 ⟨a, xs, e, h, n, p⟩ => hk N1 H2 (u.more s2) _ fun y H3 s3 e2 => ⟨i, e2, a, xs, e, .of (s3 a _ h), fun l hl => q _ _ ((s2.trans s3).trans (same_new hl)) ⟨l, _, rfl, upd_same, ((u.more s2).more s3).dom.new hl, by
    rw [ei, cut_take]
    exact Paired.tk k (Paired.mapP p fun _ _ z => F.same (s3.trans (same_new hl)) z)⟩⟩
theorem ge_slD {ds : List α} {k : Nat} {i : Int} (ha : Ge ta σ N H ((fL F).r ds)) (hk : Ge tk σ N H (vI i)) (ei : i = (k : Int)) : Ge (tSl (rSlL K) ta (tPart tk) tNoPart) σ N H ((fL F).r (ds.drop k)) := fun N1 H1 u Q q =>
  ha N1 H1 u _ fun x H2 s2 ⟨a, xs, e, h, n, p⟩ => hk N1 H2 (u.more s2) _ fun y H3 s3 e2 => ⟨i, e2, a, xs, e, .of (s3 a _ h), fun l hl => q _ _ ((s2.trans s3).trans (same_new hl)) ⟨l, _, rfl, upd_same, ((u.more s2).more s3).dom.new hl, by
    rw [ei, cut_drop]
    exact Paired.dp k (Paired.mapP p fun _ _ z => F.same (s3.trans (same_new hl)) z)⟩⟩
/-- xs[:k] + [x] + xs[k:] -/
theorem ge_ins {t1 t2 tk2 : TE} {ds : List α} {k : Nat} {i : Int} {x : α} (h1 : Ge t1 σ N H ((fL F).r ds)) (hk : Ge tk σ N H (vI i)) (hx : Ge te σ N H (F.r x)) (h2 : Ge t2 σ N H ((fL F).r ds)) (hk2 : Ge tk2 σ N H (vI i)) (ei : i = (k : Int)) (hl : ds.length ≤ 1000000) :
    Ge (tOp rCat (tOp rCat (tSl (rSlL K) t1 tNoPart (tPart tk)) (tLst (tCons te tNil))) (tSl (rSlL K) t2 (tPart tk2) tNoPart)) σ N H ((fL F).r (ins k x ds)) :=
  ge_cat (ge_cat (ge_slT h1 hk ei) (ge_lst (ds := [x]) (ga_lcons hx ga_lnil) (by show 1 ≤ 1000; decide)) (by rw [List.length_take]; show _ + 1 ≤ _; omega)) (ge_slD h2 hk2 ei) (by rw [List.length_append, List.length_take, List.length_drop]; show (_ + 1) + _ ≤ _; omega)
/-- a comprehension over rows, to rows -/
theorem ge_lcRow {tl : TE} {ds : List Row} {vs : List Nat} {i1 i2 i3 : Nat} (h : Row → Row) (gl : Ge tl σ N H ((fL (fR K)).r ds)) (hl : ds.length ≤ 10000000) (hw : ∀ x y z, wipe ((((wipe σ vs).set i1 (some x)).set i2 (some y)).set i3 (some z)) vs = wipe σ vs)
    (he : ∀ N' H1 r x y z, r ∈ ds → Up N N' H H1 → (fQs K).r r.a N' H1 x → (fQs K).r r.b N' H1 y → (fQ K).r r.c N' H1 z → Ge te ((((wipe σ vs).set i1 (some x)).set i2 (some y)).set i3 (some z)) N' H1 ((fR K).r (h r))) :
    Ge (tLc (iList K tl) (gTup K 3 (gCons (gName i1) (gCons (gName i2) (gCons (gName i3) gNil)))) tYes te vs) σ N H ((fL (fR K)).r (ds.map h)) := by
  have := ge_lc (K := K) (F := fR K) (G := fR K) (g := gTup K 3 (gCons (gName i1) (gCons (gName i2) (gCons (gName i3) gNil)))) (t := tYes) (te := te) (σ := σ) (N := N) (H := H) (vs := vs) (fun _ => true) h (fun r N' H1 σ2 => ∃ x y z, σ2 = ((((wipe σ vs).set i1 (some x)).set i2 (some y)).set i3 (some z)) ∧ (fQs K).r r.a N' H1 x ∧ (fQs K).r r.b N' H1 y ∧ (fQ K).r r.c N' H1 z) gl hl
    (fun N' H1 d v k ⟨a, x, y, z, e, ht, h1, h2, h3⟩ hk => by
      subst e
      exact n_tup3 ht (hk _ ⟨x, y, z, rfl, h1, h2, h3⟩)) (fun N' H1 d σ2 ⟨x, y, z, e, _⟩ => by rw [e]; exact hw x y z)
    (fun N' H1 d σ2 md u _ => gt_yes) (fun N' H1 d σ2 md c u ⟨x, y, z, e, h1, h2, h3⟩ => by rw [e]; exact he N' H1 d x y z md u h1 h2 h3)
  rw [filter_true] at this
  exact this
end
def two (p : Plan) : Plan := ⟨p.sizes, p.shims.take 2, p.demands.map fun r => ⟨r.a, r.b.take 2, r.c⟩⟩
def rC (K : PySem.W.Frag) (o : Option (List Q)) : RP := fun N H v => match o with
  | none => v = .non
  | some ch => (fQs K).r ch N H v
section
variable {P : Program} {w : World} {K : PySem.W.Frag} {mg : Str → Option Value} {base : Heap} {aN aO aM aC : Addr}
def spTold (K : PySem.W.Frag) : Sp := fun vs H Q _ => ∃ (rule : List Step × List Row) (made : List Sh.Q) (N : AS), Dom N H ∧ ChPre rule made ∧ A2 ((fU K).r rule) ((fQs K).r made) N H vs ∧ ∀ v H', Same H H' → rC K (chosenBy rule made) N H' v → Q v H'
abbrev s_l_told : Stmt := top 39
theorem sc_l_told : FnScope ["rule", "made", "found"] ["rule", "made"] (defScope s_l_told) := ⟨rfl, rfl, rfl, by decide +kernel, rfl, by decide +kernel, by decide +kernel⟩
theorem ok_l_told {f : Addr} {fd : FuncData} (F : Fun K "_law_told" "_law_told" s_l_told f fd) (T : Txt K mg aN aO aM aC) (Dch : Kn P w K mg base (L2.CX P w) 5 "chosen_by" ["rule", "made"] (spChosen K aC)) : FnOk P w K mg base CX0 6 f fd ["rule", "made"] (spTold K) := by
  refine F.ok sc_l_told (fun vs H Q E h => ?_) (fun cdv A outer s H vs Q E hr h => ?_)
  · obtain ⟨_, _, _, _, _, ⟨_, _, rfl, _⟩, _⟩ := h
    rfl
  · obtain ⟨rule, made, N, d, hp, ⟨v0, v1, rfl, h0, h1⟩, kk⟩ := h
    refine ⟨_, (pss_cons (ps_set (i := 2) sc_l_told.nd rfl (.inl rfl) pe_non)
      (pss_cons (ps_try_only (tb := fun W => tAsg (tCallS (spChosen K aC) (WE W) (tCons (tVar 0) (tCons (tVar 1) tNil))) (gName 2)) (ts := fun _ _ _ => tAsg (tC .non) (gName 2)) (Wout := fun _ _ _ _ => False) rfl rfl ⟨rfl, by decide, Or.inl T.gC⟩ takes0
        (fun W pn xe tk _ => pss_one (ps_set (i := 2) sc_l_told.nd rfl (.inl rfl) (by exact (pe_knS Dch (hr.mono (by decide)) rfl (fun σ => passAt tk σ) (by exact (pa_cons (pv 0) (pa_cons (pv 1) pa_nil)))))))
        (fun a oe cls d pn hz hf => pss_one (ps_set (i := 2) sc_l_told.nd rfl (.inl rfl) pe_non)))
      (pss_one (ps_ret (pv 2))))), ?_⟩
    refine q_setV (N := N) ge_c d fun H2 s2 => ?_
    refine ⟨_, rfl, _, rfl, rule, made, N, d.same s2, hp, ⟨v0, v1, rfl, (fU K).same s2 h0, (fQs K).same s2 h1⟩, fun hf H3 s3 => ?_, fun hf v H3 s3 r => ?_⟩
    · refine ⟨true, T.eC, fun _ a ha => ?_, fun q => Bool.noConfusion q⟩
      refine ⟨_, rfl, kk _ H3 (s2.trans s3) ?_⟩
      unfold chosenBy
      rw [hf]
      exact rfl
    · refine ⟨_, rfl, kk _ H3 (s2.trans s3) ?_⟩
      unfold chosenBy
      rw [hf]
      exact r
theorem kn_l_told (D : Df K mg "_law_told" s_l_told) (T : Txt K mg aN aO aM aC) (Dch : Kn P w K mg base (L2.CX P w) 5 "chosen_by" ["rule", "made"] (spChosen K aC)) : Kn P w K mg base CX0 6 "_law_told" ["rule", "made"] (spTold K) :=
  kn_of D (fun _ _ F => F.binds fun _ _ _ _ _ _ us hl => match us, hl with | [_, _], _ => rfl) fun _ _ F => ok_l_told F T Dch
structure Wi where
  p : Plan
  j : Nat
  s : Q × Q
def spWider (K : PySem.W.Frag) : Sp := PSp (fun d : Wi => d.p.shims.length ≤ 1000 ∧ d.p.demands.length ≤ 1000 ∧ ∀ r ∈ d.p.demands, r.b.length ≤ 1000) (fun d => A3 ((fPl K).r d.p) (vI (d.j : Int)) ((fB K).r d.s)) (fun d => (fPl K).r (wider d.p d.j d.s))
abbrev s_l_wider : Stmt := top 40
theorem sc_l_wider : FnScope ["plan", "at", "bounds", "demands", "a", "b", "c"] ["plan", "at", "bounds"] (defScope s_l_wider) := ⟨rfl, rfl, rfl, by decide +kernel, rfl, by decide +kernel, by decide +kernel⟩
theorem ok_l_wider {f : Addr} {fd : FuncData} (F : Fun K "_law_wider" "_law_wider" s_l_wider f fd) : FnOk P w K mg base CX0 1 f fd ["plan", "at", "bounds"] (spWider K) := by
  refine F.ok sc_l_wider (fun vs H Q E h => ?_) (fun cdv A outer s H vs Q E hr h => ?_)
  · obtain ⟨x, N, _, _, ⟨_, _, _, rfl, _⟩, _⟩ := h
    rfl
  · obtain ⟨⟨p, j, sh⟩, N, d, ⟨hm, hd, hb⟩, ⟨v0, v1, v2, rfl, h0, h1, h2⟩, k⟩ := h
    simp only at hm hd hb h0 h1 h2
    subst h1
    refine ⟨_, (pss_cons (ps_setLc (i := 3) (own := [("a", 4), ("b", 5), ("c", 6)]) rfl sc_l_wider.nd rfl rfl (sw_true rfl rfl rfl (by decide +kernel)) (pi_list (pe_ix ix_tup (pv 0) pe_int (fun _ _ => rfl))) (blkOk_by (own := [("a", 4), ("b", 5), ("c", 6)]) (N := ["plan", "at", "bounds", "demands", "a", "b", "c"]) (sc := defScope s_l_wider) (by decide +kernel)) (fun _ _ _ _ _ => (pg_tupK (K := K) (n := 3) rfl rfl (pgs_cons (pg_name (i := 4) sc_l_wider.nd rfl (.inl rfl) (.inr rfl)) (pgs_cons (pg_name (i := 5) sc_l_wider.nd rfl (.inl rfl) (.inr rfl)) (pgs_cons (pg_name (i := 6) sc_l_wider.nd rfl (.inl rfl) (.inr rfl)) pgs_nil))))) (fun _ _ _ _ _ => pts_nil) (fun _ _ _ _ _ => (pe_tup (pa_cons (pv 4) (pa_cons (pe_op op_cat (pe_op op_cat (pe_slice (sl_listK (K := K) rfl) (pv 5) po_none (po_some (pv 1))) (pe_lst (pa_cons (pe_tup (pa_cons pe_int (pa_cons pe_int pa_nil))) pa_nil))) (pe_slice (sl_listK (K := K) rfl) (pv 5) (po_some (pv 1)) po_none)) (pa_cons (pv 6) pa_nil))))))
    (pss_one (ps_ret (pe_tup (pa_cons (pe_ix ix_tup (pv 0) pe_int (fun _ _ => rfl)) (pa_cons (pe_op op_cat (pe_op op_cat (pe_slice sl_list (pe_ix ix_tup (pv 0) pe_int (fun _ _ => rfl)) po_none (po_some (pv 1))) (pe_lst (pa_cons (pv 2) pa_nil))) (pe_slice sl_list (pe_ix ix_tup (pv 0) pe_int (fun _ _ => rfl)) (po_some (pv 1)) po_none)) (pa_cons (pv 3) pa_nil))))))), ?_⟩
    refine q_set (N := N) (ge_lcRow (K := K) (fun r => ⟨r.a, ins j zero r.b, r.c⟩) (ge_pD (ge_v (F := fPl K) rfl h0)) (by omega) (fun x y z => rfl) fun N' H1 r x y z hr' up ra rb rc => ge_mkR (r := ⟨r.a, ins j zero r.b, r.c⟩) (ge_v (F := fQs K) rfl ra) (ge_ins (F := fQ K) (ge_v (F := fQs K) rfl rb) (ge_vi rfl) (ge_mkQ (q := zero) ge_i ge_i) (ge_v (F := fQs K) rfl rb) (ge_vi rfl) rfl (by have := hb r hr'; omega)) (ge_v (F := fQ K) rfl rc)) d fun vd H2 s2 rd => ?_
    have h0' := (fPl K).same s2 h0
    exact s_ret (N := N) (ge_mkT (F := fL (fB K)) (G := fL (fB K)) (I := fL (fR K)) (p1 := Plan.sizes) (p2 := Plan.shims) (p3 := Plan.demands) (d := wider p j sh) (ge_pS (p := p) (ge_v (F := fPl K) rfl h0')) (ge_ins (F := fB K) (ge_pH (ge_v (F := fPl K) rfl h0')) (ge_vi rfl) (ge_v (F := fB K) rfl ((fB K).same s2 h2)) (ge_pH (ge_v (F := fPl K) rfl h0')) (ge_vi rfl) rfl (by omega)) (ge_v (F := fL (fR K)) rfl rd)) (d.same s2) fun v H3 s3 r => k v H3 (s2.trans s3) r
theorem kn_l_wider (D : Df K mg "_law_wider" s_l_wider) : Kn P w K mg base CX0 1 "_law_wider" ["plan", "at", "bounds"] (spWider K) :=
  kn_of D (fun _ _ F => F.binds fun _ _ _ _ _ _ us hl => match us, hl with | [_, _, _], _ => rfl) fun _ _ F => ok_l_wider F
def spTwo (K : PySem.W.Frag) : Sp := PSp (fun p : Plan => p.demands.length ≤ 1000) (fun p => A1 ((fPl K).r p)) (fun p => (fPl K).r (two p))
abbrev s_l_two : Stmt := top 41
theorem sc_l_two : FnScope ["plan", "a", "b", "c"] ["plan"] (defScope s_l_two) := ⟨rfl, rfl, rfl, by decide +kernel, rfl, by decide +kernel, by decide +kernel⟩
theorem ok_l_two {f : Addr} {fd : FuncData} (F : Fun K "_law_two" "_law_two" s_l_two f fd) : FnOk P w K mg base CX0 1 f fd ["plan"] (spTwo K) := by
  refine F.ok sc_l_two (fun vs H Q E h => ?_) (fun cdv A outer s H vs Q E hr h => ?_)
  · obtain ⟨x, N, _, _, ⟨_, rfl, _⟩, _⟩ := h
    rfl
  · obtain ⟨p, N, d, hd, ⟨v0, rfl, h0⟩, k⟩ := h
    refine ⟨_, (pss_one (ps_ret (pe_tup (pa_cons (pe_ix ix_tup (pv 0) pe_int (fun _ _ => rfl)) (pa_cons (pe_slice sl_list (pe_ix ix_tup (pv 0) pe_int (fun _ _ => rfl)) po_none (po_some pe_int)) (pa_cons (pe_lc (own := [("a", 1), ("b", 2), ("c", 3)]) (by rfl) sc_l_two.nd (pi_list (pe_ix ix_tup (pv 0) pe_int (fun _ _ => rfl))) (blkOk_by (own := [("a", 1), ("b", 2), ("c", 3)]) (N := ["plan", "a", "b", "c"]) (sc := defScope s_l_two) (by decide +kernel)) (fun _ _ _ _ _ => (pg_tupK (K := K) (n := 3) rfl rfl (pgs_cons (pg_name (i := 1) sc_l_two.nd rfl (.inl rfl) (.inr rfl)) (pgs_cons (pg_name (i := 2) sc_l_two.nd rfl (.inl rfl) (.inr rfl)) (pgs_cons (pg_name (i := 3) sc_l_two.nd rfl (.inl rfl) (.inr rfl)) pgs_nil))))) (fun _ _ _ _ _ => pts_nil) (fun _ _ _ _ _ => (pe_tup (pa_cons (pv 1) (pa_cons (pe_slice (sl_listK (K := K) rfl) (pv 2) po_none (po_some pe_int)) (pa_cons (pv 3) pa_nil)))))) pa_nil)))))), ?_⟩
    exact s_ret (N := N) (ge_mkT (F := fL (fB K)) (G := fL (fB K)) (I := fL (fR K)) (p1 := Plan.sizes) (p2 := Plan.shims) (p3 := Plan.demands) (d := two p) (ge_pS (p := p) (ge_v (F := fPl K) rfl h0)) (ge_slT (F := fB K) (k := 2) (ge_pH (ge_v (F := fPl K) rfl h0)) ge_i rfl) (ge_lcRow (K := K) (fun r => ⟨r.a, r.b.take 2, r.c⟩) (ge_pD (ge_v (F := fPl K) rfl h0)) (by omega) (fun x y z => rfl) fun N' H1 r x y z hr' up ra rb rc => ge_mkR (r := ⟨r.a, r.b.take 2, r.c⟩) (ge_v (F := fQs K) rfl ra) (ge_slT (F := fQ K) (k := 2) (ge_v (F := fQs K) rfl rb) ge_i rfl) (ge_v (F := fQ K) rfl rc))) d fun v H3 s3 r => k v H3 s3 r
theorem kn_l_two (D : Df K mg "_law_two" s_l_two) : Kn P w K mg base CX0 1 "_law_two" ["plan"] (spTwo K) :=
  kn_of D (fun _ _ F => F.binds fun _ _ _ _ _ _ us hl => match us, hl with | [_], _ => rfl) fun _ _ F => ok_l_two F
end
end Sh
/-! law -/
namespace Sh
open PySem PySem.Spec PyProof.Rows L2
/-! ### plain facts -/
theorem BoundOk.bd {b : Q × Q} (h : BoundOk b) : Bd 41 b.1 ∧ Bd 41 b.2 ∧ Bd 41 (minus zero b.1) := by
  have h1 : Bd 41 b.1 := h.s1.bd (by decide) (by decide)
  refine ⟨h1, h.s2.bd (by decide) (by decide), ?_⟩
  rw [minus_zero h.n1]
  exact ⟨by show (-b.1.1).natAbs < _; rw [Int.natAbs_neg]; exact h1.1, h1.2⟩
theorem two_small {p : Plan} (h : PlanOk p) : Small (two p) ∧ (two p).shims.length ≤ 2 := by
  have l2 : (two p).shims.length ≤ 2 := by
    show (p.shims.take 2).length ≤ 2
    rw [List.length_take]
    omega
  refine ⟨⟨⟨h.s1, fun s hs => ?_, fun r hr => ?_, fun r hr => ?_⟩, h.s6, ?_, fun s hs => ?_, fun r hr => ?_⟩, l2⟩
  · have := h.hb s (List.mem_of_mem_take hs)
    exact ⟨this.n1, this.n2, this.le⟩
  · obtain ⟨q, hq, e⟩ := List.mem_map.mp hr
    obtain ⟨e1, e2, e3, e4, e5⟩ := h.db q hq
    rw [← e]
    refine ⟨?_, fun x hx => (e4 x (List.mem_of_mem_take hx)).1, fun x hx => (e3 x hx).1, e5.1⟩
    show (q.b.take 2).length = (p.shims.take 2).length
    rw [List.length_take, List.length_take, e2]
  · obtain ⟨q, hq, e⟩ := List.mem_map.mp hr
    rw [← e]
    exact (h.db q hq).1
  · show (p.demands.map _).length ≤ 8
    rw [List.length_map]
    exact h.d8
  · exact (h.hb s (List.mem_of_mem_take hs)).bd
  · obtain ⟨q, hq, e⟩ := List.mem_map.mp hr
    obtain ⟨e1, e2, e3, e4, e5⟩ := h.db q hq
    rw [← e]
    exact ⟨fun x hx => (e3 x hx).2, fun x hx => (e4 x (List.mem_of_mem_take hx)).2, e5.2.bd (by decide) (by decide)⟩
theorem len_of {p : Plan} (h : Small p) (hm : p.shims.length ≤ 3) {r : Row} (hr : Rk p.shims.length r ∧ r.a.length = p.sizes.length) : lenOk r := by
  have h1 := hr.1.len
  have h2 := hr.2
  have h3 := h.n6
  show _ + _ ≤ 1000
  omega
theorem pre_of {p : Plan} {made : List Q} (h : Small p) (hm : p.shims.length ≤ 3) (ok : ChOk (ruleOf p) made) : ChPre (ruleOf p) made := by
  obtain ⟨k1, k2⟩ := rule_rk h.good
  refine ⟨ok, fun r hr => len_of h hm (k2 r hr), fun s hs r hr => len_of h hm ((k1 s hs).1 r hr), ?_⟩
  rw [(rule_steps p).1]
  omega
theorem choose_len {made : List Q} : ∀ (S : List Step) (ch : List Q), (choose S made ch).length = ch.length + S.length
  | [], ch => rfl
  | s :: S, ch => by
    show (choose S made (ch ++ [(bestOf s.1 made ch ch.length).getD zero])).length = _
    rw [choose_len S, List.length_append]
    simp only [List.length_cons, List.length_nil]
    omega
theorem chosen_len {p : Plan} {made ch : List Q} (h : chosenBy (ruleOf p) made = some ch) : ch.length = p.shims.length := by
  unfold chosenBy at h
  split at h
  · cases h
  · rw [← Option.some.inj h, choose_len, (rule_steps p).1, List.length_nil, Nat.zero_add]
theorem below_self (q : Q) : below q q = false := decide_eq_false (by omega)
/-! ### the last expressions -/
def fC (K : PySem.W.Frag) : Fam (Option (List Q)) where
  r := rC K
  fr := @fun x _ _ _ _ k h => match x, h with
    | none, h => h
    | some _, h => (fQs K).fr k h
  dn := @fun x _ _ _ _ k h => match x, h with
    | none, h => h
    | some _, h => (fQs K).dn k h
  up := @fun x _ _ _ _ k h => match x, h with
    | none, h => h
    | some _, h => (fQs K).up k h
section
variable {K : PySem.W.Frag} {σ : St} {N : AS} {d : Addr} {t t1 t2 t' : Nat} {H : Hp} {ta tb tc te : TE} {tn : TA} {E E' : XK} {D : Ends} {u : TS}
theorem ge_two_plan {E1 E2 : XK} {ns : List Int} (ha : Ge ta σ N H ((fSc K).r ns)) : Ge (tCl (spTwo K) E1 (tCons (tCl (spPlan K) E2 (tCons ta tNil)) tNil)) σ N H (rX (fPl K) fun p => ∃ p0, PlanOk p0 ∧ p = two p0) := fun N1 H1 u Q q =>
  (ge_call (pre := fun _ : List Int => True) (A := fun ns => A1 ((fSc K).r ns)) (R := fun _ => rX (fPl K) PlanOk) (E := E2) (x := ns) trivial (ga1 ha ((fSc K).mn _))) N1 H1 u _ fun v H2 s2 ⟨p0, r, hp⟩ =>
    ⟨p0, N1, (u.more s2).dom, by have := hp.d8; omega, ⟨v, rfl, r⟩, fun v' H3 s3 r' => q v' H3 (s2.trans s3) ⟨two p0, r', p0, hp, rfl⟩⟩
theorem ge_rule {p : Plan} (ha : Ge ta σ N H ((fPl K).r p)) (hp : FrOk p) : Ge (tCl (spRule K) E (tCons ta tNil)) σ N H ((fU K).r (ruleOf p)) := ge_call (x := p) hp (ga1 ha ((fPl K).mn _))
theorem ge_wider {p : Plan} {j : Nat} {i : Int} {s : Q × Q} (ha : Ge ta σ N H ((fPl K).r p)) (hb : Ge tb σ N H (vI i)) (hc : Ge tc σ N H ((fB K).r s)) (ei : i = (j : Int)) (hp : p.shims.length ≤ 1000 ∧ p.demands.length ≤ 1000 ∧ ∀ r ∈ p.demands, r.b.length ≤ 1000) : Ge (tCl (spWider K) E (tCons ta (tCons tb (tCons tc tNil)))) σ N H ((fPl K).r (wider p j s)) := by
  subst ei
  exact ge_call (x := Wi.mk p j s) hp (ga3 ha ((fPl K).mn _) hb mn_I hc ((fB K).mn _))
theorem ge_told {rule : List Step × List Row} {made : List Q} (gz : GA tn σ N H (A2 ((fU K).r rule) ((fQs K).r made))) (hp : ChPre rule made) : Ge (tCl (spTold K) E tn) σ N H ((fC K).r (chosenBy rule made)) := fun N1 H1 u Q q =>
  gz N1 H1 u _ fun vs H2 s2 a => ⟨rule, made, N1, (u.more s2).dom, hp, a, fun v H3 s3 r => q v H3 (s2.trans s3) r⟩
/-- _law_made(_law_state(script, k), plan) -/
theorem ge_made {ns : List Int} {k : Nat} {i : Int} {p : Plan} {j : Nat} {vp : V} (gz : GA tn σ N H (A2 ((fSc K).r ns) (vI i))) (ei : i = (k : Int)) (hk : k ≤ 1000) (hj : σ[j]? = some (some vp)) (hv : (fPl K).r p N H vp) (hn : p.sizes.length ≤ 6) (hb : ∀ s ∈ p.sizes, BoundOk s) :
    Ge (tCl (spMade K) E (tCons (tCl (spState K) E' tn) (tCons (tVar j) tNil))) σ N H (rX (fQs K) fun made => ∀ q ∈ made, Bd 68 q) := fun N1 H1 u Q q =>
  gz N1 H1 u _ fun vs H2 s2 a => ⟨ns, k, N1, (u.more s2).dom, hk, by rw [← ei]; exact a, fun d H3 hd s3 st => by
    have u2 := u.more s2
    have up3 : Up N1 (ad N1 d) H2 H3 := ⟨s3, fun _ n => .inl n, fun b n => n.elim .inl fun e => .inr (by rw [e]; exact hd), fun b n => n.elim (Dom.same u2.dom s3 b) fun e => by rw [e]; exact st.ne⟩
    exact ⟨vp, hj, d, k, p, ad N1 d, vp, rfl, ad_self, up3.d, st, by omega, by omega, hb, (fPl K).lift (u2.trans up3) hv, fun v H4 b4 ⟨made, rm, hm⟩ => q v H4 (Same.but (s2.trans s3) b4 (s2.free hd)) ⟨made, (fQs K).dn (fun _ h => .inl h) rm, hm⟩⟩⟩
theorem ge_max {i j : Int} (gz : GA tn σ N H (fun N' H' vs => ∃ x y, vs = [x, y] ∧ vI i N' H' x ∧ vI j N' H' y)) : Ge (tCB (fun xs H Q => ∃ i j, xs = [.int i, .int j] ∧ Q (.int (if j > i then j else i)) H) tn) σ N H (vI (if j > i then j else i)) := fun N1 H1 u Q q =>
  gz N1 H1 u _ fun vs H2 s2 ⟨x, y, e, ex, ey⟩ => ⟨i, j, by rw [e, show x = _ from ex, show y = _ from ey], q _ H2 s2 rfl⟩
theorem ge_min {i j : Int} (gz : GA tn σ N H (fun N' H' vs => ∃ x y, vs = [x, y] ∧ vI i N' H' x ∧ vI j N' H' y)) : Ge (tCB (fun xs H Q => ∃ i j, xs = [.int i, .int j] ∧ Q (.int (if j < i then j else i)) H) tn) σ N H (vI (if j < i then j else i)) := fun N1 H1 u Q q =>
  gz N1 H1 u _ fun vs H2 s2 ⟨x, y, e, ex, ey⟩ => ⟨i, j, by rw [e, show x = _ from ex, show y = _ from ey], q _ H2 s2 rfl⟩
/-- a for over range(lo, lo + n) -/
theorem s_forR2 {lo j : Nat} {hi : Int} {tbd : TS} (Pv : Hp → Nat → St → Hp → Prop) (ga : GA tn σ N H (fun N' H' vs => ∃ x y, vs = [x, y] ∧ vI (lo : Int) N' H' x ∧ vI hi N' H' y)) (hlo : lo ≤ 1000) (hhi : 0 ≤ hi ∧ hi ≤ 1000) (d : Dom N H) (h0 : ∀ H1, Same H H1 → Pv H1 0 σ H1)
    (hs : ∀ H1 (i : Nat) σ' H', Same H H1 → (lo : Int) + (i : Int) < hi → Pv H1 i σ' H' → tbd { D with nx := Pv H1 (i + 1), ct := Pv H1 (i + 1), bk := D.nx } (σ'.set j (some (.int ((lo + i : Nat) : Int)))) H') (hd : ∀ H1 σ' H', Same H H1 → Pv H1 (hi - lo).toNat σ' H' → D.nx σ' H') :
    tFor (iRng2 tn) (gName j) tbd D σ H :=
  ga N H (.refl d) _ fun vs H1 s1 ⟨x, y, e, ex, ey⟩ => ⟨lo, hi, by rw [e, show x = _ from ex, show y = _ from ey], ⟨by omega, by omega, by omega, by omega⟩, for_range (Pv H1) (h0 H1 s1) (fun i σ' H' hi' p => by
    have := hs H1 i σ' H' s1 (by omega) p
    rw [Int.natCast_add] at this
    exact this) fun σ' H' p => hd H1 σ' H' s1 p⟩
def eO : Option (List Q) → PyData
  | none => .none
  | some ch => .list (ch.map eQ)
theorem dp_C {o : Option (List Q)} {v : V} (h : (fC K).r o N H v) : Dp K H v (eO o) := match o, h with
  | none, h => by
    have e : v = .non := h
    rw [e]
    exact .non
  | some _, h => dp_Qs h
theorem eO_shaped (o : Option (List Q)) : SeqAt.shaped (eO o) = true := match o with
  | none => by rfl
  | some ch => eL_shaped ch
theorem eO_eqv (o : Option (List Q)) : PyData.eqv (eO o) (eO o) = true := match o with
  | none => by simp [eO, PyData.eqv]
  | some ch => by
    show PyData.eqv (.list (ch.map eQ)) (.list (ch.map eQ)) = true
    rw [eL_eqv]
    exact decide_eq_true rfl
theorem ge_neC {o : Option (List Q)} (ha : Ge ta σ N H ((fC K).r o)) (hb : Ge tb σ N H ((fC K).r o)) : Ge (tOp (rNeD K) ta tb) σ N H (vB false) :=
  ge_two ha ((fC K).mn o) hb fun N' H' x y _ h1 h2 Q k => ⟨eO o, eO o, dp_C h1, dp_C h2, eO_shaped o, eO_shaped o, k _ H' (Same.refl _) (by show V.bl _ = V.bl _; rw [eO_eqv]; rfl)⟩
theorem ge_notN {i : Nat} {v : V} (h : σ[i]? = some (some v)) : Ge (tOp (fun x y H Q => y = .non ∧ Q (.bl (!decide (x = .non))) H) (tVar i) (tC .non)) σ N H (vB (!decide (v = .non))) :=
  ge_two (R := fun _ _ x => x = v) (S := fun _ _ x => x = .non) (ge_var h (fun _ _ _ _ _ _ h => h) rfl) (fun _ _ _ _ _ _ h => h) ge_c fun N' H' x y _ e1 e2 Q q => ⟨e2, q _ H' (Same.refl _) (by rw [e1]; rfl)⟩
end
section
variable {P : Program} {w : World} {K : PySem.W.Frag} {mg : Str → Option Value} {base : Heap} {aN aO aM aC : Addr}
def spLaw (K : PySem.W.Frag) : Sp := fun vs H Q _ => ∃ (a : Addr) (ns : List Int), vs = [.ref a] ∧ SqL K H a (ns.map V.int) ∧ ∀ H', Q (.bl true) H'
abbrev s_law : Stmt := top 42
theorem sc_law : FnScope ["script", "plan", "rule", "state", "at", "bounds", "both", "other", "k", "made", "choice", "due"] ["script"] (defScope s_law) := ⟨rfl, rfl, rfl, by decide +kernel, rfl, by decide +kernel, by decide +kernel⟩
theorem ok_law {f : Addr} {fd : FuncData} (F : Fun K "law" "law" s_law f fd) (T : Txt K mg aN aO aM aC) (Dtw : Kn P w K mg base CX0 1 "_law_two" ["plan"] (spTwo K)) (Dpn : Kn P w K mg base CX0 4 "_law_plan" ["script"] (spPlan K)) (Dru : Kn P w K mg base CX0 7 "rule_of" ["plan"] (spRule K)) (Dst : Kn P w K mg base CX0 2 "_law_state" ["script", "k"] (spState K)) (Dta : Kn P w K mg base CX0 1 "_law_take" ["state", "many"] spTake) (Dbo : Kn P w K mg base CX0 3 "_law_bounds" ["state"] (spBounds K)) (Dwi : Kn P w K mg base CX0 1 "_law_wider" ["plan", "at", "bounds"] (spWider K)) (Dma : Kn P w K mg base CX0 3 "_law_made" ["state", "plan"] (spMade K)) (Dto : Kn P w K mg base CX0 6 "_law_told" ["rule", "made"] (spTold K)) : FnOk P w K mg base CX0 8 f fd ["script"] (spLaw K) := by
  refine F.ok sc_law (fun vs H Q E h => ?_) (fun cdv A outer s H vs Q E hr h => ?_)
  · obtain ⟨_, _, rfl, _⟩ := h
    rfl
  · obtain ⟨a, ns, rfl, hS, kk⟩ := h
    refine ⟨_, (pss_cons (ps_set (i := 1) sc_law.nd rfl (.inl rfl) (pe_kn Dtw (hr.mono (by decide)) rfl pass0 (pa_cons (pe_kn Dpn (hr.mono (by decide)) rfl pass0 (pa_cons (pv 0) pa_nil)) pa_nil)))
    (pss_cons (ps_set (i := 2) sc_law.nd rfl (.inl rfl) (pe_kn Dru (hr.mono (by decide)) rfl pass0 (pa_cons (pv 1) pa_nil)))
    (pss_cons (ps_set (i := 3) sc_law.nd rfl (.inl rfl) (pe_kn Dst (hr.mono (by decide)) rfl pass0 (pa_cons (pv 0) (pa_cons pe_int pa_nil))))
    (pss_cons (ps_set (i := 4) sc_law.nd rfl (.inl rfl) (pe_kn Dta (hr.mono (by decide)) rfl pass0 (pa_cons (pv 3) (pa_cons (pe_op op_add (pe_callB call_len_seq rfl T.len (by decide +kernel) (pa_cons (pe_ix ix_tup (pv 1) pe_int (fun _ _ => rfl)) pa_nil)) pe_int) pa_nil))))
    (pss_cons (ps_set (i := 5) sc_law.nd rfl (.inl rfl) (pe_kn Dbo (hr.mono (by decide)) rfl pass0 (pa_cons (pv 3) pa_nil)))
    (pss_cons (ps_for PassesOwn.never rfl (pi_list (pe_lst (pa_cons (pv 5) (pa_cons (pe_tup (pa_cons (pe_ix ix_tup (pv 5) pe_int (fun _ _ => rfl)) (pa_cons (pe_ix ix_tup (pv 5) pe_int (fun _ _ => rfl)) pa_nil))) pa_nil)))) (pg_name (i := 6) sc_law.nd rfl (.inl rfl))
    (pss_cons (ps_set (i := 7) sc_law.nd rfl (.inl rfl) (pe_kn Dru (hr.mono (by decide)) rfl pass0 (pa_cons (pe_kn Dwi (hr.mono (by decide)) rfl pass0 (pa_cons (pv 1) (pa_cons (pv 4) (pa_cons (pv 6) pa_nil)))) pa_nil)))
    (pss_one (ps_for PassesOwn.never rfl (pi_range2 rfl T.range (pa_cons pe_int (pa_cons (pe_callB (call_max2 rfl) rfl T.max (by decide +kernel) (pa_cons pe_int (pa_cons (pe_callB (call_min2 rfl) rfl T.min (by decide +kernel) (pa_cons pe_int (pa_cons (pe_callB call_len_seq rfl T.len (by decide +kernel) (pa_cons (pv 0) pa_nil)) pa_nil))) pa_nil))) pa_nil))) (pg_name (i := 8) sc_law.nd rfl (.inl rfl))
    (pss_cons (ps_set (i := 9) sc_law.nd rfl (.inl rfl) (pe_kn Dma (hr.mono (by decide)) rfl pass0 (pa_cons (pe_kn Dst (hr.mono (by decide)) rfl pass0 (pa_cons (pv 0) (pa_cons (pv 8) pa_nil))) (pa_cons (pv 1) pa_nil))))
    (pss_cons (ps_set (i := 10) sc_law.nd rfl (.inl rfl) (pe_kn Dto (hr.mono (by decide)) rfl pass0 (pa_cons (pv 2) (pa_cons (pv 9) pa_nil))))
    (pss_cons (ps_set (i := 11) sc_law.nd rfl (.inl rfl) pe_non)
    (pss_cons (ps_if (pt_cmpR op_notN (pv 10) pe_non (nomark _)) (pss_one (ps_set (i := 11) sc_law.nd rfl (.inl rfl) (pe_op op_cat (pe_op op_cat (pe_slice sl_list (pv 10) po_none (po_some (pv 4))) (pe_lst (pa_cons (pe_ix ix_tup (pv 5) pe_int (fun _ _ => rfl)) pa_nil))) (pe_slice sl_list (pv 10) (po_some (pv 4)) po_none)))) pss_nil)
    (pss_one (ps_if (pt_cmpR (op_neD (hu64 hr)) (pe_kn Dto (hr.mono (by decide)) rfl pass0 (pa_cons (pv 7) (pa_cons (pv 9) pa_nil))) (pv 11) (nomark _)) (pss_one (ps_ret pe_bl)) pss_nil))))))))))
    (pss_one (ps_ret pe_bl)))))))), ?_⟩
    have d0 : Dom (fun _ => False) H := fun _ h => h.elim
    have r0 : (fSc K).r ns (fun _ => False) H (.ref a) := fSc_of hS fun h => h
    refine q_set (N := fun _ => False) (ge_two_plan (K := K) (ns := ns) (ge_v (F := fSc K) rfl r0)) d0 fun vp H1 s1 ⟨p, rp, p0, hp0, ep⟩ => ?_
    have d1 := d0.same s1
    obtain ⟨hS2, hm2⟩ : Small p ∧ p.shims.length ≤ 2 := by rw [ep]; exact two_small hp0
    have hd8 := hS2.d8
    have hn6 := hS2.n6
    have hsz : ∀ s ∈ p.sizes, BoundOk s := by rw [ep]; exact hp0.sb
    have hrb : ∀ r ∈ p.demands, r.b.length ≤ 1000 := fun r hr' => by
      have := (hS2.good.de r hr').len
      omega
    clear ep hp0
    refine q_set (N := fun _ => False) (ge_rule (ge_v (F := fPl K) rfl rp) ⟨hS2, by omega, by omega⟩) d1 fun vr H2 s2 rr => ?_
    have d2 := d1.same s2
    refine q_state (K := K) (N := fun _ => False) (k := 19) (ga2 (ge_v (F := fSc K) rfl ((fSc K).same (s1.trans s2) r0)) ((fSc K).mn _) ge_i mn_I) d2 rfl (by decide) fun e H3 he s3 st3 => ?_
    have up3 : Up (fun _ => False) (ad (fun _ => False) e) H2 H3 := ⟨s3, fun _ n => .inl n, fun b n => n.elim .inl fun z => .inr (by rw [z]; exact he), fun b n => n.elim (fun h => h.elim) fun z => by rw [z]; exact st3.ne⟩
    have ne : (ad (fun _ => False) e) e := ad_self
    generalize ad (fun _ => False) e = N at up3 ne
    have d3 := up3.d
    have r3 := (fSc K).lift up3 ((fSc K).same (s1.trans s2) r0)
    have rp3 := (fPl K).lift up3 ((fPl K).same s2 rp)
    have rr3 := (fU K).lift up3 rr
    refine qd_set (N := N) (d := e) (t := 19) (t' := 20) (gd_take (many := (p.shims.length : Int) + 1) rfl (fun H4 b4 st4 Q' q' => (ge_addI (ge_len (K := K) (ge_pH (K := K) (ge_v (F := fPl K) (N := N) (i := 1) rfl ((fPl K).fr (st3.kp b4 ne) rp3)))) ge_i) N H4 (.refl (Dom.but d3 b4 st4.ne)) Q' fun v H5 s5 ev => by
      have ev : v = _ := ev
      rw [ev]
      exact q' H5 s5) (by decide) (by omega) (by omega)) st3 fun va H4 b4 st4 ⟨jz, eva, j0, j1⟩ => ?_
    subst eva
    obtain ⟨j, rfl⟩ := Int.eq_ofNat_of_zero_le j0
    have hj : j ≤ p.shims.length := by omega
    have kp4 := st3.kp b4 ne
    refine qd_set (N := N) (d := e) (t := 20) (t' := 25) (R := rX (fB K) BoundOk) (gd_call (c := 5) rfl (by decide) fun _ _ h => h) st4 fun vb H5 b5 st5 ⟨⟨lo, hi⟩, rb, hb⟩ => ?_
    have kp5 := kp4.trans (st4.kp b5 ne)
    have d5 : Dom N H5 := Dom.but d3 (b4.trans b5) st5.ne
    have r5 := (fSc K).fr kp5 r3
    have rp5 := (fPl K).fr kp5 rp3
    have rr5 := (fU K).fr kp5 rr3
    obtain ⟨bl, bh, bn⟩ := hb.bd
    have hlo : Nm lo := hb.n1
    have bl : Bd 41 lo := bl
    refine q_for (N := N) (F := fB K) (ds := [(lo, hi), (lo, lo)]) (fun H1 i σ' H' => (∃ b6 b7 b8 b9 b10 b11, σ' = [some (.ref a), some vp, some vr, some (.ref e), some (.int (j : Int)), some vb, b6, b7, b8, b9, b10, b11]) ∧ Same H1 H') (ge_lst (F := fB K) (ds := [(lo, hi), (lo, lo)]) (ga_lcons (ge_v (F := fB K) rfl rb) (ga_lcons (ge_mkP (F := fQ K) (G := fQ K) (d := (lo, lo)) (ge_b0 (K := K) (s := (lo, hi)) (ge_v (F := fB K) rfl rb)) (ge_b0 (K := K) (s := (lo, hi)) (ge_v (F := fB K) rfl rb))) ga_lnil)) (by show 2 ≤ 1000; decide)) d5 (fun H1 s1 => ⟨⟨_, _, _, _, _, _, rfl⟩, Same.refl _⟩) (fun H1 i σ' H' s1 c => .of c.2) ?_ ?_
    · rintro H6 i s x σ' H7 s6 hi7 rx ⟨⟨b6, b7, b8, b9, b10, b11, rfl⟩, s7⟩
      have hs : s.1 = lo ∧ Nm s.2 ∧ below s.2 lo = false ∧ Bd 41 s.2 := by
        have m := List.mem_of_getElem? hi7
        simp only [List.mem_cons, List.not_mem_nil, or_false] at m
        rcases m with m | m <;> subst m
        · exact ⟨rfl, hb.n2, hb.le, bh⟩
        · exact ⟨rfl, hlo, below_self lo, bl⟩
      obtain ⟨e1, h2, hle, b2⟩ := hs
      obtain ⟨sl, sh⟩ := s
      have e1 : sl = lo := e1
      subst e1
      have h2 : Nm sh := h2
      have hle : below sh sl = false := hle
      have b2 : Bd 41 sh := b2
      have t7 := s6.trans s7
      have d7 := d5.same t7
      refine n_name ?_
      have hSw : Small (wider p j (sl, sh)) := small_wider hS2 hj hlo h2 hle bl b2
      have lw : (wider p j (sl, sh)).shims.length = p.shims.length + 1 := ins_length
      have dw : (wider p j (sl, sh)).demands.length = p.demands.length := List.length_map ..
      refine q_set (N := N) (ge_rule (K := K) (p := wider p j (sl, sh)) (ge_wider (ge_v (F := fPl K) rfl ((fPl K).same t7 rp5)) (ge_vi rfl) (ge_v (F := fB K) rfl rx) rfl ⟨by omega, by omega, hrb⟩) ⟨hSw, by omega, by omega⟩) d7 fun vo H8 s8 ro => ?_
      have t8 := t7.trans s8
      have d8 := d7.same s8
      refine s_forR2 (N := N) (lo := 20) (fun H1 i σ' H' => (∃ b8 b9 b10 b11, σ' = [some (.ref a), some vp, some vr, some (.ref e), some (.int (j : Int)), some vb, some x, some vo, b8, b9, b10, b11]) ∧ Same H1 H') (ga2 ge_i mn_I (ge_max (ga2 ge_i mn_I (ge_min (ga2 ge_i mn_I (ge_lenS (K := K) (ns := ns) (ge_v (F := fSc K) rfl ((fSc K).same t8 r5))) mn_I)) mn_I)) mn_I) (by decide) ⟨by split <;> split <;> omega, by split <;> split <;> omega⟩ d8 (fun H1 s1 => ⟨⟨_, _, _, _, rfl⟩, Same.refl _⟩) ?_ ?_
      · rintro H9 k σ' H10 s9 hk ⟨⟨b8, b9, b10, b11, rfl⟩, s10⟩
        have hk' : 20 + k ≤ 1000 := by
          split at hk <;> split at hk <;> omega
        have t10 := t8.trans (s9.trans s10)
        have d10 := d5.same t10
        refine q_set (N := N) (ge_made (K := K) (ns := ns) (k := 20 + k) (p := p) (j := 1) (ga2 (ge_v (F := fSc K) rfl ((fSc K).same t10 r5)) ((fSc K).mn _) (ge_vi rfl) mn_I) rfl hk' rfl ((fPl K).same t10 rp5) hn6 hsz) d10 fun vm H11 s11 ⟨made, rm, hm⟩ => ?_
        have t11 := t10.trans s11
        have d11 := d5.same t11
        have pre1 := pre_of hS2 (by omega) (chOk_own hS2 hm2 hm)
        have pre2 := pre_of hSw (by omega) (chOk_wider hS2 hm2 hj hlo h2 hle bl hm)
        have law := idle_shim hS2.good hj hlo h2 hle fun q hq => (hm q hq).2.1
        refine q_set (N := N) (ge_told (K := K) (rule := ruleOf p) (made := made) (ga2 (ge_v (F := fU K) rfl ((fU K).same t11 rr5)) ((fU K).mn _) (ge_v (F := fQs K) rfl rm) ((fQs K).mn _)) pre1) d11 fun vc H12 s12 rc => ?_
        have t12 := t11.trans s12
        have d12 := d5.same t12
        refine q_setV (N := N) ge_c d12 fun H13 s13 => ?_
        have t13 := t12.trans s13
        have d13 := d5.same t13
        have rc13 := (fC K).same s13 rc
        -- the same choice, with the low at its place
        have fin : ∀ (vd : V) (H14 : Hp), Same H13 H14 → (fC K).r ((chosenBy (ruleOf p) made).map (ins j sl)) N H14 vd → tIfS (tTest (tOp (rNeD K) (tCl (spTold K) E0 (tCons (tVar 7) (tCons (tVar 9) tNil))) (tVar 11))) (tRet (tC (.bl false))) tNext
            { nx := fun σ' H' => (∃ b8 b9 b10 b11, σ' = [some (.ref a), some vp, some vr, some (.ref e), some (.int (j : Int)), some vb, some x, some vo, b8, b9, b10, b11]) ∧ Same H9 H', rt := Q, ct := fun σ' H' => (∃ b8 b9 b10 b11, σ' = [some (.ref a), some vp, some vr, some (.ref e), some (.int (j : Int)), some vb, some x, some vo, b8, b9, b10, b11]) ∧ Same H9 H', bk := fun σ' H' => (∃ b6 b7 b8 b9 b10 b11, σ' = [some (.ref a), some vp, some vr, some (.ref e), some (.int (j : Int)), some vb, b6, b7, b8, b9, b10, b11]) ∧ Same H6 H' }
            [some (.ref a), some vp, some vr, some (.ref e), some (.int (j : Int)), some vb, some x, some vo, some (.int ((20 + k : Nat) : Int)), some vm, some vc, some vd] H14 := fun vd H14 s14 rd => by
          have t14 := s12.trans (s13.trans s14)
          have g := ge_told (K := K) (E := E0) (σ := [some (.ref a), some vp, some vr, some (.ref e), some (.int (j : Int)), some vb, some x, some vo, some (.int ((20 + k : Nat) : Int)), some vm, some vc, some vd]) (N := N) (H := H14) (rule := ruleOf (wider p j (sl, sh))) (made := made) (ga2 (ge_v (F := fU K) (i := 7) rfl ((fU K).same ((s9.trans s10).trans (s11.trans t14)) ro)) ((fU K).mn _) (ge_v (F := fQs K) (i := 9) rfl ((fQs K).same t14 rm)) ((fQs K).mn _)) pre2
          rw [law] at g
          refine s_if (N := N) (b := false) (gt_test (ge_neC g (ge_v (F := fC K) rfl rd))) (d13.same s14) (fun z => by cases z) fun _ H15 s15 => ?_
          exact ⟨⟨_, _, _, _, rfl⟩, s10.trans (s11.trans (t14.trans s15))⟩
        cases hc : chosenBy (ruleOf p) made with
        | none =>
          rw [hc] at rc13 fin
          have ev : vc = .non := rc13
          subst ev
          refine q_when (N := N) (b := false) (gt_test (ge_notN (v := .non) rfl)) d13 (fun z => by cases z) fun _ H14 s14 => ?_
          exact fin .non H14 s14 rfl
        | some ch =>
          rw [hc] at rc13 fin
          have rch : (fQs K).r ch N H13 vc := rc13
          have nv : decide (vc = .non) = false := by
            obtain ⟨z, _, ez, _⟩ := rch
            rw [ez]
            rfl
          have gn := ge_notN (N := N) (H := H13) (i := 10) (v := vc) (σ := [some (.ref a), some vp, some vr, some (.ref e), some (.int (j : Int)), some vb, some x, some vo, some (.int ((20 + k : Nat) : Int)), some vm, some vc, some .non]) rfl
          rw [nv] at gn
          refine q_when (N := N) (b := true) (gt_test gn) d13 (fun _ H14 s14 => ?_) fun z => by cases z
          have t14 := t13.trans s14
          have lch : ch.length ≤ 1000000 := by rw [chosen_len hc]; omega
          refine s_set (N := N) (ge_ins (F := fQ K) (x := sl) (ge_v (F := fQs K) rfl ((fQs K).same s14 rch)) (ge_vi rfl) (ge_b0 (K := K) (s := (sl, hi)) (ge_v (F := fB K) rfl ((fB K).same t14 rb))) (ge_v (F := fQs K) rfl ((fQs K).same s14 rch)) (ge_vi rfl) rfl lch) (d13.same s14) fun vd H15 s15 rd => ?_
          exact fin vd H15 (s14.trans s15) rd
      · rintro H9 σ' H10 s9 ⟨⟨b8, b9, b10, b11, rfl⟩, s10⟩
        exact ⟨⟨_, _, _, _, _, _, rfl⟩, s7.trans (s8.trans (s9.trans s10))⟩
    · rintro H6 σ' H7 s6 ⟨⟨b6, b7, b8, b9, b10, b11, rfl⟩, s7⟩
      exact kk H7
theorem kn_law_at {f : Addr} {fd : FuncData} (F : Fun K "law" "law" s_law f fd) : Binds K fd ["script"] [] := F.binds fun _ _ _ _ _ _ us hl => match us, hl with | [_], _ => rfl
end
end Sh
/-! the ends -/
namespace Sh
open PySem PySem.Spec PyProof.Rows L2
section
variable {K : PySem.W.Frag} {h : Heap} {mg : Str → Option Value}
theorem df_mk {x : Str} {st : Stmt} {f : Addr} {oc kV doc pm cdv ct : Value} {od an : Option Addr} {osl : Array (Option Value)} (X : K.In h) (G : h.Ns mainGlobals mg) (a : PySem.W.nsIn K mainGlobals x = some (some (.ref f)))
    (l : K.lookup f = some ⟨oc, od, .func (PySem.W.fnOf x x (defArgs st) (defBody st) (defScope st) .none kV doc pm an cdv ct), osl⟩) (c : PySem.W.codeIn K cdv x = true) (k : PySem.W.keepIn K (.ref f) = true) : Df K mg x st := ⟨f, _, PySem.W.mg_of X G a, fun_mk l c k⟩
theorem kt_mk {a : Addr} {i j : Int} {t u : Nat} {od : Option Addr} {n : Nat} {sl : Array (Option Value)} (l : K.lookup a = some ⟨.type "tuple", od, .seq #[.int i t, .int j u] n, sl⟩) : KT K a [.int i, .int j] :=
  .inr ⟨_, _, _, l, rfl, rfl, line_le (by show 2 ≤ 16777216; decide), .cons ⟨t, rfl⟩ (.cons ⟨u, rfl⟩ .nil)⟩
theorem self_exm {S : Addr} (h1 : PySem.W.subIn K (.ref S) (.type "BaseException") = some true) (h2 : PySem.W.isClsIn K S = true) (h3 : PySem.W.typeIn K (.ref S) = some (.type "type")) (h4 : PySem.W.subIn K (.ref S) (.ref S) = some true) : PySem.W.exmOne K (.ref S) (.ref S) = some true := by
  have c2 : ((PySem.W.clsIn K S).isSome && PySem.W.typeIn K (.ref S) == some (.type "type")) = true := by
    rw [show (PySem.W.clsIn K S).isSome = true from h2, h3]
    rfl
  unfold PySem.W.exmOne
  rw [h1]
  refine Eq.trans (if_pos (by rfl)) ?_
  refine Eq.trans (if_pos c2) h4
theorem all_mk {P : Program} {w : World} {fa aN aO aM aC : Addr} (hfa : mg "law" = some (.ref fa)) (T : Txt K mg aN aO aM aC)
    (D5 : Df K mg "divisor" s_divisor)
    (D6 : Df K mg "fraction" s_fraction)
    (D7 : Df K mg "plus" s_plus)
    (D8 : Df K mg "minus" s_minus)
    (D9 : Df K mg "times" s_times)
    (D10 : Df K mg "over" s_over)
    (D11 : Df K mg "below" s_below)
    (D16 : Df K mg "is_plain" s_is_plain)
    (D17 : Df K mg "put_on" s_put_on)
    (D18 : Df K mg "bound_row" s_bound_row)
    (D19 : Df K mg "first_rows" s_first_rows)
    (D20 : Df K mg "mixed" s_mixed)
    (D21 : Df K mg "taken_together" s_taken_together)
    (D22 : Df K mg "taken_out" s_taken_out)
    (D23 : Df K mg "rule_of" s_rule_of)
    (D24 : Df K mg "worth_of" s_worth_of)
    (D25 : Df K mg "chosen_by" s_chosen_by)
    (D27 : Df K mg "_law_cell" s_l_cell)
    (D28 : Df K mg "_law_state" s_l_state)
    (D29 : Df K mg "_law_take" s_l_take)
    (D30 : Df K mg "_law_frac" s_l_frac)
    (D31 : Df K mg "_law_plus" s_l_plus)
    (D32 : Df K mg "_law_times" s_l_times)
    (D34 : Df K mg "_law_some" s_l_some)
    (D35 : Df K mg "_law_weight" s_l_weight)
    (D36 : Df K mg "_law_bounds" s_l_bounds)
    (D37 : Df K mg "_law_plan" s_l_plan)
    (D38 : Df K mg "_law_made" s_l_made)
    (D39 : Df K mg "_law_told" s_l_told)
    (D40 : Df K mg "_law_wider" s_l_wider)
    (D41 : Df K mg "_law_two" s_l_two)
    (D42 : Df K mg "law" s_law)
    : ∃ fd : FuncData, (∀ (s : Shared) (v : Value), BindsTo s fd ⟨[v], []⟩ [("script", v)]) ∧ ∀ base : Heap, K.In base → base.Ns mainGlobals mg → FnOk P w K mg base CX0 8 fa fd ["script"] (spLaw K) := by
  obtain ⟨f, fd, hm, F⟩ := D42.ex
  have e := hfa.symm.trans hm
  cases e
  refine ⟨fd, fun s v => ?_, fun base _ _ => ?_⟩
  · obtain ⟨oc, od, kV, doc, pm, an, cdv, ct, osl, rfl, _⟩ := F.ex
    exact .of_eq rfl
  · have Kdiv : Kn P w K mg base CX0 1 "divisor" ["one", "other"] spDiv := kn_divisor D5 T
    have Kfr := kn_fraction D6 T Kdiv
    have Kpl := kn_plus D7 Kfr
    have Kmi := kn_minus D8 Kfr
    have Kti := kn_times D9 Kfr
    have Kov := kn_over D10 Kfr
    have Kbe : Kn P w K mg base CX0 1 "below" ["q", "r"] (spB K) := kn_below D11
    have Kip := kn_is_plain D16 T Kbe
    have Kpu := kn_put_on D17 T Kip
    have Kbr : Kn P w K mg base CX0 1 "bound_row" ["plan", "k", "sign", "c"] (spBound K) := kn_bound_row D18 T
    have Kfi := kn_first_rows D19 T Kpu Kbr Kmi
    have Kmx := kn_mixed D20 T Kpl Kti
    have Ktk := kn_taken D21 T Kpl Kti Kmi Kmx
    have Kou := kn_taken_out D22 T Kbe Kpu Ktk
    have Kru := kn_rule_of D23 T Kfi Kou
    have Kwo := kn_worth_of D24 T Kpl Kti
    have Kch := kn_chosen_by D25 T Kwo Kbe Kmi Kov
    have Kce : Kn P w K mg base CX0 1 "_law_cell" ["script", "k"] (spCell K) := kn_l_cell D27 T
    have Kst := kn_l_state D28 T Kce
    have Kta : Kn P w K mg base CX0 1 "_law_take" ["state", "many"] spTake := kn_l_take D29 T
    have Klf : Kn P w K mg base CX0 1 "_law_frac" ["top", "bottom"] (spFr K) := kn_l_frac D30 T
    have Klp := kn_l_plus D31 Klf
    have Klt := kn_l_times D32 Klf
    have Kso := kn_l_some D34 Kta Klf
    have Kwe := kn_l_weight D35 Kta Klf
    have Kbo := kn_l_bounds D36 Kso Kta Klf Klp
    have Kpn := kn_l_plan D37 T Kce Kst Kbo Kwe Kso
    have Kma := kn_l_made D38 Kta Klf Klp Klt Kso
    have Kto := kn_l_told D39 T Kch
    have Kwi : Kn P w K mg base CX0 1 "_law_wider" ["plan", "at", "bounds"] (spWider K) := kn_l_wider D40
    have Ktw : Kn P w K mg base CX0 1 "_law_two" ["plan"] (spTwo K) := kn_l_two D41
    exact ok_law F T Ktw Kpn Kru Kst Kta Kbo Kwi Kma Kto
end
theorem walk {l : PySem.W.OpenLaw} {q : Program} {loose : List Str} {XP : (Str → Option Value) → Heap → Prop} {YP : World → Heap → Prop} {d : DefRec} {K : Params → PySem.W.Frag} (hn : l.most = some 63) (hdf : d.params.defaults = [])
    (hY : ∀ (w : World) (h : Heap), YP w h → (K w.params).In h)
    (F : ∀ (w : World) (mg : Str → Option Value) (fa : Addr) (h : Heap), (K w.params).In h → h.Ns mainGlobals mg → mg d.name = some (.ref fa) →
      ∃ fd : FuncData, (∀ (s : Shared) (u : Value), BindsTo s fd ⟨[u], []⟩ [("script", u)]) ∧ ∀ base : Heap, (K w.params).In base → base.Ns mainGlobals mg → FnOk l.prog w (K w.params) mg base CX0 8 fa fd ["script"] (spLaw (K w.params))) :
    PySem.W.WalkO q loose XP YP l.row.toRowW d [] (fun f vs => PySem.call f vs) :=
  L2.walk_of (n := 63) (k := 8) (x := "script") (CX := fun _ => CX0) (sp := fun w => spLaw (K w.params)) hn (by decide) hdf ⟨rfl, by decide, by decide⟩ hY F (fun _ _ a ns _ _ hS => ⟨a, ns, rfl, hS, fun _ => rfl⟩) fun _ _ _ _ _ z => z
end Sh
open PySem PySem.W PyProof.Rows
set_option maxRecDepth 100000 in
set_option maxHeartbeats 0 in
theorem PySem.Challenge.cw_shimright_k24_whole_idle_shims_holds : PySem.Challenge.rw_shimright_k24_whole_idle_shims.Holds := by
  w_on; o_law; k_head; (case hw => w_witness2)
  k_fill
  refine Sh.walk (l := PySem.Challenge.rw_shimright_k24_whole_idle_shims) rfl rfl (fun w h Y => PySem.W.kIn_of Y) ?F
  case F =>
    intro w mg fa h KX G hmg
    refine' Sh.all_mk hmg ?T ?D5 ?D6 ?D7 ?D8 ?D9 ?D10 ?D11 ?D16 ?D17 ?D18 ?D19 ?D20 ?D21 ?D22 ?D23 ?D24 ?D25 ?D27 ?D28 ?D29 ?D30 ?D31 ?D32 ?D34 ?D35 ?D36 ?D37 ?D38 ?D39 ?D40 ?D41 ?D42
    case T =>
      refine' ⟨PySem.W.mg_of KX G ?n1, PySem.W.mg_of KX G ?n2, PySem.W.mg_of KX G ?n3, Sh.kt_mk ?l1, Sh.kt_mk ?l2, Sh.kt_mk ?l3, PySem.W.mg_none_of KX G ?z0, PySem.W.mg_none_of KX G ?z1, PySem.W.mg_none_of KX G ?z2, PySem.W.mg_none_of KX G ?z3, PySem.W.mg_none_of KX G ?z4, PySem.W.mg_none_of KX G ?z5, PySem.W.mg_none_of KX G ?z6, PySem.W.mg_none_of KX G ?z7, PySem.W.mg_none_of KX G ?z8, PySem.W.mg_of KX G ?gC, ?xC, ?kC, ?bC, ?tC, Sh.self_exm ?bD ?iC ?tD ?sC⟩
      (case n1 => k_is); (case l1 => k_is); (case n2 => k_is); (case l2 => k_is); (case n3 => k_is); (case l3 => k_is)
      (case z0 => k_is)
      (case z1 => k_is)
      (case z2 => k_is)
      (case z3 => k_is)
      (case z4 => k_is)
      (case z5 => k_is)
      (case z6 => k_is)
      (case z7 => k_is)
      (case z8 => k_is)
      (case gC => k_is); (case xC => k_exc); (case kC => k_is); (case bC => k_is); (case tC => k_is); (case bD => k_is); (case iC => k_is); (case tD => k_is); (case sC => first | rfl | k_is)
    (case D5 => refine' Sh.df_mk KX G ?a ?l ?c ?k; (case a => k_is); (case l => k_is); (case c => k_is); (case k => k_is))
    (case D6 => refine' Sh.df_mk KX G ?a ?l ?c ?k; (case a => k_is); (case l => k_is); (case c => k_is); (case k => k_is))
    (case D7 => refine' Sh.df_mk KX G ?a ?l ?c ?k; (case a => k_is); (case l => k_is); (case c => k_is); (case k => k_is))
    (case D8 => refine' Sh.df_mk KX G ?a ?l ?c ?k; (case a => k_is); (case l => k_is); (case c => k_is); (case k => k_is))
    (case D9 => refine' Sh.df_mk KX G ?a ?l ?c ?k; (case a => k_is); (case l => k_is); (case c => k_is); (case k => k_is))
    (case D10 => refine' Sh.df_mk KX G ?a ?l ?c ?k; (case a => k_is); (case l => k_is); (case c => k_is); (case k => k_is))
    (case D11 => refine' Sh.df_mk KX G ?a ?l ?c ?k; (case a => k_is); (case l => k_is); (case c => k_is); (case k => k_is))
    (case D16 => refine' Sh.df_mk KX G ?a ?l ?c ?k; (case a => k_is); (case l => k_is); (case c => k_is); (case k => k_is))
    (case D17 => refine' Sh.df_mk KX G ?a ?l ?c ?k; (case a => k_is); (case l => k_is); (case c => k_is); (case k => k_is))
    (case D18 => refine' Sh.df_mk KX G ?a ?l ?c ?k; (case a => k_is); (case l => k_is); (case c => k_is); (case k => k_is))
    (case D19 => refine' Sh.df_mk KX G ?a ?l ?c ?k; (case a => k_is); (case l => k_is); (case c => k_is); (case k => k_is))
    (case D20 => refine' Sh.df_mk KX G ?a ?l ?c ?k; (case a => k_is); (case l => k_is); (case c => k_is); (case k => k_is))
    (case D21 => refine' Sh.df_mk KX G ?a ?l ?c ?k; (case a => k_is); (case l => k_is); (case c => k_is); (case k => k_is))
    (case D22 => refine' Sh.df_mk KX G ?a ?l ?c ?k; (case a => k_is); (case l => k_is); (case c => k_is); (case k => k_is))
    (case D23 => refine' Sh.df_mk KX G ?a ?l ?c ?k; (case a => k_is); (case l => k_is); (case c => k_is); (case k => k_is))
    (case D24 => refine' Sh.df_mk KX G ?a ?l ?c ?k; (case a => k_is); (case l => k_is); (case c => k_is); (case k => k_is))
    (case D25 => refine' Sh.df_mk KX G ?a ?l ?c ?k; (case a => k_is); (case l => k_is); (case c => k_is); (case k => k_is))
    (case D27 => refine' Sh.df_mk KX G ?a ?l ?c ?k; (case a => k_is); (case l => k_is); (case c => k_is); (case k => k_is))
    (case D28 => refine' Sh.df_mk KX G ?a ?l ?c ?k; (case a => k_is); (case l => k_is); (case c => k_is); (case k => k_is))
    (case D29 => refine' Sh.df_mk KX G ?a ?l ?c ?k; (case a => k_is); (case l => k_is); (case c => k_is); (case k => k_is))
    (case D30 => refine' Sh.df_mk KX G ?a ?l ?c ?k; (case a => k_is); (case l => k_is); (case c => k_is); (case k => k_is))
    (case D31 => refine' Sh.df_mk KX G ?a ?l ?c ?k; (case a => k_is); (case l => k_is); (case c => k_is); (case k => k_is))
    (case D32 => refine' Sh.df_mk KX G ?a ?l ?c ?k; (case a => k_is); (case l => k_is); (case c => k_is); (case k => k_is))
    (case D34 => refine' Sh.df_mk KX G ?a ?l ?c ?k; (case a => k_is); (case l => k_is); (case c => k_is); (case k => k_is))
    (case D35 => refine' Sh.df_mk KX G ?a ?l ?c ?k; (case a => k_is); (case l => k_is); (case c => k_is); (case k => k_is))
    (case D36 => refine' Sh.df_mk KX G ?a ?l ?c ?k; (case a => k_is); (case l => k_is); (case c => k_is); (case k => k_is))
    (case D37 => refine' Sh.df_mk KX G ?a ?l ?c ?k; (case a => k_is); (case l => k_is); (case c => k_is); (case k => k_is))
    (case D38 => refine' Sh.df_mk KX G ?a ?l ?c ?k; (case a => k_is); (case l => k_is); (case c => k_is); (case k => k_is))
    (case D39 => refine' Sh.df_mk KX G ?a ?l ?c ?k; (case a => k_is); (case l => k_is); (case c => k_is); (case k => k_is))
    (case D40 => refine' Sh.df_mk KX G ?a ?l ?c ?k; (case a => k_is); (case l => k_is); (case c => k_is); (case k => k_is))
    (case D41 => refine' Sh.df_mk KX G ?a ?l ?c ?k; (case a => k_is); (case l => k_is); (case c => k_is); (case k => k_is))
    (case D42 => refine' Sh.df_mk KX G ?a ?l ?c ?k; (case a => k_is); (case l => k_is); (case c => k_is); (case k => k_is))
