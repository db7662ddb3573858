import PyProof.Rows.All
import Wide.All
import OpenK.AllK
import Wide.FinOn
import PySem.Challenge.RW_pd_squeeze_1_04
set_option Elab.async false
set_option maxRecDepth 100000
set_option maxHeartbeats 8000000
set_option linter.unusedVariables false
-- SqPure
namespace Sq
/-- a token: kind, value, length -/
abbrev Tk := Int × Int × Int
def tokStep (size : Int) (t : Tk) : Option Int :=
  if t.1 = 0 then (if t.2.1 < 0 ∨ t.2.1 > 255 ∨ t.2.2 ≠ 0 then none else some (size + 1))
  else if t.1 = 1 then
    (if t.2.1 < 1 ∨ t.2.1 > size ∨ t.2.1 > 65535 then none
     else if t.2.2 < 4 ∨ t.2.2 > 255 then none else some (size + t.2.2))
  else none
def tokRun : Int → List Tk → Option Int
  | n, [] => some n
  | n, t :: r => match tokStep n t with
    | none => none
    | some k => tokRun k r
def tokOk (ts : List Tk) : Bool := (tokRun 0 ts).isSome
theorem tokRun_append (n : Int) (a b : List Tk) : tokRun n (a ++ b) = (tokRun n a).bind fun k => tokRun k b := by
  induction a generalizing n with
  | nil => rfl
  | cons t r ih =>
    simp only [List.cons_append, tokRun]
    cases tokStep n t with
    | none => rfl
    | some k => exact ih k
/-- one byte more, `d` places back -/
def back1 (d : Int) (xs : List Int) : List Int := xs ++ [xs.getD (xs.length - d.toNat) 0]
def copyN (d : Int) : Nat → List Int → List Int
  | 0, xs => xs
  | n + 1, xs => copyN d n (back1 d xs)
def expStep (xs : List Int) (t : Tk) : List Int := if t.1 = 0 then xs ++ [t.2.1] else copyN t.2.1 t.2.2.toNat xs
def expand (ts : List Tk) : List Int := ts.foldl expStep []
theorem expand_append (a : List Tk) (t : Tk) : expand (a ++ [t]) = expStep (expand a) t := by simp [expand]
theorem copyN_length (d : Int) (n : Nat) (xs : List Int) : (copyN d n xs).length = xs.length + n := by
  induction n generalizing xs with
  | zero => rfl
  | succ n ih => simp only [copyN, ih, back1, List.length_append, List.length_singleton]; omega
theorem copyN_succ (d : Int) (n : Nat) (xs : List Int) : copyN d (n + 1) xs = back1 d (copyN d n xs) := by
  induction n generalizing xs with
  | zero => rfl
  | succ n ih => rw [copyN, ih]; rfl
/-- what a copy by its period gives -/
def period (d : Int) (n : Nat) (xs : List Int) : List Int := (List.range n).map fun k => xs.getD (xs.length - d.toNat + k % d.toNat) 0
theorem copyN_period (d : Int) (n : Nat) (xs : List Int) (h1 : 1 ≤ d) (h2 : d ≤ xs.length) : copyN d n xs = xs ++ period d n xs := by
  induction n with
  | zero => simp [copyN, period]
  | succ n ih =>
    rw [copyN_succ, ih, back1]
    have hl : (xs ++ period d n xs).length = xs.length + n := by simp [period]
    rw [hl]
    have e : (xs ++ period d n xs).getD (xs.length + n - d.toNat) 0 = xs.getD (xs.length - d.toNat + n % d.toNat) 0 := by
      obtain ⟨D, rfl⟩ := Int.eq_ofNat_of_zero_le (show 0 ≤ d by omega)
      simp only [Int.toNat_natCast] at *
      have hD : 1 ≤ D := by omega
      have hD2 : D ≤ xs.length := by omega
      by_cases hn : n < D
      · have e1 : n % D = n := Nat.mod_eq_of_lt hn
        rw [e1]
        rw [List.getD_eq_getElem?_getD, List.getD_eq_getElem?_getD, List.getElem?_append_left (by omega)]
        congr 2; omega
      · have e2 : xs.length + n - D = xs.length + (n - D) := by omega
        rw [e2, List.getD_eq_getElem?_getD, List.getElem?_append_right (by omega), ← List.getD_eq_getElem?_getD]
        have e3 : xs.length + (n - D) - xs.length = n - D := by omega
        rw [e3]
        have hlt : n - D < n := by omega
        simp only [period, List.getD_eq_getElem?_getD, Int.toNat_natCast]
        rw [List.getElem?_map, List.getElem?_range hlt]
        simp only [Option.map_some, Option.getD_some]
        have e4 : n % D = (n - D) % D := by
          conv => lhs; rw [show n = (n - D) + D by omega, Nat.add_mod_right]
        rw [e4]
    rw [e, List.append_assoc]
    congr 1
    simp [period, List.range_succ]
theorem tokStep_len {xs : List Int} {t : Tk} {k : Int} (h : tokStep xs.length t = some k) : ((expStep xs t).length : Int) = k := by
  unfold tokStep at h
  unfold expStep
  split at h
  · rename_i h0
    rw [if_pos h0]
    split at h
    · cases h
    · simp at h; simp; omega
  · rename_i h0
    rw [if_neg h0]
    split at h
    · split at h
      · cases h
      · split at h
        · cases h
        · rw [copyN_length]; simp at h; omega
    · cases h
theorem foldl_len {ts : List Tk} : ∀ {xs : List Int} {k : Int}, tokRun xs.length ts = some k → ((ts.foldl expStep xs).length : Int) = k := by
  induction ts with
  | nil => intro xs k h; simp only [tokRun, Option.some.injEq] at h; exact h
  | cons t r ih =>
    intro xs k h
    simp only [tokRun] at h
    cases hs : tokStep xs.length t with
    | none => rw [hs] at h; cases h
    | some j =>
      rw [hs] at h
      have := tokStep_len hs
      rw [← this] at h
      exact ih h
theorem expand_len {ts : List Tk} {k : Int} (h : tokRun 0 ts = some k) : ((expand ts).length : Int) = k := foldl_len (xs := []) h
end Sq
-- SqPure1
namespace Sq
def adl (p : Int × Int) (x : Int) : Int × Int := ((p.1 + x) % 65521, (p.2 + (p.1 + x) % 65521) % 65521)
def wsum : List Int → Int
  | [] => 0
  | x :: r => (r.length + 1) * x + wsum r
theorem adl_fold (xs : List Int) : ∀ a b : Int, 0 ≤ a → a < 65521 → 0 ≤ b → b < 65521 →
    xs.foldl adl (a, b) = ((a + xs.sum) % 65521, (b + xs.length * a + wsum xs) % 65521) := by
  induction xs with
  | nil =>
    intro a b h1 h2 h3 h4
    simp only [List.foldl_nil, List.sum_nil, List.length_nil, wsum, Prod.mk.injEq]
    constructor
    · omega
    · rw [show b + ((0 : Nat) : Int) * a + 0 = b by simp]; omega
  | cons x r ih =>
    intro a b h1 h2 h3 h4
    rw [List.foldl_cons]
    have e : adl (a, b) x = ((a + x) % 65521, (b + (a + x) % 65521) % 65521) := rfl
    rw [e, ih _ _ (by omega) (by omega) (by omega) (by omega)]
    simp only [List.sum_cons, List.length_cons, wsum, Prod.mk.injEq]
    constructor
    · omega
    · have d1 := Int.emod_add_mul_ediv (a + x) 65521
      have d2 := Int.emod_add_mul_ediv (b + (a + x) % 65521) 65521
      generalize (a + x) / 65521 = q at *
      generalize (b + (a + x) % 65521) / 65521 = q2 at *
      generalize (b + (a + x) % 65521) % 65521 = b' at *
      generalize hA : (a + x) % 65521 = a' at *
      have ea : a' = a + x - 65521 * q := by omega
      have eb : b' = b + a' - 65521 * q2 := by omega
      have key : b + ((r.length + 1 : Nat) : Int) * a + ((r.length + 1) * x + wsum r) = (b' + r.length * a' + wsum r) + 65521 * (q2 + q + r.length * q) := by
        rw [eb, ea]
        push_cast
        generalize (r.length : Int) = n
        simp only [Int.add_mul, Int.mul_add, Int.mul_sub, Int.one_mul]
        have : n * (65521 * q) = 65521 * (n * q) := by rw [Int.mul_left_comm]
        omega
      rw [key, Int.add_mul_emod_self_left]
theorem wsum_range (xs : List Int) : ((List.range xs.length).map fun (k : Nat) => ((xs.length : Int) - k) * xs.getD k 0).sum = wsum xs := by
  induction xs with
  | nil => rfl
  | cons x r ih =>
    rw [List.length_cons, List.range_succ_eq_map, List.map_cons, List.sum_cons, List.map_map, wsum]
    have e : (List.range r.length).map ((fun (k : Nat) => (((r.length + 1 : Nat) : Int) - k) * (x :: r).getD k 0) ∘ Nat.succ) = (List.range r.length).map fun (k : Nat) => ((r.length : Int) - k) * r.getD k 0 := by
      refine List.map_congr_left fun k _ => ?_
      simp only [Function.comp, List.getD_cons_succ]
      congr 1
      push_cast; omega
    rw [e, ih]
    simp
theorem adl_law (xs : List Int) : xs.foldl adl (1, 0) = ((1 + xs.sum) % 65521, ((xs.length : Int) + ((List.range xs.length).map fun (k : Nat) => ((xs.length : Int) - k) * xs.getD k 0).sum) % 65521) := by
  rw [adl_fold xs 1 0 (by omega) (by omega) (by omega) (by omega), wsum_range]
  congr 2
  omega
end Sq
-- SqPureH
namespace Sq
theorem fd (x : Int) {n : Int} (h : 0 < n) : x.fdiv n = x / n := Int.fdiv_eq_ediv_of_nonneg _ (by omega)
theorem fm (x : Int) {n : Int} (h : 0 < n) : x.fmod n = x % n := Int.fmod_eq_emod_of_nonneg _ (by omega)
def four (n : Int) : List Int := [n.fdiv 16777216, (n.fdiv 65536).fmod 256, (n.fdiv 256).fmod 256, n.fmod 256]
theorem four_eq (n : Int) : four n = [n / 16777216, n / 65536 % 256, n / 256 % 256, n % 256] := by
  simp only [four, fd _ (show (0 : Int) < 16777216 by decide), fd _ (show (0 : Int) < 65536 by decide), fd _ (show (0 : Int) < 256 by decide), fm _ (show (0 : Int) < 256 by decide)]
theorem four_quad {a b c d : Int} (ha : 0 ≤ a) (ha' : a ≤ 255) (hb : 0 ≤ b) (hb' : b ≤ 255) (hc : 0 ≤ c) (hc' : c ≤ 255) (hd : 0 ≤ d) (hd' : d ≤ 255) : four (a * 16777216 + b * 65536 + c * 256 + d) = [a, b, c, d] := by
  rw [four_eq]
  congr 1
  · omega
  congr 1
  · omega
  congr 1
  · omega
  congr 1
  omega
theorem four_size {n : Int} (h : 0 ≤ n) (h' : n < 65536) : four n = [0, 0, n.fdiv 256, n.fmod 256] := by
  rw [four_eq, fd _ (by decide), fm _ (by decide)]
  congr 1
  · omega
  congr 1
  · omega
  congr 1
  omega
theorem four_check {a b : Int} (ha : 0 ≤ a) (ha' : a < 65536) (hb : 0 ≤ b) (hb' : b < 65536) : four (b * 65536 + a) = [b.fdiv 256, b.fmod 256, a.fdiv 256, a.fmod 256] := by
  rw [four_eq]
  simp only [fd _ (show (0 : Int) < 256 by decide), fm _ (show (0 : Int) < 256 by decide)]
  congr 1
  · omega
  congr 1
  · omega
  congr 1
  · omega
  congr 1
  omega
theorem byte_lo {x : Int} (h : 0 ≤ x) (h' : x < 65536) : 0 ≤ x.fdiv 256 ∧ x.fdiv 256 ≤ 255 ∧ 0 ≤ x.fmod 256 ∧ x.fmod 256 ≤ 255 := by
  rw [fd _ (by decide), fm _ (by decide)]; omega
theorem back_size (n : Int) : 0 * 16777216 + 0 * 65536 + n.fdiv 256 * 256 + n.fmod 256 = n := by
  rw [fd _ (by decide), fm _ (by decide)]; omega
theorem back_check (a b : Int) : b.fdiv 256 * 16777216 + b.fmod 256 * 65536 + a.fdiv 256 * 256 + a.fmod 256 = b * 65536 + a := by
  simp only [fd _ (show (0 : Int) < 256 by decide), fm _ (show (0 : Int) < 256 by decide)]; omega
/-- a step of the sum, with the program's own remainder -/
def adf (p : Int × Int) (x : Int) : Int × Int := ((p.1 + x).fmod 65521, (p.2 + (p.1 + x).fmod 65521).fmod 65521)
theorem adf_eq : adf = adl := by
  funext p x
  simp only [adf, adl, fm _ (show (0 : Int) < 65521 by decide)]
def adA (ds : List Int) : Int := (1 + ds.sum).fmod 65521
def adB (ds : List Int) : Int := ((ds.length : Int) + ((List.range ds.length).map fun (k : Nat) => ((ds.length : Int) - k) * ds.getD k 0).sum).fmod 65521
theorem adf_law (ds : List Int) : ds.foldl adf (1, 0) = (adA ds, adB ds) := by
  rw [adf_eq, adl_law, adA, adB]
  simp only [fm _ (show (0 : Int) < 65521 by decide)]
theorem adA_lo (ds : List Int) : 0 ≤ adA ds := Int.fmod_nonneg_of_pos _ (by decide)
theorem adA_hi (ds : List Int) : adA ds < 65521 := Int.fmod_lt_of_pos _ (by decide)
theorem adB_lo (ds : List Int) : 0 ≤ adB ds := Int.fmod_nonneg_of_pos _ (by decide)
theorem adB_hi (ds : List Int) : adB ds < 65521 := Int.fmod_lt_of_pos _ (by decide)
def Byt (x : Int) : Prop := 0 ≤ x ∧ x ≤ 255
/-- the reader refuses -/
def Refused (bs : List Int) : Prop := bs.length < 271 ∨ bs.take 2 ≠ [83, 81] ∨ ∃ x ∈ (bs.drop 14).take 257, 64 < x
theorem refused_cut {bs : List Int} {n : Nat} (h : n < 271) : Refused (bs.take n) := .inl (by rw [List.length_take]; omega)
theorem refused_mark0 {r : List Int} {c : Int} : Refused ((83 + 1 + c.fmod 255).fmod 256 :: r) := by
  refine .inr (.inl ?_)
  cases r with
  | nil => simp
  | cons y r =>
    intro h
    simp only [List.take_succ_cons, List.take_zero, List.cons.injEq] at h
    have := h.1
    rw [fm _ (by decide), fm _ (by decide)] at this
    omega
theorem refused_mark1 {r : List Int} {c x : Int} : Refused (x :: (81 + 1 + c.fmod 255).fmod 256 :: r) := by
  refine .inr (.inl ?_)
  intro h
  simp only [List.take_succ_cons, List.take_zero, List.cons.injEq, and_true] at h
  have := h.2
  rw [fm _ (by decide), fm _ (by decide)] at this
  omega
theorem refused_long {bs : List Int} {i : Nat} {x : Int} (hl : 271 ≤ bs.length) (h1 : 14 ≤ i) (h2 : i < 271) (hx : 64 < x) : Refused (bs.set i x) := by
  refine .inr (.inr ⟨x, ?_, hx⟩)
  rw [List.mem_iff_getElem?]
  refine ⟨i - 14, ?_⟩
  rw [List.getElem?_take_of_lt (by omega), List.getElem?_drop, show 14 + (i - 14) = i by omega, List.getElem?_set_self (by omega)]
/-- the head -/
def headOf (q0 q1 q2 q3 n a b : Int) (ls : List Int) : List Int := 83 :: 81 :: q0 :: q1 :: q2 :: q3 :: 0 :: 0 :: n.fdiv 256 :: n.fmod 256 :: b.fdiv 256 :: b.fmod 256 :: a.fdiv 256 :: a.fmod 256 :: ls
theorem headOf_length (q0 q1 q2 q3 n a b : Int) (ls : List Int) : (headOf q0 q1 q2 q3 n a b ls).length = ls.length + 14 := by simp [headOf]
theorem isB_app {xs ys : List Int} : (∀ x ∈ xs ++ ys, Byt x) ↔ (∀ x ∈ xs, Byt x) ∧ ∀ x ∈ ys, Byt x := by
  simp only [List.mem_append, or_imp, forall_and]
theorem headOf_bytes {q0 q1 q2 q3 n a b : Int} {ls : List Int} (h0 : Byt q0) (h1 : Byt q1) (h2 : Byt q2) (h3 : Byt q3) (hn : 0 ≤ n) (hn' : n < 65536) (ha : 0 ≤ a) (ha' : a < 65536) (hb : 0 ≤ b) (hb' : b < 65536) (hl : ∀ x ∈ ls, 0 ≤ x ∧ x ≤ 64) :
    ∀ x ∈ headOf q0 q1 q2 q3 n a b ls, Byt x := by
  have n1 := byte_lo hn hn'
  have a1 := byte_lo ha ha'
  have b1 := byte_lo hb hb'
  intro x hx
  simp only [headOf, List.mem_cons] at hx
  unfold Byt at *
  rcases hx with rfl | rfl | rfl | rfl | rfl | rfl | rfl | rfl | rfl | rfl | rfl | rfl | rfl | rfl | hx
  all_goals first | omega | (have := hl x hx; omega)
end Sq
namespace Sq
theorem refused_mark {ws ts : List Int} {k c : Int} (h : 0 ≤ k) (h0 : k ≠ 0) (h1 : k ≠ 1) (h4 : k < 4) : Refused ((83 :: 81 :: ws ++ ts).set (k - 2).toNat (((83 :: 81 :: ws ++ ts).getD (k - 2).toNat 0 + 1 + c.fmod 255).fmod 256)) := by
  rcases (by omega : k = 2 ∨ k = 3) with rfl | rfl
  · exact refused_mark0
  · exact refused_mark1
theorem head_len {ws ts : List Int} (hw : ws.length = 269) (ht : ts.length ≤ 3) (i : Nat) (x : Int) : ((83 :: 81 :: ws ++ ts).set i x).length ≤ 1000 := by
  rw [List.length_set]; simp; omega
theorem take_len {ws : List Int} (hw : ws.length = 269) (n : Nat) : ((83 :: 81 :: ws).take n).length ≤ 1000 := by
  rw [List.length_take]; simp; omega
theorem head_bad {ws ts : List Int} {c x : Int} (hw : ws.length = 269) (hx : 64 < x) : Refused ((83 :: 81 :: ws ++ ts).set (14 + c.fmod 257).toNat x) := by
  have h0 : 0 ≤ c.fmod 257 := Int.fmod_nonneg_of_pos _ (by decide)
  have h1 : c.fmod 257 < 257 := Int.fmod_lt_of_pos _ (by decide)
  exact refused_long (by simp; omega) (by omega) (by omega) hx
end Sq
-- SqLoop
section
open PySem PySem.W PyProof.Rows PySem.Calls PySem.Spec
namespace Sq
/-- a tuple of three ints in the ledger -/
abbrev tup3 (k v l : Int) (t0 t1 t2 : Tok) (n : Nat) : Obj := { cls := .type "tuple", data := .seq #[.int k t0, .int v t1, .int l t2] n }
inductive ToksIn (news : List (Addr × Obj)) : List Value → List Tk → Prop
  | nil : ToksIn news [] []
  | cons {a : Addr} {k v l : Int} {t0 t1 t2 : Tok} {n : Nat} {vs : List Value} {ts : List Tk} : (a, tup3 k v l t0 t1 t2 n) ∈ news → ToksIn news vs ts → ToksIn news (.ref a :: vs) ((k, v, l) :: ts)
theorem ToksIn.mono {news news' : List (Addr × Obj)} {vs : List Value} {ts : List Tk} (h : ToksIn news vs ts) (hs : ∀ p ∈ news, p ∈ news') : ToksIn news' vs ts := by
  induction h with
  | nil => exact .nil
  | cons h _ ih => exact .cons (hs _ h) ih
theorem ToksIn.length {news : List (Addr × Obj)} {vs : List Value} {ts : List Tk} (h : ToksIn news vs ts) : vs.length = ts.length := by
  induction h with
  | nil => rfl
  | cons _ _ ih => simp [ih]
theorem ToksIn.append {news : List (Addr × Obj)} {vs ws : List Value} {ts us : List Tk} (h : ToksIn news vs ts) (k : ToksIn news ws us) : ToksIn news (vs ++ ws) (ts ++ us) := by
  induction h with
  | nil => exact k
  | cons h _ ih => exact .cons h ih
theorem ToksIn.get {news : List (Addr × Obj)} {vs : List Value} {ts : List Tk} (h : ToksIn news vs ts) {i : Nat} {x : Value} (hx : vs[i]? = some x) :
    ∃ a k v l t0 t1 t2 n, x = .ref a ∧ ts[i]? = some (k, v, l) ∧ (a, tup3 k v l t0 t1 t2 n) ∈ news := by
  induction h generalizing i with
  | nil => simp at hx
  | cons h _ ih =>
    cases i with
    | zero => simp at hx; subst hx; exact ⟨_, _, _, _, _, _, _, _, rfl, rfl, h⟩
    | succ i => exact ih (by simpa using hx)
theorem tokStep_no {sz k v l : Int} (h : ¬ ((k = 0 ∧ 0 ≤ v ∧ v ≤ 255 ∧ l = 0) ∨ (k = 1 ∧ 1 ≤ v ∧ v ≤ sz ∧ v ≤ 65535 ∧ 4 ≤ l ∧ l ≤ 255))) : tokStep sz (k, v, l) = none := by
  unfold tokStep
  simp only
  (repeat' split) <;> first | rfl | omega
theorem tokStep_l {sz k v l : Int} (h : k = 0 ∧ 0 ≤ v ∧ v ≤ 255 ∧ l = 0) : tokStep sz (k, v, l) = some (sz + 1) := by
  unfold tokStep
  simp only
  (repeat' split) <;> first | rfl | omega
theorem tokStep_c {sz k v l : Int} (h : k = 1 ∧ 1 ≤ v ∧ v ≤ sz ∧ v ≤ 65535 ∧ 4 ≤ l ∧ l ≤ 255) : tokStep sz (k, v, l) = some (sz + l) := by
  unfold tokStep
  simp only
  (repeat' split) <;> first | rfl | omega
theorem take_next {α : Type} {ts : List α} {i : Nat} {t : α} (h : ts[i]? = some t) : ts.take (i + 1) = ts.take i ++ [t] := by simp [List.take_add_one, h]
theorem tok_next {ts : List Tk} {i : Nat} {t : Tk} {sz sz' : Int} (hr : tokRun 0 (ts.take i) = some sz) (ht : ts[i]? = some t) (hs : tokStep sz t = some sz') : tokRun 0 (ts.take (i + 1)) = some sz' := by
  rw [take_next ht, tokRun_append, hr]
  simp only [Option.bind_some, tokRun, hs]
theorem tok_bad {ts : List Tk} {i : Nat} {t : Tk} {sz : Int} (hr : tokRun 0 (ts.take i) = some sz) (ht : ts[i]? = some t) (hs : tokStep sz t = none) : tokOk ts = false := by
  have e : ts = ts.take i ++ t :: ts.drop (i + 1) := by
    have h := List.take_append_drop (i + 1) ts
    rw [take_next ht, List.append_assoc] at h
    exact h.symm
  unfold tokOk
  rw [e, tokRun_append, hr]
  simp only [Option.bind_some, tokRun, hs]
  rfl
theorem tok_all {ts : List Tk} {n : Nat} {sz : Int} (hr : tokRun 0 (ts.take n) = some sz) (hn : n = ts.length) : tokOk ts = true := by
  subst hn
  rw [List.take_length] at hr
  unfold tokOk
  rw [hr]
  rfl
theorem tok_at {ts : List Tk} {i : Nat} {k v l : Int} (hok : tokOk ts = true) (ht : ts[i]? = some (k, v, l)) :
    (k = 0 ∧ 0 ≤ v ∧ v ≤ 255 ∧ l = 0) ∨ (k = 1 ∧ 1 ≤ v ∧ v ≤ ((expand (ts.take i)).length : Int) ∧ v ≤ 65535 ∧ 4 ≤ l ∧ l ≤ 255) := by
  have e : ts = ts.take i ++ (k, v, l) :: ts.drop (i + 1) := by
    have h := List.take_append_drop (i + 1) ts
    rw [take_next ht, List.append_assoc] at h
    exact h.symm
  unfold tokOk at hok
  rw [e, tokRun_append] at hok
  cases hr : tokRun 0 (ts.take i) with
  | none => rw [hr] at hok; cases hok
  | some sz =>
    rw [hr] at hok
    have hl := expand_len hr
    simp only [Option.bind_some, tokRun] at hok
    rw [hl]
    refine Decidable.byContradiction fun hn => ?_
    rw [tokStep_no hn] at hok
    cases hok
theorem expand_next {ts : List Tk} {i : Nat} {t : Tk} (ht : ts[i]? = some t) : expand (ts.take (i + 1)) = expStep (expand (ts.take i)) t := by
  rw [take_next ht, expand_append]
theorem ints_snoc {vs : List Value} {ns : List Int} (h : IntsAre vs ns) (n : Int) (t : Tok) : IntsAre (vs ++ [.int n t]) (ns ++ [n]) := by
  induction h with
  | nil => exact .cons n t .nil
  | cons m u _ ih => exact .cons m u ih
theorem tokStep_le {n k : Int} {t : Tk} (h : tokStep n t = some k) : k ≤ n + 255 := by
  unfold tokStep at h
  (repeat' split at h) <;> first | (cases h; done) | (simp only [Option.some.injEq] at h; omega)
theorem tokRun_le {ts : List Tk} : ∀ {n k : Int}, tokRun n ts = some k → k ≤ n + 255 * ts.length := by
  induction ts with
  | nil => intro n k h; simp only [tokRun, Option.some.injEq] at h; simp; omega
  | cons t r ih =>
    intro n k h
    simp only [tokRun] at h
    cases hs : tokStep n t with
    | none => rw [hs] at h; cases h
    | some j =>
      rw [hs] at h
      have h1 := tokStep_le hs
      have h2 := ih h
      rw [List.length_cons]
      push_cast
      omega
theorem expand_le {ts : List Tk} (hok : tokOk ts = true) (i : Nat) : (expand (ts.take i)).length ≤ 255 * ts.length := by
  unfold tokOk at hok
  have e : ts = ts.take i ++ ts.drop i := (List.take_append_drop i ts).symm
  rw [e, tokRun_append] at hok
  cases hr : tokRun 0 (ts.take i) with
  | none => rw [hr] at hok; cases hok
  | some sz =>
    have h1 := expand_len hr
    have h2 := tokRun_le hr
    have h3 : (ts.take i).length ≤ ts.length := by rw [List.length_take]; omega
    omega
theorem map_at {m : Str → Option Value} {x : Str} {v : Value} (h : m x = some v) : m = fun y => if y = x then some v else m y := funext fun y => by
  by_cases hy : y = x
  · rw [if_pos hy, hy, h]
  · rw [if_neg hy]
theorem list_end {us : List Value} {x : Value} : us.toArray.push x = (us ++ [x]).toArray := by simp
theorem back_get {xs : List Int} {d : Int} (h1 : 1 ≤ d) (h2 : d ≤ xs.length) : xs.getD (((xs.length : Int) - d).toNat) 0 = xs.getD (xs.length - d.toNat) 0 := by
  congr 1; omega
theorem rsize1 (b : Int) : Builtin.Range.rangeSize 0 b 1 = (b.toNat : Int) := by
  rw [rangeSize_one]; split <;> omega
theorem rsmall1 {b : Int} (hb : -(2 ^ 62) ≤ b) (hb' : b < 2 ^ 62) : Builtin.Range.small 0 b 1 = true := by
  unfold Builtin.Range.small
  rw [rangeSize_one]
  simp only [Builtin.Range.rangeFitsLong, Bool.and_eq_true, Bool.or_eq_true, decide_eq_true_eq, beq_iff_eq, show ((1 : Int) > 0) by decide, if_true]
  split <;> omega
theorem fin_bool {h₀ h : Heap} {L : Addr} {m : Str → Option Value} {news all : List (Addr × Obj)} {s : Shared} {Q : Value → Shared → Prop} {b c : Bool} {tk : Nat}
    (hret : ∀ h' tk', Fr h₀ L h' m → News h₀ L h' news → Q (.bool b) { s with heap := h', toks := tk' }) (hb : b = c) (F : Fr h₀ L h m) (N : News h₀ L h all) (hs : ∀ p ∈ news, p ∈ all) :
    Q (.bool c) { s with heap := h, toks := tk } := hb ▸ hret h tk F fun p hp => N p (hs p hp)
section
variable {prog : Program} {w : World} {A : Around} {E : Value → Shared → Prop} {s : Shared} {env : Env} {h₀ : Heap} {body : List Stmt} {Q : Flow → Shared → Prop}
/-- the map behind a turn's three stores -/
abbrev set3 (x0 x1 x2 : Str) (v0 v1 v2 : Value) (m : Str → Option Value) : Str → Option Value :=
  fun y => if y = x2 then some v2 else if y = x1 then some v1 else if y = x0 then some v0 else m y
abbrev TurnPost (h₀ : Heap) (L : Addr) (own : List (Addr × Obj)) (news₁ : List (Addr × Obj)) (Jn : (Str → Option Value) → List (Addr × Obj) → Prop) (s₁ : Shared) (Q : Flow → Shared → Prop) : Flow → Shared → Prop :=
  LoopStep3 h₀ L own news₁ Jn s₁ (fun v s' => Q (.ret v) s') fun s' => Q .next s'

theorem unr_trip {x0 x1 x2 : Str} {p0 p1 p2 pt : Pos} {xk : Nat} {vs : List Value} {ts : List Tk} {cst : List (Addr × Obj)} {fp : List Addr} {s₀ : Shared}
    (hh : A.handled = none) (hx0 : env.kindOf x0 = some .local) (hx1 : env.kindOf x1 = some .local) (hx2 : env.kindOf x2 = some .local)
    (hp : (env.scope.kind == .class || (env.scope.kind == .module && env.locals != env.globals)) = false)
    (hT : ToksIn cst vs ts) (J : Nat → (Str → Option Value) → List (Addr × Obj) → Prop) (hc : ∀ i m₁ n₁, J i m₁ n₁ → ∀ p ∈ cst, p ∈ n₁)
    (turn : ∀ i k v l t0 t1 t2 m₁ news₁ h tk own, ts[i]? = some (k, v, l) → J i m₁ news₁ → (∀ p ∈ own, p.1 ∈ fp) →
      Fr h₀ env.locals h (set3 x0 x1 x2 (.int k t0) (.int v t1) (.int l t2) m₁) → News h₀ env.locals h (own ++ news₁) →
      wpAny (model prog w) A (execs body env) (TurnPost h₀ env.locals own news₁ (J (i + 1)) { s₀ with heap := h, toks := tk } Q) E { s₀ with heap := h, toks := tk })
    (done : ∀ m₁ news₁ h tk, J vs.length m₁ news₁ → Fr h₀ env.locals h m₁ → News h₀ env.locals h news₁ → Q .next { s₀ with heap := h, toks := tk }) :
    ∀ (j i : Nat) (m₁ : Str → Option Value) (news₁ : List (Addr × Obj)), i + j = vs.length → J i m₁ news₁ →
      Unr prog w A E h₀ env (.Tuple [.Name x0 p0, .Name x1 p1, .Name x2 p2] xk pt) body Q (fun i v => vs.toArray[i]? = some v) fp s₀ j i m₁ news₁ := by
  intro j
  induction j with
  | zero =>
    intro i m₁ news₁ hi hJ h' tk F N
    rw [Nat.add_zero] at hi
    subst hi
    exact done m₁ news₁ h' tk hJ F N
  | succ j ih =>
    intro i m₁ news₁ hi hJ x h₁ tk₁ own hP hown F N
    have hx : vs[i]? = some x := by simpa using hP
    obtain ⟨a, k, v, l, t0, t1, t2, n, rfl, hts, hm⟩ := hT.get hx
    have hmem : (a, tup3 k v l t0 t1 t2 n) ∈ own ++ news₁ := List.mem_append_right _ (hc i m₁ news₁ hJ _ hm)
    have ht : h₁.IsTuple a #[.int k t0, .int v t1, .int l t2] := News.isTup N hmem
    refine wpAny_assign_Tuple hh ht rfl rfl fun h₂ hx₂ => ?_
    replace hx₂ : Heap.ExtBut h₁.objs.size h₁ h₂ := hx₂
    have up₂ : ∀ b o, h₁.get? b = some o → h₂.get? b = some o := fun b o q => hx₂ b o (Nat.ne_of_lt (Heap.lt_size q)) q
    have F₂ : Fr h₀ env.locals h₂ m₁ := ⟨F.ns.at' fun o e => up₂ _ o e, fun b o e => up₂ b o (F.keep b o e), F.above⟩
    have N₂ : News h₀ env.locals h₂ (own ++ news₁) := N.grown up₂
    show wpAny _ A (do holding [.int v t1, .int l t2] (assign (.Name x0 p0) env (.int k t0)); do holding [.int l t2] (assign (.Name x1 p1) env (.int v t1)); do holding [] (assign (.Name x2 p2) env (.int l t2)); pure ()) _ _ _
    refine wpAny_bind (wpAny_holding (wpAny_assign_Name (wpAny_storeName_local hx0 F₂.ns (fun h₃ hn₃ hs₃ => ?_) hp)))
    replace hs₃ : Heap.SameBut env.locals h₂ h₃ := hs₃
    have F₃ := F₂.set hn₃ hs₃
    refine wpAny_bind (wpAny_holding (wpAny_assign_Name (wpAny_storeName_local hx1 F₃.ns (fun h₄ hn₄ hs₄ => ?_) hp)))
    replace hs₄ : Heap.SameBut env.locals h₃ h₄ := hs₄
    have F₄ := F₃.set hn₄ hs₄
    refine wpAny_bind (wpAny_holding (wpAny_assign_Name (wpAny_storeName_local hx2 F₄.ns (fun h₅ hn₅ hs₅ => wpAny_pure ?_) hp)))
    replace hs₅ : Heap.SameBut env.locals h₄ h₅ := hs₅
    have F₅ := F₄.set hn₅ hs₅
    have N₅ : News h₀ env.locals h₅ (own ++ news₁) := ((N₂.set hs₃).set hs₄).set hs₅
    refine wpAny_mono (turn i k v l t0 t1 t2 m₁ news₁ h₅ _ own hts hJ hown F₅ N₅) (fun f s₃ q => ?_) fun _ _ e => e
    cases f with
    | ret v => exact q
    | brk => exact q
    | cont =>
      obtain ⟨e0, h', tk', m₂, n₂, e, F', N', ha, hJ'⟩ := q
      exact ⟨e0, h', tk', m₂, n₂, e, F', N', ha, ih (i + 1) m₂ n₂ (by omega) hJ'⟩
    | next =>
      obtain ⟨e0, h', tk', m₂, n₂, e, F', N', ha, hJ'⟩ := q
      exact ⟨e0, h', tk', m₂, n₂, e, F', N', ha, ih (i + 1) m₂ n₂ (by omega) hJ'⟩

theorem For_trip {x0 x1 x2 sn : Str} {p0 p1 p2 pt ps pos : Pos} {xk : Nat} {vs : List Value} {ts : List Tk} {cst news : List (Addr × Obj)} {m : Str → Option Value} {l : Addr} {nn : Nat}
    (hh : A.handled = none) (F : Fr h₀ env.locals s.heap m) (N : News h₀ env.locals s.heap news) (hl : (l, listOf vs.toArray nn) ∈ news)
    (hload : ∀ Q' : Value → Shared → Prop, Q' (.ref l) s → wpAny (model prog w) A (eval (.Name sn ps) env) Q' E s)
    (hx0 : env.kindOf x0 = some .local) (hx1 : env.kindOf x1 = some .local) (hx2 : env.kindOf x2 = some .local)
    (hp : (env.scope.kind == .class || (env.scope.kind == .module && env.locals != env.globals)) = false)
    (hT : ToksIn cst vs ts) (J : Nat → (Str → Option Value) → List (Addr × Obj) → Prop) (h0 : J 0 m news) (hc : ∀ i m₁ n₁, J i m₁ n₁ → ∀ p ∈ cst, p ∈ n₁)
    (turn : ∀ i k v l' t0 t1 t2 m₁ news₁ h tk own, ts[i]? = some (k, v, l') → J i m₁ news₁ → (∀ p ∈ own, p.1 ∈ [s.heap.objs.size, l]) →
      Fr h₀ env.locals h (set3 x0 x1 x2 (.int k t0) (.int v t1) (.int l' t2) m₁) → News h₀ env.locals h (own ++ news₁) →
      wpAny (model prog w) A (execs body env) (TurnPost h₀ env.locals own news₁ (J (i + 1)) { s with heap := h, toks := tk } Q) E { s with heap := h, toks := tk })
    (done : ∀ m₁ news₁ h tk, J vs.length m₁ news₁ → Fr h₀ env.locals h m₁ → News h₀ env.locals h news₁ → Q .next { s with heap := h, toks := tk })
    (hE : PassesOwn (model prog w) A env E) :
    wpAny (model prog w) A (exec (.For (.Tuple [.Name x0 p0, .Name x1 p1, .Name x2 p2] xk pt) (.Name sn ps) body [] pos) env) Q E s := by
  refine For_unr h₀ (hload _ ?_) (hE := hE)
  refine Iter_list_unr hh (News.isList N hl) F N (News.ne N hl) ?_
  have e : vs.toArray.size = vs.length := by simp
  rw [e]
  exact unr_trip (s₀ := { s with heap := s.heap.push { cls := .type "list_iterator", data := .fields #[.ref l, .int 0 0] } }) hh hx0 hx1 hx2 hp hT J hc turn done vs.length 0 m news (by omega) h0
end
section
variable {prog : Program} {w : World} {A : Around} {E : Value → Shared → Prop} {s : Shared} {env : Env} {h₀ : Heap} {x : Str} {body : List Stmt} {Q : Flow → Shared → Prop}
theorem range_inv {r : Addr} {a₀ b₀ : Int} {t₀ u₀ v₀ : Tok} {n : Nat} {m₀ : Str → Option Value} {news : List (Addr × Obj)} (J : Nat → (Str → Option Value) → List (Addr × Obj) → Prop)
    (hh : A.handled = none) (hr : IsRange s.heap r a₀ b₀ 1 t₀ u₀ v₀) (hsmall : Builtin.Range.small a₀ b₀ 1 = true) (hsz : Builtin.Range.rangeSize a₀ b₀ 1 = (n : Int))
    (F : Fr h₀ env.locals s.heap m₀) (N : News h₀ env.locals s.heap news) (hj : J 0 m₀ news)
    (turn : ∀ i t m₁ nx h tk own, i < n → OwnOff own (nx.map (·.1)) → J i m₁ nx → Fr h₀ env.locals h (fun y => if y = x then some (.int (a₀ + (i : Int)) t) else m₁ y) → News h₀ env.locals h (nx ++ own) →
      wpAny (model prog w) A (execs body env) (InvPostG h₀ env.locals (J (i + 1)) own { s with heap := h, toks := tk } Q) E { s with heap := h, toks := tk })
    (done : ∀ m₁ nx h tk, J n m₁ nx → Fr h₀ env.locals h m₁ → News h₀ env.locals h nx → Q .next { s with heap := h, toks := tk }) :
    wpAny (model prog w) A (pyIter (.ref r)) (fun it s₂ => LoopAtV prog w A h₀ env x body Q E it s₂) E s := by
  refine wpAny_pyIter_range hr hsmall ?_
  have W : Walks prog w A s.heap.objs.size [s.heap.objs.size] [s.heap.objs.size] n (fun i v => i < n ∧ ∃ t, v = .int (a₀ + i * 1) t)
      (fun i h => IsRangeIter h s.heap.objs.size (a₀ + (i : Nat) * 1) ((n : Int) - (i : Nat)) 1) := (Walks.range hh _ a₀ 1 n).bound
  refine kdr_loop J W (fun _ h => h) (fun _ h => h) ?_ ?_ ?_ ?_ (by show IsRangeIter _ _ _ _ _; rw [hsz]; simpa using Heap.get?_push_size _ rfl) (F.push _) (fun p hp => ⟨Heap.get?_push_of_some _ (N p hp).1, (N p hp).2⟩) hj ?_ done
  · intro i h hi b hb
    rw [List.mem_singleton.mp hb]
    exact ⟨_, hi⟩
  · intro hm
    exact absurd F.ns.lt ((List.mem_singleton.mp hm) ▸ Nat.lt_irrefl _)
  · intro b hb
    rw [List.mem_singleton.mp hb]
    exact next_is_new F
  · intro p hp hI
    exact absurd (Heap.lt_size (N p hp).1) ((List.mem_singleton.mp hI) ▸ Nat.lt_irrefl _)
  · rintro i v m₁ nx h tk own hi ⟨_, t, rfl⟩ hoff hJ F₁ N₁
    have e1 : a₀ + (i : Int) * 1 = a₀ + (i : Int) := by omega
    rw [e1] at F₁
    exact turn i t m₁ nx h tk own hi hoff hJ F₁ N₁
end
section
variable {prog : Program} {w : World} {A : Around} {E : Value → Shared → Prop} {s : Shared} {h₀ : Heap} {L l : Addr} {news : List (Addr × Obj)} {vs : List Value} {ns : List Int} {nn : Nat} {Q : Value → Shared → Prop}
theorem len_ints (N : News h₀ L s.heap news) (hm : (l, listOf vs.toArray nn) ∈ news) (hi : IntsAre vs ns) (hf : (ns.length : Int) < 2 ^ 62)
    (h : ∀ t tk, Q (.int ns.length t) { s with toks := tk }) : wpAny (model prog w) A (call (.builtin "len") [.ref l]) Q E s := by
  refine len_list (News.isList N hm) ?_ ?_
  · rw [List.size_toArray, hi.length]; omega
  · rw [List.size_toArray, hi.length]; exact h _ _
theorem item_ints {value slice : Expr} {k : Int} {u : Tok} (N : News h₀ L s.heap news) (hm : (l, listOf vs.toArray nn) ∈ news) (hi : IntsAre vs ns) (hf : (ns.length : Int) < 2 ^ 62) (h0 : 0 ≤ k) (h1 : k < ns.length)
    (h : ∀ t, Q (.int (ns.getD k.toNat 0) t) s)
    (hs : subscripted slice false (.ref l) (.int k u) = operate [.ref l, .int k u] (getItem (.ref l) (.int k u)) := by with_unfolding_all rfl) :
    wpAny (model prog w) A (subscriptTail value slice (.ref l) (.int k u)) Q E s := by
  have hk : k.toNat < ns.length := by omega
  obtain ⟨t, hx⟩ := hi.get k.toNat (ns[k.toNat]'hk) (List.getElem?_eq_getElem hk)
  have e : ns.getD k.toNat 0 = ns[k.toNat]'hk := by rw [List.getD_eq_getElem?_getD, List.getElem?_eq_getElem hk]; rfl
  have q := h t
  rw [e] at q
  exact tail_any (News.isList N hm).typeIs slot_list_getitem.lookup (wpAny_getItem_list (News.isList N hm) h0 (by omega) (by simpa using hx) q) hs
end
end Sq
end
-- SqEq
section
open PySem PySem.W PyProof.Rows PySem.Calls PySem.Spec PySem.SeqAt
namespace Sq
theorem fm0 (x : Int) {n : Int} (h : 0 < n) : 0 ≤ x.fmod n := Int.fmod_nonneg_of_pos x h
theorem fm1 (x : Int) {n : Int} (h : 0 < n) : x.fmod n < n := Int.fmod_lt_of_pos x h
theorem shaped_tup (ns : List Int) : shaped (.tuple (ns.map PyData.int)) = true := by
  have h1 := W.depthAll_ints ns
  have h2 : PyData.depth (.tuple (ns.map PyData.int)) ≤ 64 := by simp only [PyData.depth]; omega
  show (PyData.canLay0 (.tuple (ns.map PyData.int)) && decide (PyData.depth (.tuple (ns.map PyData.int)) ≤ 64)) = true
  rw [Bool.and_eq_true]
  exact ⟨by simp only [PyData.canLay0]; exact W.canLayAll0_ints ns, decide_eq_true h2⟩
theorem reads_tup {h : Heap} {a : Addr} {vs : List Value} {ns : List Int} (hl : IsTup h a vs.toArray) (hi : IntsAre vs ns) : Reads h (.ref a) (.tuple (ns.map PyData.int)) [] := by
  obtain ⟨o, ho, hc, n, hd⟩ := hl
  exact Reads.tuple ho hc hd (by simpa using readsAll_of_ints hi)
def tkd (t : Tk) : PyData := .tuple [.int t.1, .int t.2.1, .int t.2.2]
theorem toks_read {h₀ h : Heap} {L : Addr} {news : List (Addr × Obj)} {vs : List Value} {ts : List Tk} (N : News h₀ L h news) (hT : ToksIn news vs ts) : ∃ as, ReadsAll h vs (ts.map tkd) as := by
  induction hT with
  | nil => exact ⟨_, .nil⟩
  | cons hm _ ih =>
    obtain ⟨as, ra⟩ := ih
    exact ⟨_, .cons (Reads.tuple (N.get hm) rfl rfl (.cons (.int _ _) (.cons (.int _ _) (.cons (.int _ _) .nil)))) ra⟩
theorem tkd_lay : ∀ ts : List Tk, PyData.canLayAll0 (ts.map tkd) = true
  | [] => by simp [PyData.canLayAll0]
  | t :: r => by simp [PyData.canLayAll0, tkd, PyData.canLay0, tkd_lay r]
theorem tkd_depth : ∀ ts : List Tk, PyData.depthAll (ts.map tkd) ≤ 2
  | [] => by simp [PyData.depthAll]
  | t :: r => by
    have := tkd_depth r
    simp only [List.map_cons, PyData.depthAll, PyData.depth, tkd]
    omega
theorem tkd_shaped (ts : List Tk) : shaped (.list (ts.map tkd)) = true := by
  have h1 := tkd_depth ts
  have h2 : PyData.depth (.list (ts.map tkd)) ≤ 64 := by simp only [PyData.depth]; omega
  show (PyData.canLay0 (.list (ts.map tkd)) && decide (PyData.depth (.list (ts.map tkd)) ≤ 64)) = true
  rw [Bool.and_eq_true]
  exact ⟨by simp only [PyData.canLay0]; exact tkd_lay ts, decide_eq_true h2⟩
theorem tkd_noMix : ∀ ts us : List Tk, noMixAll (ts.map tkd) (us.map tkd) = true
  | [], [] => by simp [noMixAll]
  | [], _ :: _ => by simp [noMixAll]
  | _ :: _, [] => by simp [noMixAll]
  | _ :: r, _ :: q => by simp [noMixAll, noMix, tkd, tkd_noMix r q]
theorem tkd_same : ∀ ts us : List Tk, PySem.Spec.sameAll (ts.map tkd) (us.map tkd) = decide (ts = us)
  | [], [] => by simp [PySem.Spec.sameAll]
  | [], _ :: _ => by simp [PySem.Spec.sameAll]
  | _ :: _, [] => by simp [PySem.Spec.sameAll]
  | (a, b, c) :: r, (a', b', c') :: q => by
    simp only [List.map_cons, PySem.Spec.sameAll, PySem.Spec.same, tkd, tkd_same r q]
    by_cases h1 : a = a' <;> by_cases h2 : b = b' <;> by_cases h3 : c = c' <;> by_cases h4 : r = q <;> simp [h1, h2, h3, h4]
section
variable {prog : Program} {w : World} {A : Around} {E : Value → Shared → Prop} {s : Shared} {Q : Value → Shared → Prop}
theorem ne_tup {a b : Addr} {vs us : List Value} {ns ms : List Int} (hl : IsTup s.heap a vs.toArray) (hi : IntsAre vs ns) (hl' : IsTup s.heap b us.toArray) (hi' : IntsAre us ms) (hu : A.units + 64 < cLine)
    (h : Q (.bool (!decide (ns = ms))) s) : wpAny (model prog w) A (compareOp .NotEq (.ref a) (.ref b)) Q E s :=
  ne_dataH_same (reads_tup hl hi) (reads_tup hl' hi') (shaped_tup ns) (shaped_tup ms) hu (by simp only [noMix]; exact noMix_ints ns ms) (by simp only [PySem.Spec.same]; rw [same_ints]; exact h)
theorem ne_toks {h₀ : Heap} {L a b : Addr} {news : List (Addr × Obj)} {vs us : List Value} {n n' : Nat} {ts ss : List Tk} (N : News h₀ L s.heap news) (ha : (a, listOf vs.toArray n) ∈ news) (hb : (b, listOf us.toArray n') ∈ news)
    (hi : ToksIn news vs ts) (hj : ToksIn news us ss) (hu : A.units + 64 < cLine)
    (h : Q (.bool (!decide (ts = ss))) s) : wpAny (model prog w) A (compareOp .NotEq (.ref a) (.ref b)) Q E s := by
  obtain ⟨as, ra⟩ := toks_read N hi
  obtain ⟨bs, rb⟩ := toks_read N hj
  exact ne_dataH_same (Reads.list (N.get ha) rfl rfl (by simpa using ra)) (Reads.list (N.get hb) rfl rfl (by simpa using rb)) (tkd_shaped ts) (tkd_shaped ss) hu
    (by simp only [noMix]; exact tkd_noMix ts ss) (by simp only [PySem.Spec.same]; rw [tkd_same]; exact h)
theorem item_tup_any {value slice : Expr} {a : Addr} {l : List Value} {k : Int} {u : Tok} (ht : IsTup s.heap a l.toArray) (h0 : 0 ≤ k) (h1 : k < l.length) (hf : (l.length : Int) < 2 ^ 62) (h : ∀ v ∈ l, Q v s)
    (hs : subscripted slice false (.ref a) (.int k u) = operate [.ref a, .int k u] (getItem (.ref a) (.int k u)) := by with_unfolding_all rfl) :
    wpAny (model prog w) A (subscriptTail value slice (.ref a) (.int k u)) Q E s := by
  have hk : k.toNat < l.length := by omega
  refine item_tupleT ht (by omega) (by omega) (j := k.toNat) ?_ (List.getElem?_eq_getElem hk) (h _ (List.getElem_mem hk)) hs
  simp only [seqIndex?, if_neg (show ¬ k < 0 by omega)]
  rw [if_pos (by simp; omega)]
end
section
variable {prog : Program} {w : World} {A : Around} {E : Value → Shared → Prop} {s : Shared} {h₀ : Heap} {L : Addr} {m : Str → Option Value} {news : List (Addr × Obj)} {Q : Value → Shared → Prop}
theorem sq_append {D : Addr} {vs : List Value} {c : Nat} {rest : List (Addr × Obj)} {x : Value} (F : Fr h₀ L s.heap m) (N : News h₀ L s.heap ((D, listOf vs.toArray c) :: rest)) (hoff : ∀ p ∈ rest, p.1 ≠ D) (hz : vs.length ≤ 16000000)
    (h : ∀ h', Fr h₀ L h' m → News h₀ L h' ((D, listOf (vs ++ [x]).toArray (c + 1)) :: rest) → Q .none { s with heap := h' }) :
    wpAny (model prog w) A (call (.builtin "list.append") [.ref D, x]) Q E s := by
  refine append_K F N (Upd.head hoff) (fun h' F' N' => ?_) (by rw [List.size_toArray, sizeLine_eq]; omega)
  rw [list_end] at N'
  exact h h' F' N'
theorem sq_append_upd {D : Addr} {vs : List Value} {c : Nat} {news' : List (Addr × Obj)} {x : Value} (F : Fr h₀ L s.heap m) (N : News h₀ L s.heap news) (U : Upd D (listOf vs.toArray c) (listOf (vs ++ [x]).toArray (c + 1)) news news') (hz : vs.length ≤ 16000000)
    (h : ∀ h', Fr h₀ L h' m → News h₀ L h' news' → Q .none { s with heap := h' }) :
    wpAny (model prog w) A (call (.builtin "list.append") [.ref D, x]) Q E s := by
  rw [← list_end] at U
  exact append_K F N U h (by rw [List.size_toArray, sizeLine_eq]; omega)
theorem allLt_mem {D : Addr} : ∀ {l : List (Addr × Obj)}, AllLt D l → ∀ p ∈ l, p.1 < D
  | [], _, _, h => nomatch h
  | _ :: _, x, p, h => by
    rcases List.mem_cons.mp h with rfl | h
    · exact x.1
    · exact allLt_mem x.2 p h
theorem mul_rep {l : Addr} {v : Value} {nn : Nat} {x : Int} {u : Tok} (F : Fr h₀ L s.heap m) (N : News h₀ L s.heap news) (hm : (l, listOf #[v] nn) ∈ news) (h0 : 0 ≤ x) (h1 : x ≤ 1000000)
    (h : ∀ D h', Fr h₀ L h' m → News h₀ L h' ((D, listOf (List.replicate x.toNat v).toArray 0) :: news) → (∀ p ∈ news, p.1 < D) → Q (.ref D) { s with heap := h' }) :
    wpAny (model prog w) A (binaryOp .Mult (.ref l) (.int x u)) Q E s := by
  refine mul_list F N (N.get hm) (by omega) (by omega) ?_ fun h' F' N' => ?_
  · show 1 * x.toNat ≤ 2 ^ 24
    omega
  · have e : (List.foldl (fun x1 x2 => x1 ++ x2) #[] (List.replicate (if (#[v] : Array Value).isEmpty = true then 0 else x.toNat) #[v])) = (List.replicate x.toNat v).toArray := by
      rw [if_neg (by simp)]
      generalize x.toNat = n
      have q : ∀ (n : Nat) (acc : Array Value), List.foldl (fun x1 x2 => x1 ++ x2) acc (List.replicate n #[v]) = acc ++ (List.replicate n v).toArray := by
        intro n
        induction n with
        | zero => intro acc; simp
        | succ n ih =>
          intro acc
          rw [List.replicate_succ, List.foldl_cons, ih, List.replicate_succ, Array.append_assoc]
          congr 1
          simp
      rw [q]
      simp
    rw [e] at N'
    exact h _ h' F' N' fun p hp => Heap.lt_size (N p hp).1
theorem add_any {a b : Addr} {vs ws : List Value} {n n' : Nat} (F : Fr h₀ L s.heap m) (N : News h₀ L s.heap news) (ha : (a, listOf vs.toArray n) ∈ news) (hb : (b, listOf ws.toArray n') ∈ news)
    (hz : vs.length + ws.length ≤ 1000000)
    (h : ∀ D h', Fr h₀ L h' m → News h₀ L h' ((D, listOf (vs ++ ws).toArray 0) :: news) → (∀ p ∈ news, p.1 < D) → Q (.ref D) { s with heap := h' }) :
    wpAny (model prog w) A (binaryOp .Add (.ref a) (.ref b)) Q E s :=
  add_lists F N (News.isList N ha) (News.isList N hb) (fun h' F' N' => h _ h' F' N' fun p hp => Heap.lt_size (N p hp).1) (by rw [sizeLine_eq]; omega)
theorem tup_item {value slice : Expr} {a : Addr} {l : List Value} {k : Int} {u : Tok} {v : Value} (F : Fr h₀ L s.heap m) (ht : IsTup h₀ a l.toArray) (h0 : 0 ≤ k) (h1 : k < 1000) (hx : l[k.toNat]? = some v) (h : Q v s)
    (hs : subscripted slice false (.ref a) (.int k u) = operate [.ref a, .int k u] (getItem (.ref a) (.int k u)) := by with_unfolding_all rfl) :
    wpAny (model prog w) A (subscriptTail value slice (.ref a) (.int k u)) Q E s := by
  have hk : k.toNat < l.length := (List.getElem?_eq_some_iff.mp hx).1
  refine item_tupleT (Fr.tup F ht) (by omega) (by omega) (j := k.toNat) ?_ hx h hs
  simp only [seqIndex?, if_neg (show ¬ k < 0 by omega)]
  rw [if_pos (by simp; omega)]
theorem slice_all {value slice : Expr} {l : Addr} {vs : List Value} {n : Nat} (F : Fr h₀ L s.heap m) (N : News h₀ L s.heap news) (hm : (l, listOf vs.toArray n) ∈ news) (hz : vs.length ≤ 1000000)
    (h : ∀ D h', Fr h₀ L h' m → News h₀ L h' ((D, listOf vs.toArray 0) :: news) → (∀ p ∈ news, p.1 < D) → Q (.ref D) { s with heap := h' })
    (hs : subscripted slice false (.ref l) (.ref s.heap.objs.size) = operate [.ref s.heap.objs.size, .ref l] (getItem (.ref l) (.ref s.heap.objs.size))) (ht : ∀ r, letTemporaryGo value (.ref l) r = pure ()) :
    wpAny (model prog w) A (subscriptTail value slice (.ref l) (.ref s.heap.objs.size)) Q E { s with heap := s.heap.push { cls := .type "slice", data := .fields #[.none, .none, .none] } } :=
  kmk_slice_lit F N (News.isList N hm) .none .none (by rw [slicePick_all]) h hs ht (by rw [List.size_toArray, sizeLine_eq]; omega)
theorem ints_rep (b : Int) (t : Tok) : ∀ k : Nat, IntsAre (List.replicate k (.int b t)) (List.replicate k b)
  | 0 => .nil
  | k + 1 => .cons b t (ints_rep b t k)
theorem ne_ints_eq {a b : Addr} {vs ws : List Value} {n n' : Nat} {ns ms : List Int} (N : News h₀ L s.heap news) (ha : (a, listOf vs.toArray n) ∈ news) (hb : (b, listOf ws.toArray n') ∈ news) (hi : IntsAre vs ns) (hj : IntsAre ws ms) (e : ns = ms)
    (hu : A.units + 64 < cLine) (h : Q (.bool false) s) : wpAny (model prog w) A (compareOp .NotEq (.ref a) (.ref b)) Q E s :=
  ne_intsK (News.isList N ha) hi (News.isList N hb) hj hu (by rw [decide_eq_true e]; exact h)
theorem item_list_any {value slice : Expr} {l : Addr} {vs : List Value} {nn : Nat} {k : Int} {u : Tok} (N : News h₀ L s.heap news) (hm : (l, listOf vs.toArray nn) ∈ news) (h0 : 0 ≤ k) (h1 : k < vs.length) (hf : (vs.length : Int) < 2 ^ 62) (h : ∀ v ∈ vs, Q v s)
    (hs : subscripted slice false (.ref l) (.int k u) = operate [.ref l, .int k u] (getItem (.ref l) (.int k u)) := by with_unfolding_all rfl) :
    wpAny (model prog w) A (subscriptTail value slice (.ref l) (.int k u)) Q E s := by
  have hk : k.toNat < vs.length := by omega
  exact tail_any (News.isList N hm).typeIs slot_list_getitem.lookup (wpAny_getItem_list (News.isList N hm) h0 (by omega) (by simpa using List.getElem?_eq_getElem hk) (h _ (List.getElem_mem hk))) hs
theorem toks_rep {a : Addr} {k v l : Int} {t0 t1 t2 : Tok} {n : Nat} (h : (a, tup3 k v l t0 t1 t2 n) ∈ news) : ∀ c : Nat, ToksIn news (List.replicate c (.ref a)) (List.replicate c (k, v, l))
  | 0 => .nil
  | c + 1 => .cons h (toks_rep h c)
end
end Sq
end
-- SqComp
section
open PySem PySem.W PyProof.Rows PySem.Calls PySem.Spec
namespace Sq
section
variable {prog : Program} {w : World} {A : Around} {E : Value → Shared → Prop} {s : Shared} {h₀ : Heap} {L : Addr} {m : Str → Option Value} {env : Env}
theorem compRest_of {elt : Expr} {x : Str} {scope : Scope} {cl : List (Str × Addr)} {S : List (Addr × Obj) → Prop} {P : Nat → Value → Prop} {Fin : List Value → List (Addr × Obj) → Prop} {news : List (Addr × Obj)} {n : Nat} (G : Nat → Value → Prop) (hS : S news)
    (turn : ∀ i v I oI C oC D ys m₂ h tk (E' : Value → Shared → Prop), i < n → P i v → LCg.NsObj oC m₂ → m₂ x = some v → Fr h₀ L h m → News h₀ L h ((I, oI) :: (C, oC) :: (D, LCg.lst ys) :: news) → LCg.Off3 I C D news → ((@Ne Nat I C) ∧ (@Ne Nat I D) ∧ (@Ne Nat C D)) →
      wpAny (model prog w) A (eval elt (compEnvC scope cl C env)) (fun y s₂ => ∃ h' tk', s₂ = { s with heap := h', toks := tk' } ∧ Fr h₀ L h' m ∧ News h₀ L h' ((I, oI) :: (C, oC) :: (D, LCg.lst ys) :: news) ∧ G i y) E' { s with heap := h, toks := tk })
    (fin : ∀ ys : List Value, ys.length = n → (∀ i y, ys[i]? = some y → G i y) → Fin ys news) :
    ∀ (k i : Nat) (ys : List Value), i + k = n → ys.length = i → (∀ j y, ys[j]? = some y → G j y) → LCg.CompRest prog w A h₀ L m env elt x scope cl s S P Fin k i ys news := by
  intro k
  induction k with
  | zero =>
    intro i ys hi hl hG
    exact fin ys (by omega) hG
  | succ k ih =>
    intro i ys hi hl hG v I oI C oC D m₂ h tk E' hP hNs hx F N off hne
    refine wpAny_mono (turn i v I oI C oC D ys m₂ h tk E' (by omega) hP hNs hx F N off hne) (fun y s₂ q => ?_) fun _ _ e => e
    obtain ⟨h', tk', rfl, F', N', hy⟩ := q
    refine ⟨h', tk', news, rfl, F', N', off, hS, ih (i + 1) (ys ++ [y]) (by omega) (by simp [hl]) ?_⟩
    intro j z hz
    by_cases hj : j < ys.length
    · rw [List.getElem?_append_left hj] at hz
      exact hG j z hz
    · rw [List.getElem?_append_right (by omega)] at hz
      have hj' : j - ys.length = 0 := by
        rcases Nat.eq_zero_or_pos (j - ys.length) with h0 | h0
        · exact h0
        · rw [List.getElem?_eq_none (by simp; omega)] at hz; cases hz
      rw [hj'] at hz
      have : j = i := by omega
      subst this
      simp at hz
      subst hz
      exact hy
theorem off1_mem {D : Addr} : ∀ {l : List (Addr × Obj)}, LCg.Off1 D l → ∀ p ∈ l, p.1 ≠ D
  | [], _, _, h => nomatch h
  | _ :: _, x, p, h => by
    rcases List.mem_cons.mp h with rfl | h
    · exact x.1
    · exact off1_mem x.2 p h
theorem ext_get {vs ys : List Value} (hl : ys.length = vs.length) (hG : ∀ (i : Nat) (y : Value), ys[i]? = some y → vs[i]? = some y) : ys = vs := by
  refine List.ext_getElem? fun i => ?_
  cases h : ys[i]? with
  | some y => exact (hG i y h).symm
  | none =>
    rw [List.getElem?_eq_none_iff] at h
    rw [List.getElem?_eq_none (by omega)]
/-- `y = [x for x in sn]`: a copy -/
theorem assign_copy {x y sn : Str} {px py pe ps : Pos} {scope : Scope} {cl : List (Str × Addr)} {pos spos : Pos} {Q : Flow → Shared → Prop} {ax : Addr} {vs : List Value} {nn : Nat} {news : List (Addr × Obj)}
    (hh : A.handled = none) (F : Fr h₀ L s.heap m) (N : News h₀ L s.heap news) (hm : (ax, listOf vs.toArray nn) ∈ news) (hz : vs.length ≤ 1000000) (hLe : env.locals = L)
    (hload : ∀ Q' : Value → Shared → Prop, Q' (.ref ax) s → wpAny (model prog w) A (eval (.Name sn ps) env) Q' E s)
    (hsw : swapsWith (.ListComp (.Name x pe) [⟨.Name x px, .Name sn ps, [], 0⟩] scope pos) (some (.Name y py)) spos.line env = pure true)
    (hclos : closureFor scope env = pure cl) (hcell : ∀ z ∈ scope.names, z.2 ≠ .cell) (hkind : scope.kind = .function)
    (hnames : ∀ z ∈ scope.names, z.2 = .local → scope.names.lookup z.1 = some .local) (hx : scope.names.lookup x = some .local)
    (hy : env.kindOf y = some .local) (hp : (env.scope.kind == .class || (env.scope.kind == .module && env.locals != env.globals)) = false)
    (hk : ∀ C, (compEnvC scope cl C env).scope.kind = .function) (hxl : ∀ C, (compEnvC scope cl C env).kindOf x = some .local) (hd : (x == ("__debug__" : Str)) = false)
    (h : ∀ D c h' tk, Fr h₀ L h' (fun z => if z = y then some (.ref D) else m z) → News h₀ L h' ((D, listOf vs.toArray c) :: news) → (∀ p ∈ news, p.1 ≠ D) → Q .next { s with heap := h', toks := tk }) :
    wpAny (model prog w) A (exec (.Assign [.Name y py] (.ListComp (.Name x pe) [⟨.Name x px, .Name sn ps, [], 0⟩] scope pos) spos) env) Q E s := by
  refine LCg.Assign_ListComp_U F hLe hsw hclos hcell hkind hnames hx hy hp (hload _ ?_)
  refine LCg.CompSrc.ledger hh F N hm (by rw [List.size_toArray, sizeLine_eq]; omega) fun g => ?_
  have e : vs.toArray.size = vs.length := by simp
  rw [e]
  refine compRest_of (n := vs.length) (fun i y => vs[i]? = some y) (.inr ⟨_, hm, rfl, _, rfl⟩) ?_ ?_ vs.length 0 [] (by omega) rfl (fun j y hj => by simp at hj)
  · intro i v I oI C oC D ys m₂ h1 tk E' hi hP hNs hxv F1 N1 off hne
    refine LCgL.ld_own N1 (.tail _ (.head _)) hNs hxv ?_ (hk C) (hxl C) hd
    exact ⟨h1, tk, rfl, F1, N1, by simpa using hP⟩
  · intro ys hl hG D h1 tk F1 N1 off
    have e1 : ys = vs := ext_get hl hG
    subst e1
    refine h D _ h1 tk F1 N1 ?_
    exact off1_mem off
end
section
variable {prog : Program} {w : World} {A : Around} {E : Value → Shared → Prop} {s : Shared} {h₀ : Heap} {L : Addr} {m : Str → Option Value} {news : List (Addr × Obj)}
theorem ownOff_ins {own : List (Addr × Obj)} {A B : List Addr} {D : Addr} (h : OwnOff own (A ++ B)) (hD : ∀ p ∈ own, p.1 ≠ D) : OwnOff own (A ++ D :: B) := by
  intro p hp b hb
  rcases List.mem_append.mp hb with hb | hb
  · exact h p hp b (List.mem_append_left _ hb)
  · rcases List.mem_cons.mp hb with rfl | hb
    · exact hD p hp
    · exact h p hp b (List.mem_append_right _ hb)
theorem range_call {n : Int} {t : Tok} {Q : Value → Shared → Prop} (F : Fr h₀ L s.heap m) (N : News h₀ L s.heap news)
    (h : ∀ r h' tk t u v, Fr h₀ L h' m → News h₀ L h' news → IsRange h' r 0 n 1 t u v → Q (.ref r) { s with heap := h', toks := tk }) :
    wpAny (model prog w) A (call (.type "range") [.int n t]) Q E s :=
  call_range_1 (h _ _ _ _ _ _ (F.push _) (N.grown fun _ _ e => Heap.get?_push_of_some _ e) (Heap.get?_push_size _ rfl))
end
end Sq
end
-- SqFor
section
open PySem PySem.W PyProof.Rows PySem.Calls PySem.Spec
namespace Sq
section
variable {prog : Program} {w : World} {A : Around} {E : Value → Shared → Prop} {s : Shared} {h₀ : Heap} {L : Addr} {m : Str → Option Value} {env : Env}
/-- a comprehension whose turns may lay new objects -/
theorem compRest_inv {elt : Expr} {x : Str} {scope : Scope} {cl : List (Str × Addr)} {S : List (Addr × Obj) → Prop} {P : Nat → Value → Prop} {Fin : List Value → List (Addr × Obj) → Prop} {n : Nat} (J : Nat → List Value → List (Addr × Obj) → Prop) (hS : ∀ i ys nx, J i ys nx → S nx)
    (turn : ∀ i v I oI C oC D ys nx m₂ h tk (E' : Value → Shared → Prop), i < n → P i v → J i ys nx → LCg.NsObj oC m₂ → m₂ x = some v → Fr h₀ L h m → News h₀ L h ((I, oI) :: (C, oC) :: (D, LCg.lst ys) :: nx) → LCg.Off3 I C D nx → ((@Ne Nat I C) ∧ (@Ne Nat I D) ∧ (@Ne Nat C D)) →
      wpAny (model prog w) A (eval elt (compEnvC scope cl C env)) (fun y s₂ => ∃ h' tk' nx', s₂ = { s with heap := h', toks := tk' } ∧ Fr h₀ L h' m ∧ News h₀ L h' ((I, oI) :: (C, oC) :: (D, LCg.lst ys) :: nx') ∧ LCg.Off3 I C D nx' ∧ J (i + 1) (ys ++ [y]) nx') E' { s with heap := h, toks := tk })
    (fin : ∀ ys nx, J n ys nx → Fin ys nx) :
    ∀ (k i : Nat) (ys : List Value) (nx : List (Addr × Obj)), i + k = n → J i ys nx → LCg.CompRest prog w A h₀ L m env elt x scope cl s S P Fin k i ys nx := by
  intro k
  induction k with
  | zero =>
    intro i ys nx hi hJ
    have : i = n := by omega
    subst this
    exact fin ys nx hJ
  | succ k ih =>
    intro i ys nx hi hJ v I oI C oC D m₂ h tk E' hP hNs hx F N off hne
    refine wpAny_mono (turn i v I oI C oC D ys nx m₂ h tk E' (by omega) hP hJ hNs hx F N off hne) (fun y s₂ q => ?_) fun _ _ e => e
    obtain ⟨h', tk', nx', rfl, F', N', off', hJ'⟩ := q
    exact ⟨h', tk', nx', rfl, F', N', off', hS _ _ _ hJ', ih (i + 1) (ys ++ [y]) nx' (by omega) hJ'⟩
end
section
variable {prog : Program} {w : World} {A : Around} {E : Value → Shared → Prop} {s : Shared} {env : Env} {h₀ : Heap} {target : Expr} {body : List Stmt} {Q : Flow → Shared → Prop}
theorem unr_items {vs : List Value} {fp : List Addr} {s₀ : Shared} (J : Nat → (Str → Option Value) → List (Addr × Obj) → Prop)
    (turn : ∀ i v m₁ news₁ h tk own, vs[i]? = some v → J i m₁ news₁ → (∀ p ∈ own, p.1 ∈ fp) → Fr h₀ env.locals h m₁ → News h₀ env.locals h (own ++ news₁) →
      wpAny (model prog w) A (assign target env v) (fun _ s₂ => wpAny (model prog w) A (execs body env) (TurnPost h₀ env.locals own news₁ (J (i + 1)) { s₀ with heap := h, toks := tk } Q) E s₂) E { s₀ with heap := h, toks := tk })
    (done : ∀ m₁ news₁ h tk, J vs.length m₁ news₁ → Fr h₀ env.locals h m₁ → News h₀ env.locals h news₁ → Q .next { s₀ with heap := h, toks := tk }) :
    ∀ (j i : Nat) (m₁ : Str → Option Value) (news₁ : List (Addr × Obj)), i + j = vs.length → J i m₁ news₁ →
      Unr prog w A E h₀ env target body Q (fun i v => vs.toArray[i]? = some v) fp s₀ j i m₁ news₁ := by
  intro j
  induction j with
  | zero =>
    intro i m₁ news₁ hi hJ h' tk F N
    rw [Nat.add_zero] at hi
    subst hi
    exact done m₁ news₁ h' tk hJ F N
  | succ j ih =>
    intro i m₁ news₁ hi hJ x h₁ tk₁ own hP hown F N
    have hx : vs[i]? = some x := by simpa using hP
    refine wpAny_mono (turn i x m₁ news₁ h₁ tk₁ own hx hJ hown F N) (fun _ s₂ q => wpAny_mono q (fun f s₃ q => ?_) fun _ _ e => e) fun _ _ e => e
    cases f with
    | ret v => exact q
    | brk => exact q
    | cont =>
      obtain ⟨e0, h', tk', m₂, n₂, e, F', N', ha, hJ'⟩ := q
      exact ⟨e0, h', tk', m₂, n₂, e, F', N', ha, ih (i + 1) m₂ n₂ (by omega) hJ'⟩
    | next =>
      obtain ⟨e0, h', tk', m₂, n₂, e, F', N', ha, hJ'⟩ := q
      exact ⟨e0, h', tk', m₂, n₂, e, F', N', ha, ih (i + 1) m₂ n₂ (by omega) hJ'⟩
/-- a loop over a list of the ledger, whatever its items; behind `For_unr` -/
theorem items_iter {vs : List Value} {l : Addr} {nn : Nat} {m : Str → Option Value} {news : List (Addr × Obj)} (J : Nat → (Str → Option Value) → List (Addr × Obj) → Prop)
    (hh : A.handled = none) (F : Fr h₀ env.locals s.heap m) (N : News h₀ env.locals s.heap news) (hl : (l, listOf vs.toArray nn) ∈ news) (h0 : J 0 m news)
    (turn : ∀ i v m₁ news₁ h tk own, vs[i]? = some v → J i m₁ news₁ → (∀ p ∈ own, p.1 ∈ [s.heap.objs.size, l]) → Fr h₀ env.locals h m₁ → News h₀ env.locals h (own ++ news₁) →
      wpAny (model prog w) A (assign target env v) (fun _ s₂ => wpAny (model prog w) A (execs body env) (TurnPost h₀ env.locals own news₁ (J (i + 1)) { s with heap := h, toks := tk } Q) E s₂) E { s with heap := h, toks := tk })
    (done : ∀ m₁ news₁ h tk, J vs.length m₁ news₁ → Fr h₀ env.locals h m₁ → News h₀ env.locals h news₁ → Q .next { s with heap := h, toks := tk }) :
    wpAny (model prog w) A (pyIter (.ref l)) (fun it s₂ => UnrAt prog w A h₀ env target body Q E it s₂) E s := by
  refine Iter_list_unr hh (News.isList N hl) F N (News.ne N hl) ?_
  have e : vs.toArray.size = vs.length := by simp
  rw [e]
  exact unr_items (s₀ := { s with heap := s.heap.push { cls := .type "list_iterator", data := .fields #[.ref l, .int 0 0] } }) J turn done vs.length 0 m news (by omega) h0
end
section
variable {prog : Program} {w : World} {A : Around} {E : Value → Shared → Prop} {s : Shared} {h₀ : Heap} {L : Addr} {m : Str → Option Value} {news : List (Addr × Obj)}
/-- `list(x)` of a list in the ledger -/
theorem list_of {Q : Value → Shared → Prop} {b : Addr} {vs : List Value} {n : Nat} (F : Fr h₀ L s.heap m) (N : News h₀ L s.heap news) (hb : (b, listOf vs.toArray n) ∈ news) (hz : vs.length ≤ 1000000)
    (h : ∀ D c h', Fr h₀ L h' m → News h₀ L h' ((D, listOf vs.toArray c) :: news) → (∀ q ∈ news, q.1 < D) → Q (.ref D) { s with heap := h' }) : wpAny (model prog w) A (call (.type "list") [.ref b]) Q E s :=
  kup_listOf F N hb rfl h (by rw [sizeLine_eq]; show vs.length ≤ _; omega)
end
end Sq
namespace Sq
theorem ints_at {vs : List Value} {ns : List Int} (hi : IntsAre vs ns) {i : Nat} {v : Value} (hv : vs[i]? = some v) : ∃ x t, v = .int x t ∧ ns[i]? = some x := by
  have hk : i < vs.length := (List.getElem?_eq_some_iff.mp hv).1
  have hk' : i < ns.length := by rw [← hi.length]; exact hk
  obtain ⟨t, hx⟩ := hi.get i (ns[i]'hk') (List.getElem?_eq_getElem hk')
  rw [hv] at hx
  exact ⟨_, t, Option.some.inj hx, List.getElem?_eq_getElem hk'⟩
theorem ints_set {vs : List Value} {ns : List Int} (h : IntsAre vs ns) (i : Nat) (x : Int) (t : Tok) : IntsAre (vs.set i (.int x t)) (ns.set i x) := by
  induction h generalizing i with
  | nil => exact .nil
  | cons n u _ ih =>
    cases i with
    | zero => exact .cons x t (by assumption)
    | succ i => exact .cons n u (ih i)
theorem ints_app {vs ws : List Value} {ns ms : List Int} (h : IntsAre vs ns) (k : IntsAre ws ms) : IntsAre (vs ++ ws) (ns ++ ms) := by
  induction h with
  | nil => exact k
  | cons n t _ ih => exact .cons n t ih
theorem ints_of_get {ys : List Value} {f : Nat → Int} {n : Nat} (hl : ys.length = n) (hG : ∀ (i : Nat) (y : Value), ys[i]? = some y → ∃ t, y = .int (f i) t) : IntsAre ys ((List.range n).map f) := by
  induction n generalizing ys f with
  | zero =>
    have : ys = [] := List.eq_nil_of_length_eq_zero hl
    subst this
    exact .nil
  | succ n ih =>
    cases ys with
    | nil => simp at hl
    | cons y r =>
      obtain ⟨t, rfl⟩ := hG 0 y rfl
      rw [List.range_succ_eq_map, List.map_cons, List.map_map]
      refine .cons _ _ (ih (by simpa using hl) fun i z hz => hG (i + 1) z (by simpa using hz))
/-- a list whose items are ints of a kind -/
theorem ints_all {P : Int → Prop} : ∀ (ys : List Value), (∀ (i : Nat) (y : Value), ys[i]? = some y → ∃ x t, y = .int x t ∧ P x) → ∃ ns, IntsAre ys ns ∧ (∀ x ∈ ns, P x) ∧ ns.length = ys.length
  | [], _ => ⟨[], .nil, ⟨(fun _ h => nomatch h), rfl⟩⟩
  | y :: r, h => by
    obtain ⟨x, t, rfl, hx⟩ := h 0 y rfl
    obtain ⟨ns, h1, h2, h3⟩ := ints_all r fun i z hz => h (i + 1) z (by simpa using hz)
    refine ⟨x :: ns, .cons x t h1, fun z hz => ?_, by simp [h3]⟩
    rcases List.mem_cons.mp hz with rfl | hz
    · exact hx
    · exact h2 z hz
end Sq
namespace Sq
theorem news_two {h₀ h : Heap} {L : Addr} {led news : List (Addr × Obj)} {q : Addr × Obj} (N : News h₀ L h led) (hq : q ∈ led) (hs : ∀ p ∈ news, p ∈ led) : News h₀ L h (q :: news) := fun p hp => by
  rcases List.mem_cons.mp hp with rfl | hp
  · exact N _ hq
  · exact N _ (hs p hp)
end Sq
end
-- SqH
section
open PySem PySem.W PyProof.Rows PySem.Calls PySem.Spec PySem.SeqAt
namespace Sq
theorem setL_some : ∀ (l : List Value) (k : Nat) (v : Value), k < l.length → ki_setL l k v = some (l.set k v)
  | [], _, _, h => absurd h (by simp)
  | _ :: _, 0, _, _ => rfl
  | x :: r, k + 1, v, h => by
    have := setL_some r k v (by simpa using h)
    simp only [ki_setL, this]
    rfl
def headD (ls : List Int) (x y z : Int) : PyData := .tuple [.list (ls.map PyData.int), .int x, .int y, .int z]
theorem headD_shaped (ls : List Int) (x y z : Int) : shaped (headD ls x y z) = true := by
  have h1 := W.depthAll_ints ls
  have h2 : PyData.depth (headD ls x y z) ≤ 64 := by simp only [headD, PyData.depth, PyData.depthAll]; omega
  show (PyData.canLay0 (headD ls x y z) && decide (PyData.depth (headD ls x y z) ≤ 64)) = true
  rw [Bool.and_eq_true]
  exact ⟨by simp only [headD, PyData.canLay0, PyData.canLayAll0, W.canLayAll0_ints ls, Bool.and_true], decide_eq_true h2⟩
section
variable {prog : Program} {w : World} {A : Around} {E : Value → Shared → Prop} {s : Shared} {h₀ : Heap} {L : Addr} {m : Str → Option Value} {news : List (Addr × Obj)}
theorem sq_set {Q : Unit → Shared → Prop} {D : Addr} {vs : List Value} {c : Nat} {news' : List (Addr × Obj)} {k : Int} {u : Tok} {v : Value} (F : Fr h₀ L s.heap m) (N : News h₀ L s.heap news) (U : Upd D (listOf vs.toArray c) (listOf (vs.set k.toNat v).toArray c) news news') (h0 : 0 ≤ k) (h1 : k < vs.length) (hf : (vs.length : Int) < 2 ^ 62)
    (h : ∀ h', Fr h₀ L h' m → News h₀ L h' news' → Q () { s with heap := h' }) : wpAny (model prog w) A (setItem (.ref D) (.int k u) v) Q E s :=
  ki_set F N h0 (by omega) (setL_some vs k.toNat v (by omega)) U h
abbrev tupH (H : Addr) (x y z : Int) (t0 t1 t2 : Tok) (n : Nat) : Obj := { cls := .type "tuple", data := .seq #[.ref H, .int x t0, .int y t1, .int z t2] n }
theorem ne_head {Q : Value → Shared → Prop} {a b H H' : Addr} {hv hv' : List Value} {n n' c c' : Nat} {ls ls' : List Int} {x y z x' y' z' : Int} {t0 t1 t2 u0 u1 u2 : Tok} (N : News h₀ L s.heap news)
    (ha : (a, tupH H x y z t0 t1 t2 n) ∈ news) (hH : (H, listOf hv.toArray c) ∈ news) (hi : IntsAre hv ls) (hb : (b, tupH H' x' y' z' u0 u1 u2 n') ∈ news) (hH' : (H', listOf hv'.toArray c') ∈ news) (hi' : IntsAre hv' ls') (e : ls = ls' ∧ x = x' ∧ y = y' ∧ z = z')
    (hu : A.units + 64 < cLine) (h : Q (.bool false) s) : wpAny (model prog w) A (compareOp .NotEq (.ref a) (.ref b)) Q E s := by
  obtain ⟨rfl, rfl, rfl, rfl⟩ := e
  have r1 : Reads s.heap (.ref a) (headD ls x y z) [H] := Reads.tuple (N.get ha) rfl rfl (.cons (Reads.list (N.get hH) rfl rfl (by simpa using readsAll_of_ints hi)) (.cons (.int _ _) (.cons (.int _ _) (.cons (.int _ _) .nil))))
  have r2 : Reads s.heap (.ref b) (headD ls x y z) [H'] := Reads.tuple (N.get hb) rfl rfl (.cons (Reads.list (N.get hH') rfl rfl (by simpa using readsAll_of_ints hi')) (.cons (.int _ _) (.cons (.int _ _) (.cons (.int _ _) .nil))))
  exact ne_dataH_same r1 r2 (headD_shaped ls x y z) (headD_shaped ls x y z) hu (by simp only [headD, noMix, noMixAll, noMix_ints ls ls, Bool.and_true]) (by
    have e : PySem.Spec.same (headD ls x y z) (headD ls x y z) = true := by simp [headD, PySem.Spec.same, PySem.Spec.sameAll, same_ints]
    rw [e]; exact h)
end
def isB (ds : List Int) : Bool := ds.all fun x => decide (0 ≤ x) && decide (x ≤ 255)
theorem isB_true {ds : List Int} (h : ∀ x ∈ ds, Byt x) : isB ds = true := by
  simp only [isB, List.all_eq_true, Bool.and_eq_true, decide_eq_true_eq]
  exact h
theorem isB_false {ds : List Int} {i : Nat} {x : Int} (h : ds[i]? = some x) (hx : x < 0 ∨ x > 255) : isB ds = false := by
  cases q : isB ds with
  | false => rfl
  | true =>
    simp only [isB, List.all_eq_true, Bool.and_eq_true, decide_eq_true_eq] at q
    have := q x (List.mem_of_getElem? h)
    omega
theorem isB_next {ds : List Int} {i : Nat} {x : Int} (hJ : ∀ y ∈ ds.take i, Byt y) (h : ds[i]? = some x) (h1 : 0 ≤ x) (h2 : x ≤ 255) : ∀ y ∈ ds.take (i + 1), Byt y := by
  intro y hy
  rw [List.take_add_one, h] at hy
  simp only [Option.toList_some, List.mem_append, List.mem_singleton] at hy
  rcases hy with hy | rfl
  · exact hJ y hy
  · exact ⟨h1, h2⟩
theorem fold_next {ds : List Int} {i : Nat} {x : Int} (h : ds[i]? = some x) : (ds.take (i + 1)).foldl adf (1, 0) = adf ((ds.take i).foldl adf (1, 0)) x := by
  rw [List.take_add_one, h]
  simp
end Sq
namespace Sq
section
variable {prog : Program} {w : World} {A : Around} {E : Value → Shared → Prop} {s : Shared} {h₀ : Heap} {L : Addr} {m : Str → Option Value} {news : List (Addr × Obj)}
theorem slice_run {Q : Value → Shared → Prop} {value slice : Expr} {l : Addr} {vs : List Value} {ns ms : List Int} {n : Nat} {x y : Int} {t u : Tok} (F : Fr h₀ L s.heap m) (N : News h₀ L s.heap news) (hm : (l, listOf vs.toArray n) ∈ news) (hi : IntsAre vs ns) (h0 : 0 ≤ x) (h1 : x ≤ y) (h2 : y ≤ ns.length)
    (e : (ns.drop x.toNat).take (y.toNat - x.toNat) = ms) (hz : ns.length ≤ 1000000)
    (h : ∀ D ws h', Fr h₀ L h' m → News h₀ L h' ((D, listOf (List.toArray ws) 0) :: news) → (∀ p ∈ news, p.1 < D) → IntsAre ws ms → Q (.ref D) { s with heap := h' })
    (hs : subscripted slice false (.ref l) (.ref s.heap.objs.size) = operate [.ref s.heap.objs.size, .ref l] (getItem (.ref l) (.ref s.heap.objs.size))) (ht : ∀ r, letTemporaryGo value (.ref l) r = pure ()) :
    wpAny (model prog w) A (subscriptTail value slice (.ref l) (.ref s.heap.objs.size)) Q E { s with heap := s.heap.push { cls := .type "slice", data := .fields #[.int x t, .int y u, .none] } } := by
  have q := kmk_run hi h0 (show 0 ≤ y by omega)
  rw [show min y.toNat ns.length - x.toNat = y.toNat - x.toNat by omega, e] at q
  exact kmk_slice_ints F N (News.isList N hm) (.int x t) (.int y u) hi q rfl (fun D ws h' F' N' l1 hI _ _ => h D ws h' F' N' l1 hI) hs ht (by rw [List.size_toArray, hi.length, sizeLine_eq]; omega)
theorem max_le {Q : Value → Shared → Prop} {l : Addr} {vs : List Value} {ns : List Int} {n : Nat} {b : Int} (hh : A.handled = none) (F : Fr h₀ L s.heap m) (N : News h₀ L s.heap news) (hm : (l, listOf vs.toArray n) ∈ news) (hi : IntsAre vs ns) (hne : 0 < ns.length) (hb : ∀ x ∈ ns, x ≤ b)
    (h : ∀ h' M (t : Tok) tk, Fr h₀ L h' m → News h₀ L h' news → M ≤ b → Q (.int M t) { s with heap := h', toks := tk }) : wpAny (model prog w) A (call (.builtin "max") [.ref l]) Q E s :=
  kso_max F N (News.isList N hm) hi hne hh fun h' M t tk F' N' hM _ => h h' M t tk F' N' (hb M hM)
theorem max_gt {Q : Value → Shared → Prop} {l : Addr} {vs : List Value} {ns : List Int} {n : Nat} {b : Int} (hh : A.handled = none) (F : Fr h₀ L s.heap m) (N : News h₀ L s.heap news) (hm : (l, listOf vs.toArray n) ∈ news) (hi : IntsAre vs ns) (hb : ∃ x ∈ ns, b < x)
    (h : ∀ h' M (t : Tok) tk, Fr h₀ L h' m → News h₀ L h' news → b < M → Q (.int M t) { s with heap := h', toks := tk }) : wpAny (model prog w) A (call (.builtin "max") [.ref l]) Q E s := by
  obtain ⟨x, hx, hbx⟩ := hb
  exact kso_max F N (News.isList N hm) hi (List.length_pos_of_mem hx) hh fun h' M t tk F' N' _ hM => h h' M t tk F' N' (by have := hM x hx; omega)
theorem ne_ints_ne {Q : Value → Shared → Prop} {a b : Addr} {vs ws : List Value} {n n' : Nat} {ns ms : List Int} (N : News h₀ L s.heap news) (ha : (a, listOf vs.toArray n) ∈ news) (hb : (b, listOf ws.toArray n') ∈ news) (hi : IntsAre vs ns) (hj : IntsAre ws ms) (e : ns ≠ ms)
    (hu : A.units + 64 < cLine) (h : Q (.bool true) s) : wpAny (model prog w) A (compareOp .NotEq (.ref a) (.ref b)) Q E s :=
  ne_intsK (News.isList N ha) hi (News.isList N hb) hj hu (by rw [decide_eq_false e]; exact h)
end
end Sq
namespace Sq
theorem rep_bytes {n : Nat} {ds : List Int} (h : ∀ x ∈ ds, Byt x) : ∀ x ∈ List.replicate n 255 ++ ds, Byt x := by
  intro x hx
  rcases List.mem_append.mp hx with hx | hx
  · rw [List.eq_of_mem_replicate hx]; exact ⟨by decide, by decide⟩
  · exact h x hx
theorem set_all {P : Int → Prop} {ls : List Int} (h : ∀ x ∈ ls, P x) (i : Nat) {y : Int} (hy : P y) : ∀ x ∈ ls.set i y, P x := by
  intro x hx
  rcases List.mem_or_eq_of_mem_set hx with hx | rfl
  · exact h x hx
  · exact hy
end Sq
end
-- SqTry
section
namespace Sq
open PySem PySem.W PySem.Spec PySem.Calls PyProof.Rows

section
variable {prog : Program} {w : World} {A₀ A : Around} {s : Shared} {base h₀ : Heap} {env : Env} {L : Addr} {m : Str → Option Value} {news : List (Addr × Obj)} {K : Frag} {p : Program} {loose : List Str} {mean : ExcName → Option Value} {mg mb : Str → Option Value}
    {R : Result → Shared → Prop} {name qual : Str} {params : Arguments} {body : List Stmt} {scope : Scope} {dV kV doc pm cdv ct oc : Value} {an od : Option Addr} {osl : Array (Option Value)} {f : Addr} {args : Args} {binds : List (Str × Value)}

theorem try_enter (B : Below A₀ base [] h₀) (F : Fr h₀ L s.heap m) (X₀ : K.In h₀) (N : News h₀ L s.heap news) (T : Top p loose mean mg mb h₀) (hA : A.frames = some [env]) (hf : env.frame = some L) (hke : env.scope.kind = .function)
    (ho : K.lookup f = some ⟨oc, od, .func (fnOf name qual params body scope dV kV doc pm an cdv ct), osl⟩) (hcd : codeIn K cdv qual = true) (hroom : A.depth < recursionLimit)
    (hbind : BindsTo s (fnOf name qual params body scope dV kV doc pm an cdv ct) args binds) (hloc : ∀ y ∈ binds, scope.names.lookup y.1 = some .local)
    (h : ∀ g L' h₁, Fr h₀ L g m → Fr g L' h₁ (fun y => binds.reverse.lookup y) → News g L' h₁ news → Below A base [env] g → K.In g → Top p loose mean mg mb g → KtsDicts ([env].filterMap (·.frame)) g →
      wpAny (model prog w) (A.deeper (envOf qual scope L' f cdv)) (execs body (envOf qual scope L' f cdv))
        (fun fl s' => LeaveS0 ([env].filterMap (·.frame)) h₀ L m g R (match fl with | .ret v => v | _ => .none) s')
        (fun e s' => wpAny (model prog w) (A.deeper (envOf qual scope L' f cdv)) (leaving (envOf qual scope L' f cdv) e) (fun _ s'' => R (.error e) s'') (fun e' s'' => R (.error e') s'') s')
        { s with heap := h₁, toks := s.toks + binds.length })
    (hco : scope.isCoroutine = false) (hgen : scope.isGenerator = false) (hk : scope.kind = .function)
    (hcell : ∀ x ∈ scope.names, x.2 ≠ .cell) : codeAny (model prog w) A (.call (.ref f) args) R s := by
  have X := X₀.keeps F.keep
  refine codeAny_call_def (fd := fnOf name qual params body scope dV kV doc pm an cdv ct) (body := body) (binds := binds) hroom (X _ _ ho) rfl (T.nolimit.keeps F.keep) (codeRec_of X hcd) rfl hbind hcell hloc (fun h₁ hns hk₁ => ?_) hco hgen hk
  obtain ⟨FG, BG, st, _⟩ := groundX (R := R) B F N hA hf hke
  have fe : [env].filterMap (·.frame) = [L] := by simp [hf]
  obtain ⟨oL, es, ep, hLg, hLd, hLk, hLf⟩ := FG.ns
  refine wpAny_mono (h _ s.heap.objs.size h₁ FG ⟨hns, fun b o e => hk₁ b o (of_hideAll _ e), Nat.le_of_eq (hideAll_size _ _)⟩
    (fun p hp => ⟨hk₁ _ _ (N p hp).1, Nat.ne_of_lt (Heap.lt_size (N p hp).1), hideAll_none _ (List.mem_map_of_mem hp)⟩) BG (X₀.keeps st) (T.keeps st) (fun b hb => by
      rw [fe] at hb
      cases List.mem_singleton.mp hb
      exact ⟨oL, es, ep, hLg, hLd⟩)) (fun fl s' hl => ?_) fun _ _ y => y
  obtain ⟨g', L', m', news', T', F', N', k⟩ := hl
  have nL₀ : h₀.get? L = none := kts_self F
  obtain ⟨sl, hs⟩ := T'.up hLg
  refine k ⟨⟨_, es, ep, F'.keep _ _ hs, hLd, hLk, hLf⟩, fun b o e => F'.keep b o (T'.other b o (st b o e) (fun q => by
    rw [fe] at q
    rw [List.mem_singleton.mp q, nL₀] at e
    cases e)), F.above⟩ fun p hp => ⟨(N' p hp).1, fun q => ?_, ?_⟩
  · have := (N' p hp).2.2; rw [q, hs] at this; cases this
  · cases q : h₀.get? p.1 with
    | none => rfl
    | some o =>
      obtain ⟨sl', hs'⟩ := T'.up (st _ _ q)
      have := (N' p hp).2.2
      rw [hs'] at this
      cases this
end
end Sq
end
-- H104
section
open PySem PySem.W PyProof.Rows
namespace S104
open_top hd for PySem.Challenge.rw_pd_squeeze_1_04
end S104
end
-- C104a
section
open PySem PySem.W PyProof.Rows PySem.Calls PySem.Spec Sq
namespace S104
section
variable {prog : Program} {w : World} {p : Program} {loose : List Str} {mean : ExcName → Option Value} {mg mb : Str → Option Value} {dp un : Nat} {gd : Option (List Code)} {cn : Str} {cs : Scope} {a : Addr} {ccd : Value} {cl : List (Str × Addr)} {outer : List Env} {A₀ : Around} {base h₀ : Heap} {L : Addr} {m : Str → Option Value} {news : List (Addr × Obj)} {s : Shared} {Q E : Value → Shared → Prop}
theorem cellT : CellTells prog w (hd.heap_39 w.params) p loose mean mg mb 76 0 := by
  w_top on
  cell_step
theorem byte_call {x : Int} {t1 : Tok}
    (B : Below A₀ base outer h₀) (F : Fr h₀ L s.heap m) (X : (hd.heap_39 w.params).In h₀) (N : News h₀ L s.heap news) (T : Top p loose mean mg mb h₀) (hk : cs.kind = .function)
    (hd : dp + 2 < recursionLimit)
    (hret : ∀ r t h' tk', 0 ≤ r → r ≤ 255 → Fr h₀ L h' m → News h₀ L h' news → Q (.int r t) { s with heap := h', toks := tk' }) :
    wpAny (model prog w) (ktrTop dp un gd cn cs L a ccd cl outer) (call (.ref 83) [.int x t1]) Q E s := by
  w_top on
  refine wpAny_call ?_
  k_dflt cell_enter
  k_steps
  all_goals (rename News _ _ _ _ => Nq; rename Fr _ _ _ _ => Fq)
  all_goals first
    | exact hret _ _ _ _ (by decide) (by decide) Fq Nq
    | exact hret _ _ _ _ (fm0 _ (by decide)) (Int.le_of_lt_add_one (fm1 _ (by decide))) Fq Nq
theorem four_call {x : Int} {t1 : Tok}
    (B : Below A₀ base outer h₀) (F : Fr h₀ L s.heap m) (X : (hd.heap_39 w.params).In h₀) (N : News h₀ L s.heap news) (T : Top p loose mean mg mb h₀) (hk : cs.kind = .function)
    (hd : dp + 2 < recursionLimit)
    (hret : ∀ D us c h' tk', Fr h₀ L h' m → News h₀ L h' ((D, listOf (List.toArray us) c) :: news) → (∀ p ∈ news, p.1 < D) → IntsAre us (four x) → us.length = 4 → Q (.ref D) { s with heap := h', toks := tk' }) :
    wpAny (model prog w) (ktrTop dp un gd cn cs L a ccd cl outer) (call (.ref 41) [.int x t1]) Q E s := by
  w_top on
  refine wpAny_call ?_
  k_dflt cell_enter
  k_steps
  rename News _ _ _ _ => Nq
  rename Fr _ _ _ _ => Fq
  exact hret _ _ _ _ _ Fq Nq (by first | assumption | exact allLt_mem (by assumption)) (show IntsAre _ [_, _, _, _] from .cons _ _ (.cons _ _ (.cons _ _ (.cons _ _ .nil)))) rfl
end
local macro_rules | `(tactic| walk_at "subscriptTail Name Constant ref int") => `(tactic| ((with_reducible show wpAny _ _ (subscriptTail _ _ (Value.ref _) (Value.int _ _)) _ _ _); (with_unfolding_all refine' item_ints ?k1 ?k2 ?k3 ?k4 ?k5 ?k6 ?_ ?k7; (case k1 => k_asm); (case k2 => first | assumption | k_mem); (case k3 => assumption); (case k4 => decide); (case k5 => decide); (case k6 => decide); (case k7 => with_unfolding_all rfl)); intro t9; (try dsimp only)))
section
variable {prog : Program} {w : World} {p : Program} {loose : List Str} {mean : ExcName → Option Value} {mg mb : Str → Option Value} {dp un : Nat} {gd : Option (List Code)} {cn : Str} {cs : Scope} {a : Addr} {ccd : Value} {cl : List (Str × Addr)} {outer : List Env} {A₀ : Around} {base h₀ : Heap} {L : Addr} {m : Str → Option Value} {news : List (Addr × Obj)} {s : Shared} {Q E : Value → Shared → Prop}
theorem from_call {l : Addr} {vs : List Value} {n : Nat} {b0 b1 b2 b3 : Int}
    (B : Below A₀ base outer h₀) (F : Fr h₀ L s.heap m) (X : (hd.heap_39 w.params).In h₀) (N : News h₀ L s.heap news) (T : Top p loose mean mg mb h₀) (hk : cs.kind = .function)
    (hl : (l, listOf vs.toArray n) ∈ news) (hI : IntsAre vs [b0, b1, b2, b3]) (hd : dp + 2 < recursionLimit)
    (hret : ∀ t h' tk', Fr h₀ L h' m → News h₀ L h' news → Q (.int (b0 * 16777216 + b1 * 65536 + b2 * 256 + b3) t) { s with heap := h', toks := tk' }) :
    wpAny (model prog w) (ktrTop dp un gd cn cs L a ccd cl outer) (call (.ref 48) [.ref l]) Q E s := by
  w_top on
  refine wpAny_call ?_
  k_dflt cell_enter
  k_steps
  rename News _ _ _ _ => Nq
  rename Fr _ _ _ _ => Fq
  exact hret _ _ _ Fq Nq
theorem is_bytes_call {l : Addr} {vs : List Value} {ds : List Int} {n : Nat}
    (B : Below A₀ base outer h₀) (F : Fr h₀ L s.heap m) (X : (hd.heap_39 w.params).In h₀) (N : News h₀ L s.heap news) (T : Top p loose mean mg mb h₀) (hk : cs.kind = .function)
    (hl : (l, listOf vs.toArray n) ∈ news) (hI : IntsAre vs ds) {b : Bool} (hb : isB ds = b) (hd : dp + 2 < recursionLimit)
    (hret : ∀ h' tk', Fr h₀ L h' m → News h₀ L h' news → Q (.bool b) { s with heap := h', toks := tk' }) :
    wpAny (model prog w) (ktrTop dp un gd cn cs L a ccd cl outer) (call (.ref 34) [.ref l]) Q E s := by
  w_top on
  refine wpAny_call ?_
  k_dflt cell_enter
  rename_i g' L' h1 FG' F' N' B' X' T'
  repeat ((fail_if_success (with_reducible show wpAny _ _ (exec (Stmt.For _ _ _ _ _) _) _ _ _)); walk1)
  refine For_unr g' ?_ (hE := by passes_own)
  refine ld F' rfl ?_
  refine' items_iter (vs := vs) (l := l) (nn := n) (J := fun i m₁ n₁ => n₁ = news ∧ ∀ x ∈ ds.take i, Byt x) ?h1 F' N' hl ?h2 ?turn ?done
  case h1 => rfl
  case h2 => exact ⟨rfl, fun _ h => nomatch h⟩
  case turn =>
    rintro i v m₁ news₁ h tk' own hv ⟨rfl, hJ⟩ hown F₁ N₁
    obtain ⟨x, t, rfl, hx⟩ := ints_at hI hv
    k_steps
    all_goals first
      | exact fin_bool hret (hb.symm.trans (isB_false hx (by omega))) (by assumption) (by assumption) (fun _ hp => List.mem_append_right _ hp)
      | exact isB_next hJ hx (by omega) (by omega)
      | exact isB_next hJ hx (by omega) (by omega) _ (by assumption)
  case done =>
    rintro m₁ news₁ h tk' ⟨rfl, hJ⟩ F₁ N₁
    dsimp only
    k_steps
    refine fin_bool hret (hb.symm.trans (isB_true ?_)) (by assumption) (by assumption) (fun _ hp => hp)
    rw [hI.length, List.take_length] at hJ
    exact hJ
theorem checksum_call {l : Addr} {vs : List Value} {ds : List Int} {n : Nat}
    (B : Below A₀ base outer h₀) (F : Fr h₀ L s.heap m) (X : (hd.heap_39 w.params).In h₀) (N : News h₀ L s.heap news) (T : Top p loose mean mg mb h₀) (hk : cs.kind = .function)
    (hl : (l, listOf vs.toArray n) ∈ news) (hI : IntsAre vs ds) {y : Int} (hy : adB ds * 65536 + adA ds = y) (hd : dp + 2 < recursionLimit)
    (hret : ∀ t h' tk', Fr h₀ L h' m → News h₀ L h' news → Q (.int y t) { s with heap := h', toks := tk' }) :
    wpAny (model prog w) (ktrTop dp un gd cn cs L a ccd cl outer) (call (.ref 55) [.ref l]) Q E s := by
  w_top on
  refine wpAny_call ?_
  k_dflt cell_enter
  repeat ((fail_if_success (with_reducible show wpAny _ _ (exec (Stmt.For _ _ _ _ _) _) _ _ _)); walk1)
  rename_i g' L' h1 FG' B' X' T' h2 h3 F' N'
  refine For_unr g' ?_ (hE := by passes_own)
  refine ld F' rfl ?_
  refine' items_iter (vs := vs) (l := l) (nn := n) (J := fun i m₁ n₁ => n₁ = news ∧ ∃ p t u, (ds.take i).foldl adf (1, 0) = p ∧ m₁ (Str.ofString "a") = some (.int p.1 t) ∧ m₁ (Str.ofString "b") = some (.int p.2 u)) ?h1 F' N' hl ?h2 ?turn ?done
  case h1 => rfl
  case h2 => exact ⟨rfl, (1, 0), _, _, rfl, rfl, rfl⟩
  case turn =>
    rintro i v m₁ news₁ h tk' own hv ⟨rfl, ⟨pa, pb⟩, t, u, hp, hm1, hm2⟩ hown F₁ N₁
    obtain ⟨x, t', rfl, hx⟩ := ints_at hI hv
    dsimp only at hm1 hm2
    rw [map_at hm1, map_at (m := m₁) hm2] at F₁
    have hq := fold_next hx
    rw [hp] at hq
    clear hm1 hm2
    k_steps
    all_goals first
      | exact hq
      | exact LoopStep2.intro (by assumption) (by assumption) rfl ⟨rfl, _, _, _, hq, rfl, rfl⟩
  case done =>
    rintro m₁ news₁ h tk' ⟨rfl, ⟨pa, pb⟩, t, u, hp, hm1, hm2⟩ F₁ N₁
    dsimp only at hm1 hm2 ⊢
    rw [map_at hm1, map_at (m := m₁) hm2] at F₁
    rw [hI.length, List.take_length, adf_law] at hp
    cases hp
    subst hy
    k_steps
    rename News _ _ _ _ => Nq
    rename Fr _ _ _ _ => Fq
    exact hret _ _ _ Fq Nq
end
end S104
end
-- C104b
section
open PySem PySem.W PyProof.Rows PySem.Calls PySem.Spec Sq
namespace S104
local macro_rules | `(tactic| k_all) => `(tactic| assumption)
local macro_rules | `(tactic| k_mem) => `(tactic| assumption)
local macro_rules | `(tactic| walk_at "eval Call Name cons nil") => `(tactic| refine Call_ ?_)
local macro_rules | `(tactic| walk_at "call ref") => `(tactic| ((with_reducible show wpAny _ _ (call (Value.ref 76) _) _ _ _); k_dflt (refine' cellTells_use ?k1 ?k2 ?k3 ?k4 ?k5 ?k6 ?k7 ?k8 ?k9 ?k10 cellT ?k11 ?k12 ?_; (case k1 => k_asm); (case k2 => k_asm); (case k3 => k_asm); (case k4 => k_asm); (case k5 => k_asm); (case k6 => first | exact rfl | assumption); (case k7 => k_asm); (case k8 => k_asm); (case k9 => omega); (case k10 => omega); (case k11 => ktr_room); (case k12 => ktr_units)); intro t9 h9 tk9 F9 N9; (try dsimp only); (try k_sweep)))
local macro_rules | `(tactic| walk_at "binaryOp Mult ref int") => `(tactic| ((with_reducible show wpAny _ _ (binaryOp Operator.Mult (Value.ref _) (Value.int _ _)) _ _ _); k_dflt (refine' mul_rep ?k1 ?k2 ?k3 ?k4 ?k5 ?_; (case k1 => k_asm); (case k2 => k_asm); (case k3 => k_mem); (case k4 => omega); (case k5 => omega)); intro D' h' F' N' l1; (try k_lt l1); (try k_sweep)))
local macro_rules | `(tactic| walk_at "binaryOp Add ref ref") => `(tactic| ((with_reducible show wpAny _ _ (binaryOp Operator.Add (Value.ref _) (Value.ref _)) _ _ _); k_dflt (refine' add_any ?k1 ?k2 ?k3 ?k4 ?k5 ?_; (case k1 => k_asm); (case k2 => k_asm); (case k3 => k_mem); (case k4 => k_mem); (case k5 => first | omega | (simp only [List.length_append, List.length_replicate, List.length_cons, List.length_nil]; omega))); intro D' h' F' N' l1; (try k_lt l1); (try k_sweep)))
section
variable {prog : Program} {w : World} {p : Program} {loose : List Str} {mean : ExcName → Option Value} {mg mb : Str → Option Value} {dp un : Nat} {gd : Option (List Code)} {cn : Str} {cs : Scope} {a : Addr} {ccd : Value} {cl : List (Str × Addr)} {outer : List Env} {A₀ : Around} {base h₀ : Heap} {L : Addr} {m : Str → Option Value} {news : List (Addr × Obj)} {s : Shared} {Q E : Value → Shared → Prop}
theorem data_call {l : Addr} {vs : List Value} {ns : List Int}
    (B : Below A₀ base outer h₀) (F : Fr h₀ L s.heap m) (X : (hd.heap_39 w.params).In h₀) (N : News h₀ L s.heap news) (T : Top p loose mean mg mb h₀) (hk : cs.kind = .function)
    (hl : base.IsList l vs.toArray) (hi : IntsAre vs ns) (hfit : ns.length ≤ 63) (hd : dp + 5 < recursionLimit) (hu : un + 100 < cLine)
    (hret : ∀ D us ds c h' tk', Fr h₀ L h' m → News h₀ L h' ((D, listOf (List.toArray us) c) :: news) → (∀ p ∈ news, p.1 ≠ D) → IntsAre us ds → (∀ x ∈ ds, Byt x) → ds.length ≤ 281 → Q (.ref D) { s with heap := h', toks := tk' }) :
    wpAny (model prog w) (ktrTop dp un gd cn cs L a ccd cl outer) (call (.ref 88) [.ref l]) Q E s := by
  w_top on
  refine wpAny_call ?_
  k_dflt cell_enter
  rename_i g' L' hh FG' F0 N0 B' X' T'
  repeat ((fail_if_success (with_reducible show wpAny _ _ (exec (Stmt.Assign _ (Expr.ListComp _ _ _ _) _) _) _ _ _)); (first | walk1 | (k_unfold; (try dsimp only)) | (dsimp only; walk1)))
  refine' LCg.Assign_ListComp_U (F₀ := F0) ?b1 ?b2 ?b3 ?b4 ?b5 ?b6 ?b7 ?b8 ?b9 ?b10 ?b11
  case b1 => rfl
  case b2 => with_unfolding_all rfl
  case b3 => with_unfolding_all rfl
  case b4 => decide
  case b5 => rfl
  case b6 => decide
  case b7 => rfl
  case b8 => rfl
  case b9 => rfl
  case b11 => intro _; rfl
  repeat ((fail_if_success (with_reducible show LCg.CompSrc _ _ _ _ _ _ _ _ _ _ _ _ _ _)); walk1)
  rename IntsAre _ _ => iS
  rename News _ _ _ _ => Ng
  rename Fr _ _ _ _ => Fg
  have hsl := iS.length
  have hsl2 : (List.take (min 40 ns.length - 20) (List.drop 20 ns)).length ≤ 20 := by rw [List.length_take]; omega
  refine LCg.CompSrc.ledger rfl Fg Ng (.head _) (by rw [List.size_toArray, sizeLine_eq]; omega) ?_
  intro gg
  rw [List.size_toArray]
  refine compRest_of (fun i y => ∃ x t, y = .int x t ∧ Byt x) (.inr ⟨_, .head _, rfl, _, rfl⟩) ?ct ?cf _ 0 [] (Nat.zero_add _) rfl (fun j y hj => by simp at hj)
  case ct =>
    intro i v I oI C oC D ys m₂ h1 tk1 E' hi1 hP hNs hx F1 N1 off hne
    obtain ⟨x, t, rfl, _⟩ := ints_at iS (i := i) (v := v) (by simpa using hP)
    repeat ((fail_if_success (with_reducible show Exists _)); (first | walk1 | (dsimp only; walk1)))
    exact ⟨_, _, rfl, F1, N1, _, _, rfl, fm0 _ (by decide), Int.le_of_lt_add_one (fm1 _ (by decide))⟩
  case cf =>
    intro ys hyl hyG Dl h6 tk6 F6 N6 off1
    obtain ⟨ds, hds, hdb, hdl⟩ := ints_all (P := Byt) ys hyG
    have off2 := off1_mem off1
    have hyl2 : ys.length ≤ 20 := by omega
    have e0 := fm0 (cellAt ns 5 0) (n := 6) (by decide)
    have e1 := fm1 (cellAt ns 5 0) (n := 6) (by decide)
    have e2 := fm0 (cellAt ns 5 0) (n := 21) (by decide)
    have e3 := fm1 (cellAt ns 5 0) (n := 21) (by decide)
    clear iS Ng Fg
    dsimp only
    k_steps
    · rename _ < _ ∧ _ < _ ∧ _ < _ ∧ _ < _ ∧ AllLt _ _ => lq
      rename News _ _ _ _ => Nq
      rename Fr _ _ _ _ => Fq
      exact hret _ _ (List.replicate _ 255 ++ ds) _ _ _ Fq (news_two Nq (.head _) (fun p hp => .tail _ (.tail _ (.tail _ (.tail _ (.tail _ hp)))))) (fun p hp => Nat.ne_of_lt (allLt_mem lq.2.2.2.2 p hp)) (ints_app (ints_rep 255 _ _) hds) (rep_bytes hdb) (by rw [List.length_append, List.length_replicate]; omega)
    · rename _ < _ ∧ _ < _ ∧ _ < _ ∧ _ < _ ∧ AllLt _ _ => lq
      rename News _ _ _ _ => Nq
      rename Fr _ _ _ _ => Fq
      exact hret _ _ (List.replicate _ 255 ++ ds) _ _ _ Fq (news_two Nq (.head _) (fun p hp => .tail _ (.tail _ (.tail _ (.tail _ (.tail _ hp)))))) (fun p hp => Nat.ne_of_lt (allLt_mem lq.2.2.2.2 p hp)) (ints_app (ints_rep 255 _ _) hds) (rep_bytes hdb) (by rw [List.length_append, List.length_replicate]; omega)
    · rename News _ _ _ _ => Nq
      rename Fr _ _ _ _ => Fq
      exact hret Dl ys ds ys.length _ _ Fq (news_two Nq (.head _) (fun p hp => .tail _ (.tail _ hp))) (fun p hp => off2 p (.tail _ hp)) hds hdb (by omega)
end
end S104
end
-- C104c
section
open PySem PySem.W PyProof.Rows PySem.Calls PySem.Spec Sq
namespace S104
local macro_rules | `(tactic| k_all) => `(tactic| assumption)
local macro_rules | `(tactic| k_mem) => `(tactic| assumption)
local macro_rules | `(tactic| walk_at "eval Call Name cons nil") => `(tactic| refine Call_ ?_)
local macro_rules | `(tactic| walk_at "call ref") => `(tactic| ((with_reducible show wpAny _ _ (call (Value.ref 76) _) _ _ _); k_dflt (refine' cellTells_use ?k1 ?k2 ?k3 ?k4 ?k5 ?k6 ?k7 ?k8 ?k9 ?k10 cellT ?k11 ?k12 ?_; (case k1 => k_asm); (case k2 => k_asm); (case k3 => k_asm); (case k4 => k_asm); (case k5 => k_asm); (case k6 => first | exact rfl | assumption); (case k7 => k_asm); (case k8 => k_asm); (case k9 => omega); (case k10 => omega); (case k11 => ktr_room); (case k12 => ktr_units)); intro t9 h9 tk9 F9 N9; (try dsimp only); (try k_sweep)))
local macro_rules | `(tactic| walk_at "binaryOp Mult ref int") => `(tactic| ((with_reducible show wpAny _ _ (binaryOp Operator.Mult (Value.ref _) (Value.int _ _)) _ _ _); k_dflt (refine' mul_rep ?k1 ?k2 ?k3 ?k4 ?k5 ?_; (case k1 => k_asm); (case k2 => k_asm); (case k3 => k_mem); (case k4 => omega); (case k5 => omega)); intro D' h' F' N' l1; (try k_lt l1); (try k_sweep)))
local macro_rules | `(tactic| walk_at "call type:range") => `(tactic| ((with_reducible show wpAny _ _ (call (Value.type "range") [Value.int _ _]) _ _ _); k_dflt (refine' range_call ?k1 ?k2 ?_; (case k1 => k_asm); (case k2 => k_asm)); intro r9 h9 tk9 t9 u9 v9 F9 N9 R9; (try dsimp only); (try k_sweep)))
local macro_rules | `(tactic| walk_at "setItem ref int") => `(tactic| ((with_reducible show wpAny _ _ (setItem (Value.ref _) (Value.int _ _) _) _ _ _); k_dflt (refine' sq_set ?k1 ?k2 ?k3 ?k4 ?k5 ?k6 ?_; (case k1 => k_asm); (case k2 => k_asm); (case k3 => k_upd); (case k4 => omega); (case k5 => omega); (case k6 => omega)); intro h9 F9 N9; (try dsimp only); (try k_sweep)))
local macro_rules | `(tactic| walk_at "call builtin:len") => `(tactic| ((with_reducible show wpAny _ _ (call (Value.builtin "len") [Value.ref _]) _ _ _); k_dflt (refine' len_ints ?k1 ?k2 ?k3 ?k4 ?_; (case k1 => k_asm); (case k2 => first | assumption | k_mem); (case k3 => assumption); (case k4 => omega)); intro t9 tk9; (try dsimp only)))
section
variable {prog : Program} {w : World} {p : Program} {loose : List Str} {mean : ExcName → Option Value} {mg mb : Str → Option Value} {dp un : Nat} {gd : Option (List Code)} {cn : Str} {cs : Scope} {a : Addr} {ccd : Value} {cl : List (Str × Addr)} {outer : List Env} {A₀ : Around} {base h₀ : Heap} {L : Addr} {m : Str → Option Value} {news : List (Addr × Obj)} {s : Shared} {Q E : Value → Shared → Prop}
def JL (D l : Addr) (news : List (Addr × Obj)) (_ : Nat) (m₁ : Str → Option Value) (nx : List (Addr × Obj)) : Prop :=
  ∃ us ls c, nx = (D, listOf (List.toArray us) c) :: news ∧ m₁ (Str.ofString "lengths") = some (.ref D) ∧ m₁ (Str.ofString "script") = some (.ref l) ∧ IntsAre us ls ∧ (∀ x ∈ ls, 0 ≤ x ∧ x ≤ 64) ∧ ls.length = 257
theorem JL_end {h₀ h' : Heap} {L D l : Addr} {i j c : Nat} {m' : Str → Option Value} {own news : List (Addr × Obj)} {us : List Value} {ls : List Int} {x : Int} {t : Tok} {o : Obj} {s₁ : Shared} {tk : Nat}
    (F : Fr h₀ L h' m') (N : News h₀ L h' ((D, listOf (List.toArray (us.set j (.int x t))) c) :: (news ++ own))) (hm1 : m' (Str.ofString "lengths") = some (.ref D)) (hm2 : m' (Str.ofString "script") = some (.ref l)) (hU : IntsAre us ls) (hB : ∀ x ∈ ls, 0 ≤ x ∧ x ≤ 64) (hx : 0 ≤ x ∧ x ≤ 64) (hlen : ls.length = 257) (hoff : OwnOff own (((D, o) :: news).map (·.1))) :
    InvEndG h₀ L (JL D l news (i + 1)) own s₁ { s₁ with heap := h', toks := tk } :=
  InvEndG.intro (nx := (D, listOf (List.toArray (us.set j (.int x t))) c) :: news) F N ⟨_, _, _, rfl, hm1, hm2, Sq.ints_set hU j x t, set_all hB j hx, (List.length_set ..).trans hlen⟩ hoff (fun p hp => by
    rcases List.mem_cons.mp hp with rfl | hp
    · exact .head _
    · exact .tail _ (List.mem_append_left _ hp)) (fun p hp => .tail _ (List.mem_append_right _ hp))
theorem lengths_call {l : Addr} {vs : List Value} {ns : List Int}
    (B : Below A₀ base outer h₀) (F : Fr h₀ L s.heap m) (X : (hd.heap_39 w.params).In h₀) (N : News h₀ L s.heap news) (T : Top p loose mean mg mb h₀) (hk : cs.kind = .function)
    (hl : base.IsList l vs.toArray) (hi : IntsAre vs ns) (hfit : ns.length ≤ 63) (hd : dp + 5 < recursionLimit) (hu : un + 100 < cLine)
    (hret : ∀ D us ls c h' tk', Fr h₀ L h' m → News h₀ L h' ((D, listOf (List.toArray us) c) :: news) → (∀ p ∈ news, p.1 ≠ D) → IntsAre us ls → (∀ x ∈ ls, 0 ≤ x ∧ x ≤ 64) → ls.length = 257 → Q (.ref D) { s with heap := h', toks := tk' }) :
    wpAny (model prog w) (ktrTop dp un gd cn cs L a ccd cl outer) (call (.ref 95) [.ref l]) Q E s := by
  w_top on
  refine wpAny_call ?_
  k_dflt cell_enter
  rename_i g' L' hh FG' F0 N0 B' X' T'
  repeat ((fail_if_success (with_reducible show wpAny _ _ (pyIter _) _ _ _)); (first | walk1 | (k_unfold; (try dsimp only)) | (dsimp only; walk1)))
  rename IsRange _ _ _ _ _ _ _ _ => Rb
  rename News _ _ _ _ => Nb
  rename Fr _ _ _ _ => Fb
  rename_i l0 hb1 ll0 D hb2 lD hb3 t6 hb4 tkb rr hr tkr tr ur vr
  have e0 := fm0 (cellAt ns 6 0) (n := 6) (by decide)
  have e1 := fm1 (cellAt ns 6 0) (n := 6) (by decide)
  have lD2 := allLt_mem lD.2
  refine' range_inv (n := ((cellAt ns 6 0).fmod 6).toNat) (J := JL D l news) ?r1 Rb ?r2 ?r3 Fb (news_two Nb (.head _) (fun p hp => .tail _ (.tail _ hp))) ?r4 ?rt ?rd
  case r1 => rfl
  case r2 => exact rsmall1 (by omega) (by omega)
  case r3 => exact rsize1 _
  case r4 =>
    refine ⟨_, List.replicate 257 0, _, rfl, rfl, rfl, ints_rep 0 _ 257, ?_, by rw [List.length_replicate]⟩
    intro x hx
    rw [List.eq_of_mem_replicate hx]
    omega
  case rt =>
    clear Rb Fb Nb lD
    rintro i t m₂ nx h3 tk3 own2 hi2 hoff2 ⟨us1, ls, c, rfl, hm1, hm2, hU, hB, hlen⟩ F₃ N₄
    rw [map_at hm1, map_at (m := m₂) hm2] at F₃
    have hD' : ∀ p ∈ news ++ own2, p.1 ≠ D := fun p hp => (List.mem_append.mp hp).elim (fun h => Nat.ne_of_lt (lD2 p h)) fun h => hoff2 p h D (.head _)
    have N₅ : News g' L' h3 ((D, listOf (List.toArray us1) c) :: (news ++ own2)) := N₄
    have hlu : us1.length = ls.length := hU.length
    have g0 := fm0 (256 + (0 + (i : Int)) * cellAt ns (7 + (0 + (i : Int))) 0) (n := 257) (by decide)
    have g1 := fm1 (256 + (0 + (i : Int)) * cellAt ns (7 + (0 + (i : Int))) 0) (n := 257) (by decide)
    have g2 : ∀ x : Int, 0 ≤ 64 - x.fmod 64 ∧ 64 - x.fmod 64 ≤ 64 := fun x => by have := fm0 x (n := 64) (by decide); have := fm1 x (n := 64) (by decide); omega
    clear N₄
    k_steps
    rename IntsAre _ _ => iq
    rename News _ _ _ _ => Nq
    rename Fr _ _ _ _ => Fq
    exact JL_end Fq Nq rfl rfl iq hB (g2 _) hlen hoff2
  case rd =>
    clear Rb Fb Nb lD
    rintro m₂ nx h3 tk3 ⟨us1, ls, c, rfl, hm1, hm2, hU, hB, hlen⟩ F₃ N₅
    rw [map_at hm1, map_at (m := m₂) hm2] at F₃
    dsimp only
    k_steps
    rename News _ _ _ _ => Nq
    rename Fr _ _ _ _ => Fq
    exact hret D us1 ls c _ _ Fq Nq (fun p hp => Nat.ne_of_lt (lD2 p hp)) hU hB hlen
end
end S104
end
-- C104d
section
open PySem PySem.W PyProof.Rows PySem.Calls PySem.Spec Sq
namespace S104
local macro_rules | `(tactic| k_all) => `(tactic| assumption)
local macro_rules | `(tactic| k_mem) => `(tactic| assumption)
local macro_rules | `(tactic| walk_at "eval Call Name cons nil") => `(tactic| refine Call_ ?_)
local macro_rules | `(tactic| walk_at "call ref") => `(tactic| ((with_reducible show wpAny _ _ (call (Value.ref 41) _) _ _ _); k_dflt (refine' four_call ?k1 ?k2 ?k3 ?k4 ?k5 ?k6 ?k10 ?_; (case k1 => k_asm); (case k2 => k_asm); (case k3 => k_asm); (case k4 => k_asm); (case k5 => k_asm); (case k6 => first | exact rfl | assumption); (case k10 => ktr_room)); intro D9 us9 c9 h9 tk9 F9 N9 l9 hI9 hw9; (try dsimp only); (try k_sweep)))
local macro_rules | `(tactic| walk_at "binaryOp Add ref ref") => `(tactic| ((with_reducible show wpAny _ _ (binaryOp Operator.Add (Value.ref _) (Value.ref _)) _ _ _); k_dflt (refine' add_any ?k1 ?k2 ?k3 ?k4 ?k5 ?_; (case k1 => k_asm); (case k2 => k_asm); (case k3 => k_mem); (case k4 => k_mem); (case k5 => first | omega | (simp only [List.length_append, List.length_replicate, List.length_cons, List.length_nil]; omega))); intro D' h' F' N' l1; (try k_lt l1); (try k_sweep)))
section
variable {prog : Program} {w : World} {p : Program} {loose : List Str} {mean : ExcName → Option Value} {mg mb : Str → Option Value} {dp un : Nat} {gd : Option (List Code)} {cn : Str} {cs : Scope} {a : Addr} {ccd : Value} {cl : List (Str × Addr)} {outer : List Env} {A₀ : Around} {base h₀ : Heap} {L : Addr} {m : Str → Option Value} {news : List (Addr × Obj)} {s : Shared} {Q E : Value → Shared → Prop}
theorem header_call {l : Addr} {vs : List Value} {ls : List Int} {n : Nat} {x y z : Int} {t1 t2 t3 : Tok}
    (B : Below A₀ base outer h₀) (F : Fr h₀ L s.heap m) (X : (hd.heap_39 w.params).In h₀) (N : News h₀ L s.heap news) (T : Top p loose mean mg mb h₀) (hk : cs.kind = .function)
    (hl : (l, listOf vs.toArray n) ∈ news) (hI : IntsAre vs ls) (hz : ls.length ≤ 1000) {hs : List Int} (he : [83, 81] ++ four x ++ four y ++ four z ++ ls = hs) (hd : dp + 5 < recursionLimit) (hu : un + 100 < cLine)
    (hret : ∀ D us c h' tk', Fr h₀ L h' m → News h₀ L h' ((D, listOf (List.toArray us) c) :: news) → IntsAre us hs → us.length = hs.length → Q (.ref D) { s with heap := h', toks := tk' }) :
    wpAny (model prog w) (ktrTop dp un gd cn cs L a ccd cl outer) (call (.ref 62) [.ref l, .int x t1, .int y t2, .int z t3]) Q E s := by
  w_top on
  refine wpAny_call ?_
  k_dflt cell_enter
  have hlv : vs.length = ls.length := hI.length
  k_steps
  rename IntsAre _ (four z) => i3
  rename IntsAre _ (four y) => i2
  rename IntsAre _ (four x) => i1
  rename News _ _ _ _ => Nq
  rename Fr _ _ _ _ => Fq
  exact hret _ _ _ _ _ Fq (news_two Nq (.head _) (fun p hp => by
    iterate 8 refine List.Mem.tail _ ?_
    exact hp)) (he ▸ ints_app (ints_app (ints_app (ints_app (.cons _ _ (.cons _ _ .nil)) i1) i2) i3) hI) (he ▸ (ints_app (ints_app (ints_app (ints_app (.cons _ _ (.cons _ _ .nil)) i1) i2) i3) hI).length)
end
end S104
end
-- C104e
section
open PySem PySem.W PyProof.Rows PySem.Calls PySem.Spec Sq
namespace S104
local macro_rules | `(tactic| k_all) => `(tactic| assumption)
local macro_rules | `(tactic| k_mem) => `(tactic| assumption)
local macro_rules | `(tactic| walk_at "eval Call Name cons nil") => `(tactic| refine Call_ ?_)
local macro_rules | `(tactic| walk_at "call ref") => `(tactic| ((with_reducible show wpAny _ _ (call (Value.ref 76) _) _ _ _); k_dflt (refine' cellTells_use ?k1 ?k2 ?k3 ?k4 ?k5 ?k6 ?k7 ?k8 ?k9 ?k10 cellT ?k11 ?k12 ?_; (case k1 => k_asm); (case k2 => k_asm); (case k3 => k_asm); (case k4 => k_asm); (case k5 => k_asm); (case k6 => first | exact rfl | assumption); (case k7 => k_asm); (case k8 => k_asm); (case k9 => omega); (case k10 => omega); (case k11 => ktr_room); (case k12 => ktr_units)); intro t9 h9 tk9 F9 N9; (try dsimp only); (try k_sweep)))
local macro_rules | `(tactic| walk_at "binaryOp Add ref ref") => `(tactic| ((with_reducible show wpAny _ _ (binaryOp Operator.Add (Value.ref _) (Value.ref _)) _ _ _); k_dflt (refine' add_any ?k1 ?k2 ?k3 ?k4 ?k5 ?_; (case k1 => k_asm); (case k2 => k_asm); (case k3 => k_mem); (case k4 => k_mem); (case k5 => first | omega | (simp only [List.length_append, List.length_replicate, List.length_cons, List.length_nil]; omega))); intro D' h' F' N' l1; (try k_lt l1); (try k_sweep)))
local macro_rules | `(tactic| walk_at "setItem ref int") => `(tactic| ((with_reducible show wpAny _ _ (setItem (Value.ref _) (Value.int _ _) _) _ _ _); k_dflt (refine' sq_set ?k1 ?k2 ?k3 ?k4 ?k5 ?k6 ?_; (case k1 => k_asm); (case k2 => k_asm); (case k3 => k_upd); (case k4 => omega); (case k5 => omega); (case k6 => omega)); intro h9 F9 N9; (try dsimp only); (try k_sweep)))
local macro_rules | `(tactic| walk_at "call builtin:len") => `(tactic| ((with_reducible show wpAny _ _ (call (Value.builtin "len") [Value.ref _]) _ _ _); k_dflt (refine' len_ints ?k1 ?k2 ?k3 ?k4 ?_; (case k1 => k_asm); (case k2 => first | assumption | k_mem); (case k3 => assumption); (case k4 => omega)); intro t9 tk9; (try dsimp only)))
section
variable {prog : Program} {w : World} {p : Program} {loose : List Str} {mean : ExcName → Option Value} {mg mb : Str → Option Value} {dp un : Nat} {gd : Option (List Code)} {cn : Str} {cs : Scope} {a : Addr} {ccd : Value} {cl : List (Str × Addr)} {outer : List Env} {A₀ : Around} {base h₀ : Heap} {L : Addr} {m : Str → Option Value} {news : List (Addr × Obj)} {s : Shared} {Q E : Value → Shared → Prop}
theorem bend_call {l wl tl : Addr} {vs wv tv : List Value} {ns ws ts : List Int} {c c' : Nat}
    (B : Below A₀ base outer h₀) (F : Fr h₀ L s.heap m) (X : (hd.heap_39 w.params).In h₀) (N : News h₀ L s.heap news) (T : Top p loose mean mg mb h₀) (hk : cs.kind = .function)
    (hl : base.IsList l vs.toArray) (hi : IntsAre vs ns) (hfit : ns.length ≤ 63) (hw : (wl, listOf wv.toArray c) ∈ news) (hwI : IntsAre wv (83 :: 81 :: ws)) (hwl : ws.length = 269) (ht : (tl, listOf tv.toArray c') ∈ news) (htI : IntsAre tv ts) (htl : ts.length ≤ 3)
    (hd : dp + 5 < recursionLimit) (hu : un + 100 < cLine)
    (hret : ∀ D us bs c h' tk', Fr h₀ L h' m → News h₀ L h' ((D, listOf (List.toArray us) c) :: news) → IntsAre us bs → Refused bs → bs.length ≤ 1000 → Q (.ref D) { s with heap := h', toks := tk' }) :
    wpAny (model prog w) (ktrTop dp un gd cn cs L a ccd cl outer) (call (.ref 102) [.ref l, .ref wl, .ref tl]) Q E s := by
  w_top on
  refine wpAny_call ?_
  k_dflt cell_enter
  have hm : ∀ x : Int, (x.fmod 271).toNat < 271 := fun x => by have := fm0 x (n := 271) (by decide); have := fm1 x (n := 271) (by decide); omega
  have hd191 : ∀ x : Int, 64 < 65 + x.fmod 191 := fun x => by have := fm0 x (n := 191) (by decide); omega
  k_steps
  all_goals (rename News _ _ _ _ => Nq; rename Fr _ _ _ _ => Fq; rename IntsAre _ _ => iq)
  · exact hret _ _ _ _ _ _ Fq Nq iq (refused_cut (by decide)) (take_len hwl _)
  · exact hret _ _ _ _ _ _ Fq Nq iq (refused_cut (hm _)) (take_len hwl _)
  · exact hret _ _ _ _ _ _ Fq Nq iq (refused_mark (fm0 _ (by decide)) (by assumption) (by assumption) (by assumption)) (head_len hwl htl _ _)
  · exact hret _ _ _ _ _ _ Fq Nq iq (head_bad hwl (by decide)) (head_len hwl htl _ _)
  · exact hret _ _ _ _ _ _ Fq Nq iq (head_bad hwl (hd191 _)) (head_len hwl htl _ _)
end
end S104
end
-- C104f
section
open PySem PySem.W PyProof.Rows PySem.Calls PySem.Spec Sq
namespace S104
local macro_rules | `(tactic| k_all) => `(tactic| assumption)
local macro_rules | `(tactic| k_mem) => `(tactic| assumption)
local macro_rules | `(tactic| walk_at "eval Call Name cons nil") => `(tactic| refine Call_ ?_)
local macro_rules | `(tactic| walk_at "eval Call Name cons nil") => `(tactic| refine Call_ ?_)
local macro_rules | `(tactic| walk_at "eval Call Name cons nil") => `(tactic| refine Call_ ?_)
local macro_rules | `(tactic| walk_at "call builtin:len") => `(tactic| ((with_reducible show wpAny _ _ (call (Value.builtin "len") [Value.ref _]) _ _ _); k_dflt (refine' len_ints ?k1 ?k2 ?k3 ?k4 ?_; (case k1 => k_asm); (case k2 => first | assumption | k_mem); (case k3 => assumption); (case k4 => omega)); intro t9 tk9; (try dsimp only)))
local macro_rules | `(tactic| walk_at "call ref") => `(tactic| ((with_reducible show wpAny _ _ (call (Value.ref 48) _) _ _ _); k_dflt (refine' from_call ?k1 ?k2 ?k3 ?k4 ?k5 ?k6 ?k7 ?k8 ?k10 ?_; (case k1 => k_asm); (case k2 => k_asm); (case k3 => k_asm); (case k4 => k_asm); (case k5 => k_asm); (case k6 => first | exact rfl | assumption); (case k7 => first | assumption | k_mem); (case k8 => assumption); (case k10 => ktr_room)); intro t9 h9 tk9 F9 N9; (try dsimp only); (try k_sweep)))
local macro_rules | `(tactic| walk_at "subscriptTail Name Slice ref ref") => `(tactic| ((with_reducible show wpAny _ _ (subscriptTail _ (PySem.Expr.Slice (some _) (some _) none _) (Value.ref _) (Value.ref _)) _ _ _); k_dflt (refine' slice_run ?F ?N ?l ?i ?a ?b ?c ?e ?z ?_ ?s ?t; (case F => k_asm); (case N => k_asm); (case l => first | assumption | k_mem); (case i => assumption); (case a => decide); (case b => decide); (case c => omega); (case e => assumption); (case z => omega); (case s => with_unfolding_all rfl); (case t => (intro _; with_unfolding_all rfl))); intro D9 ws9 h9 F9 N9 l9 hI9; (try dsimp only); (try k_sweep)))
local macro_rules | `(tactic| walk_at "compareOp NotEq ref ref") => `(tactic| ((with_reducible show wpAny _ _ (compareOp CmpOp.NotEq (Value.ref _) (Value.ref _)) _ _ _); k_dflt (refine' ne_ints_eq ?k1 ?k2 ?k3 ?k4 ?k5 ?k7 ?k6 ?_; (case k1 => k_asm); (case k2 => k_mem); (case k3 => k_mem); (case k4 => assumption); (case k5 => l_intsW); (case k7 => assumption); (case k6 => ktr_units))))
local macro_rules | `(tactic| walk_at "call builtin:max") => `(tactic| ((with_reducible show wpAny _ _ (call (Value.builtin "max") [Value.ref _]) _ _ _); k_dflt (refine' max_le ?k0 ?k1 ?k2 ?k3 ?k4 ?k5 ?k6 ?_; (case k0 => with_unfolding_all rfl); (case k1 => k_asm); (case k2 => k_asm); (case k3 => k_mem); (case k4 => assumption); (case k6 => assumption); (case k5 => omega)); intro h9 M9 t9 tk9 F9 N9 hM9; (try dsimp only); (try k_sweep)))
section
variable {prog : Program} {w : World} {p : Program} {loose : List Str} {mean : ExcName → Option Value} {mg mb : Str → Option Value} {dp un : Nat} {gd : Option (List Code)} {cn : Str} {cs : Scope} {a : Addr} {ccd : Value} {cl : List (Str × Addr)} {outer : List Env} {A₀ : Around} {base h₀ : Heap} {L : Addr} {m : Str → Option Value} {news : List (Addr × Obj)} {s : Shared} {Q E : Value → Shared → Prop}
theorem read_header_ok {l : Addr} {vs : List Value} {bs ls : List Int} {n : Nat} {a0 a1 a2 a3 b0 b1 b2 b3 c0 c1 c2 c3 : Int}
    (B : Below A₀ base outer h₀) (F : Fr h₀ L s.heap m) (X : (hd.heap_39 w.params).In h₀) (N : News h₀ L s.heap news) (T : Top p loose mean mg mb h₀) (hk : cs.kind = .function)
    (hl : (l, listOf vs.toArray n) ∈ news) (hI : IntsAre vs bs) (hz : 271 ≤ bs.length) (hz' : bs.length ≤ 1000) (h2 : bs.take 2 = [83, 81]) (hls : (bs.drop 14).take 257 = ls) (hll : ls.length = 257) (hlm : ∀ x ∈ ls, x ≤ 64)
    (ha : (bs.drop 2).take 4 = [a0, a1, a2, a3]) (hb : (bs.drop 6).take 4 = [b0, b1, b2, b3]) (hc : (bs.drop 10).take 4 = [c0, c1, c2, c3]) (hd : dp + 5 < recursionLimit) (hu : un + 200 < cLine)
    {x y z : Int} (ex : a0 * 16777216 + a1 * 65536 + a2 * 256 + a3 = x) (ey : b0 * 16777216 + b1 * 65536 + b2 * 256 + b3 = y) (ez : c0 * 16777216 + c1 * 65536 + c2 * 256 + c3 = z)
    (hret : ∀ D H us c t0 t1 t2 n h' tk', Fr h₀ L h' m → News h₀ L h' ((D, tupH H x y z t0 t1 t2 n) :: (H, listOf (List.toArray us) c) :: news) → IntsAre us ls → Q (.ref D) { s with heap := h', toks := tk' }) :
    wpAny (model prog w) (ktrTop dp un gd cn cs L a ccd cl outer) (call (.ref 69) [.ref l]) Q E s := by
  w_top on
  refine wpAny_call ?_
  k_dflt cell_enter
  k_steps
  rename IntsAre _ ls => iL
  rename News _ _ _ _ => Nq
  rename Fr _ _ _ _ => Fq
  subst ex ey ez
  exact hret _ _ _ _ _ _ _ 0 _ _ Fq (news_two Nq (.head _) (fun p hp => by
    rcases List.mem_cons.mp hp with rfl | hp
    · exact .tail _ (.tail _ (.tail _ (.tail _ (.head _))))
    · iterate 7 refine List.Mem.tail _ ?_
      exact hp)) iL
end
end S104
end
-- C104g
section
open PySem PySem.W PyProof.Rows PySem.Calls PySem.Spec Sq
namespace S104
local macro_rules | `(tactic| k_all) => `(tactic| assumption)
local macro_rules | `(tactic| k_mem) => `(tactic| assumption)
local macro_rules | `(tactic| walk_at "eval Call Name cons nil") => `(tactic| refine Call_ ?_)
local macro_rules | `(tactic| walk_at "call builtin:len") => `(tactic| ((with_reducible show wpAny _ _ (call (Value.builtin "len") [Value.ref _]) _ _ _); k_dflt (refine' len_ints ?k1 ?k2 ?k3 ?k4 ?_; (case k1 => k_asm); (case k2 => first | assumption | k_mem); (case k3 => assumption); (case k4 => omega)); intro t9 tk9; (try dsimp only)))
local macro_rules | `(tactic| walk_at "subscriptTail Name Slice ref ref") => `(tactic| ((with_reducible show wpAny _ _ (subscriptTail _ (PySem.Expr.Slice (some _) (some _) none _) (Value.ref _) (Value.ref _)) _ _ _); k_dflt (refine' slice_run ?F ?N ?l ?i ?a ?b ?c ?e ?z ?_ ?s ?t; (case F => k_asm); (case N => k_asm); (case l => first | assumption | k_mem); (case i => assumption); (case a => decide); (case b => decide); (case c => omega); (case e => assumption); (case z => omega); (case s => with_unfolding_all rfl); (case t => (intro _; with_unfolding_all rfl))); intro D9 ws9 h9 F9 N9 l9 hI9; (try dsimp only); (try k_sweep)))
local macro_rules | `(tactic| walk_at "compareOp NotEq ref ref") => `(tactic| ((with_reducible show wpAny _ _ (compareOp CmpOp.NotEq (Value.ref _) (Value.ref _)) _ _ _); k_dflt (refine' ne_ints_ne ?k1 ?k2 ?k3 ?k4 ?k5 ?k7 ?k6 ?_; (case k1 => k_asm); (case k2 => k_mem); (case k3 => k_mem); (case k4 => assumption); (case k5 => l_intsW); (case k7 => assumption); (case k6 => ktr_units))))
local macro_rules | `(tactic| walk_at "compareOp NotEq ref ref") => `(tactic| ((with_reducible show wpAny _ _ (compareOp CmpOp.NotEq (Value.ref _) (Value.ref _)) _ _ _); k_dflt (refine' ne_ints_eq ?k1 ?k2 ?k3 ?k4 ?k5 ?k7 ?k6 ?_; (case k1 => k_asm); (case k2 => k_mem); (case k3 => k_mem); (case k4 => assumption); (case k5 => l_intsW); (case k7 => assumption); (case k6 => ktr_units))))
local macro_rules | `(tactic| walk_at "call builtin:max") => `(tactic| ((with_reducible show wpAny _ _ (call (Value.builtin "max") [Value.ref _]) _ _ _); k_dflt (refine' max_gt ?k0 ?k1 ?k2 ?k3 ?k4 ?k6 ?_; (case k0 => with_unfolding_all rfl); (case k1 => k_asm); (case k2 => k_asm); (case k3 => k_mem); (case k4 => assumption); (case k6 => assumption)); intro h9 M9 t9 tk9 F9 N9 hM9; (try dsimp only); (try k_sweep)))
local macro_rules | `(tactic| walk_at "call ref") => `(tactic| ((with_reducible show wpAny _ _ (call (Value.ref 69) _) _ _ _); (refine wpAny_call ?_); k_dflt (refine' code_def ?k1 ?k2 ?k3 ?k4 ?k5 ?kA ?kF ?kK ?k6 ?k7 ?k8 ?k9 ?kB ?_ ?c2 ?c3 ?c4 ?c5; (case kA => exact rfl); (case kF => exact rfl); (case kK => exact rfl); (case k1 => k_asm); (case k2 => k_asm); (case k3 => k_asm); (case k4 => k_asm); (case k5 => k_asm); (case k6 => k_is); (case k7 => k_is); (case k8 => ktr_room); (case k9 => exact BindsTo.of_eq rfl); (case c5 => decide); (case kB => exact locs rfl); (case c2 => exact rfl); (case c3 => exact rfl); (case c4 => exact rfl); k_whole; intro g' L' h' FG' F' N' B' X' T'; (try dsimp only); (try k_fold))))
section
variable {prog : Program} {w : World} {p : Program} {loose : List Str} {mean : ExcName → Option Value} {mg mb : Str → Option Value} {dp un : Nat} {gd : Option (List Code)} {cn : Str} {cs : Scope} {a : Addr} {ccd : Value} {cl : List (Str × Addr)} {outer : List Env} {A₀ : Around} {base h₀ : Heap} {L : Addr} {m : Str → Option Value} {news : List (Addr × Obj)} {s : Shared} {Q E : Value → Shared → Prop}
theorem read_bad {l : Addr} {vs : List Value} {bs : List Int} {n : Nat}
    (B : Below A₀ base [] h₀) (F : Fr h₀ L s.heap m) (X : (hd.heap_39 w.params).In h₀) (N : News h₀ L s.heap news) (T : Top p loose mean mg mb h₀) (hk : cs.kind = .function)
    (XB : (hd.heap_39 w.params).In base) (TB : Top p loose mean mg mb base) (hl : (l, listOf vs.toArray n) ∈ news) (hI : IntsAre vs bs) (hR : Refused bs) (hz : bs.length ≤ 1000) (hd : dp + 5 < recursionLimit) (hu : un + 200 < cLine)
    (hret : ∀ t h' tk', Fr h₀ L h' m → News h₀ L h' news → Q (.str (Str.ofString "refused") t) { s with heap := h', toks := tk' }) :
    wpAny (model prog w) (ktrTop dp un gd cn cs L a ccd cl []) (call (.ref 109) [.ref l]) Q E s := by
  w_top on
  refine wpAny_call ?_
  k_dflt (refine' try_enter ?k1 ?k2 ?k3 ?k4 ?k5 ?kA ?kf ?ke ?k6 ?k7 ?k8 ?k9 ?kB ?_ ?c2 ?c3 ?c4 ?c5; (case kA => exact rfl); (case kf => exact rfl); (case ke => assumption); (case k2 => k_asm); (case k1 => k_asm); (case k3 => k_asm); (case k4 => k_asm); (case k5 => k_asm); (case k6 => k_is); (case k7 => k_is); (case k8 => first | ktr_room | k_room); (case k9 => exact BindsTo.of_eq rfl); (case kB => exact locs rfl); (case c2 => exact rfl); (case c3 => exact rfl); (case c4 => exact rfl); (case c5 => decide); k_whole)
  intro g' L' h' FG' F' N' B' X' T' D'
  (try dsimp only)
  (try k_lift B')
  (try k_fold)
  by_cases hlen : bs.length < 271
  · clear hR
    k_steps
    rename News _ _ _ _ => Nq
    rename Fr _ _ _ _ => Fq
    first | exact hret _ _ _ Fq Nq | exact hret _ _ _ Fq (fun p hp => Nq p (.tail _ hp)) | exact hret _ _ _ Fq (fun p hp => Nq p (.tail _ (.tail _ hp))) | exact hret _ _ _ Fq (fun p hp => Nq p (.tail _ (.tail _ (.tail _ hp))))
  · by_cases h2 : bs.take 2 = [83, 81]
    · have h3 : ∃ x ∈ (bs.drop 14).take 257, 64 < x := by
        rcases hR with h | h | h
        · exact absurd h hlen
        · exact absurd h2 h
        · exact h
      obtain ⟨ls, hls⟩ : ∃ ls, (bs.drop 14).take 257 = ls := ⟨_, rfl⟩
      rw [hls] at h3
      clear hR
      k_steps
      rename News _ _ _ _ => Nq
      rename Fr _ _ _ _ => Fq
      first | exact hret _ _ _ Fq Nq | exact hret _ _ _ Fq (fun p hp => Nq p (.tail _ hp)) | exact hret _ _ _ Fq (fun p hp => Nq p (.tail _ (.tail _ hp))) | exact hret _ _ _ Fq (fun p hp => Nq p (.tail _ (.tail _ (.tail _ hp))))
    · clear hR
      k_steps
      rename News _ _ _ _ => Nq
      rename Fr _ _ _ _ => Fq
      first | exact hret _ _ _ Fq Nq | exact hret _ _ _ Fq (fun p hp => Nq p (.tail _ hp)) | exact hret _ _ _ Fq (fun p hp => Nq p (.tail _ (.tail _ hp))) | exact hret _ _ _ Fq (fun p hp => Nq p (.tail _ (.tail _ (.tail _ hp))))
end
end S104
end
-- C104h
section
open PySem PySem.W PyProof.Rows PySem.Calls PySem.Spec Sq
namespace S104
local macro_rules | `(tactic| k_all) => `(tactic| assumption)
local macro_rules | `(tactic| k_mem) => `(tactic| assumption)
local macro_rules | `(tactic| walk_at "eval Call Name cons nil") => `(tactic| refine Call_ ?_)
local macro_rules | `(tactic| walk_at "call ref") => `(tactic| ((with_reducible show wpAny _ _ (call (Value.ref 69) _) _ _ _); k_dflt (refine' read_header_ok ?k1 ?k2 ?k3 ?k4 ?k5 ?k6 ?h1 ?h2 ?h3 ?h4 ?h5 ?h6 ?h7 ?h8 ?h9 ?h10 ?h11 ?h12 ?h13 ?x1 ?x2 ?x3 ?_; (case k1 => k_asm); (case k2 => k_asm); (case k3 => k_asm); (case k4 => k_asm); (case k5 => k_asm); (case k6 => first | exact rfl | assumption); (case h1 => first | assumption | k_mem); (case h2 => assumption); (case h3 => assumption); (case h4 => assumption); (case h5 => assumption); (case h6 => assumption); (case h7 => assumption); (case h8 => assumption); (case h9 => assumption); (case h10 => assumption); (case h11 => assumption); (case h12 => ktr_room); (case h13 => ktr_units); (case x1 => assumption); (case x2 => assumption); (case x3 => assumption)); intro D9 H9 us9 c9 t9 t9' t9'' n9 h9 tk9 F9 N9 hI9; (try dsimp only); (try k_sweep)))
section
variable {prog : Program} {w : World} {p : Program} {loose : List Str} {mean : ExcName → Option Value} {mg mb : Str → Option Value} {dp un : Nat} {gd : Option (List Code)} {cn : Str} {cs : Scope} {a : Addr} {ccd : Value} {cl : List (Str × Addr)} {outer : List Env} {A₀ : Around} {base h₀ : Heap} {L : Addr} {m : Str → Option Value} {news : List (Addr × Obj)} {s : Shared} {Q E : Value → Shared → Prop}
theorem read_ok {l : Addr} {vs : List Value} {bs ls : List Int} {n : Nat} {a0 a1 a2 a3 b0 b1 b2 b3 c0 c1 c2 c3 : Int}
    (B : Below A₀ base outer h₀) (F : Fr h₀ L s.heap m) (X : (hd.heap_39 w.params).In h₀) (N : News h₀ L s.heap news) (T : Top p loose mean mg mb h₀) (hk : cs.kind = .function)
    (hl : (l, listOf vs.toArray n) ∈ news) (hI : IntsAre vs bs) (hz : 271 ≤ bs.length) (hz' : bs.length ≤ 1000) (h2 : bs.take 2 = [83, 81]) (hls : (bs.drop 14).take 257 = ls) (hll : ls.length = 257) (hlm : ∀ x ∈ ls, x ≤ 64)
    (ha : (bs.drop 2).take 4 = [a0, a1, a2, a3]) (hb : (bs.drop 6).take 4 = [b0, b1, b2, b3]) (hc : (bs.drop 10).take 4 = [c0, c1, c2, c3]) (hd : dp + 8 < recursionLimit) (hu : un + 300 < cLine)
    {x y z : Int} (ex : a0 * 16777216 + a1 * 65536 + a2 * 256 + a3 = x) (ey : b0 * 16777216 + b1 * 65536 + b2 * 256 + b3 = y) (ez : c0 * 16777216 + c1 * 65536 + c2 * 256 + c3 = z)
    (hret : ∀ D H us c t0 t1 t2 n h' tk', Fr h₀ L h' m → News h₀ L h' ((D, tupH H x y z t0 t1 t2 n) :: (H, listOf (List.toArray us) c) :: news) → IntsAre us ls → Q (.ref D) { s with heap := h', toks := tk' }) :
    wpAny (model prog w) (ktrTop dp un gd cn cs L a ccd cl outer) (call (.ref 109) [.ref l]) Q E s := by
  w_top on
  refine wpAny_call ?_
  k_dflt cell_enter
  k_steps
  rename News _ _ _ _ => Nq
  rename Fr _ _ _ _ => Fq
  exact hret _ _ _ _ _ _ _ _ _ _ Fq Nq (by assumption)
end
end S104
end
-- C104m
section
open PySem PySem.W PyProof.Rows PySem.Calls PySem.Spec Sq
namespace S104
theorem quad_of {P : Int → Prop} {ys : List Value} (hl : ys.length = 4) (h : ∀ (i : Nat) (y : Value), ys[i]? = some y → ∃ x t, y = .int x t ∧ P x) :
    ∃ q0 t0 q1 t1 q2 t2 q3 t3, ys = [.int q0 t0, .int q1 t1, .int q2 t2, .int q3 t3] ∧ P q0 ∧ P q1 ∧ P q2 ∧ P q3 := by
  match ys, hl with
  | [a, b, c, d], _ =>
    obtain ⟨x0, t0, rfl, p0⟩ := h 0 _ rfl
    obtain ⟨x1, t1, rfl, p1⟩ := h 1 _ rfl
    obtain ⟨x2, t2, rfl, p2⟩ := h 2 _ rfl
    obtain ⟨x3, t3, rfl, p3⟩ := h 3 _ rfl
    exact ⟨_, _, _, _, _, _, _, _, rfl, p0, p1, p2, p3⟩
theorem packM {h₀ h : Heap} {L Dw Dt Dl Dd cS cD cC : Addr} {oS oD oC : Obj} {led : List (Addr × Obj)} {wv tv lv dv : List Value} {nw nt nl nd : Nat} {hs : List Int} (N : News h₀ L h led) (hw : (Dw, listOf (List.toArray wv) nw) ∈ led) (ht : (Dt, listOf (List.toArray tv) nt) ∈ led) (hl : (Dl, listOf (List.toArray lv) nl) ∈ led) (hd : (Dd, listOf (List.toArray dv) nd) ∈ led) (h1 : (cS, oS) ∈ led) (h2 : (cD, oD) ∈ led) (h3 : (cC, oC) ∈ led) (hI : IntsAre wv hs) :
    ∃ Z wv', News h₀ L h Z ∧ (Dw, listOf (List.toArray wv') nw) ∈ Z ∧ (Dt, listOf (List.toArray tv) nt) ∈ Z ∧ (Dl, listOf (List.toArray lv) nl) ∈ Z ∧ (Dd, listOf (List.toArray dv) nd) ∈ Z ∧ (cS, oS) ∈ Z ∧ (cD, oD) ∈ Z ∧ (cC, oC) ∈ Z ∧ IntsAre wv' hs ∧ wv'.length = hs.length := ⟨led, wv, N, hw, ht, hl, hd, h1, h2, h3, hI, hI.length⟩
theorem head_eq {q0 q1 q2 q3 n a b : Int} {ls : List Int} (p0 : Byt q0) (p1 : Byt q1) (p2 : Byt q2) (p3 : Byt q3) (hn : 0 ≤ n) (hn' : n < 65536) (ha : 0 ≤ a) (ha' : a < 65536) (hb : 0 ≤ b) (hb' : b < 65536) :
    [83, 81] ++ four (q0 * 16777216 + q1 * 65536 + q2 * 256 + q3) ++ four n ++ four (b * 65536 + a) ++ ls = headOf q0 q1 q2 q3 n a b ls := by
  rw [four_quad p0.1 p0.2 p1.1 p1.2 p2.1 p2.2 p3.1 p3.2, four_size hn hn', four_check ha ha' hb hb']
  rfl
theorem wide_gen {h₀ h : Heap} {L : Addr} {x : Int} {t : Tok} {m0 : Str → Option Value} {G : Prop} (F : Fr h₀ L h (fun y => if y = Str.ofString "wide" then some (.int x t) else m0 y)) (k : ∀ x' : Int, Fr h₀ L h (fun y => if y = Str.ofString "wide" then some (.int x' t) else m0 y) → G) : G := k x F
theorem packZ {h₀ h : Heap} {L Dt : Addr} {led : List (Addr × Obj)} {tv : List Value} {nt : Nat} (N : News h₀ L h led) (ht : (Dt, listOf (List.toArray tv) nt) ∈ led) : ∃ Z, News h₀ L h Z ∧ (Dt, listOf (List.toArray tv) nt) ∈ Z := ⟨led, N, ht⟩
theorem cut_ls {ls ts : List Int} (h : ls.length = 257) : (ls ++ ts).take 257 = ls := by
  rw [← h]; simp
theorem isb_tail {ts : List Int} {wd : Int} (h : ∀ x ∈ ts, Byt x) (hw : 0 ≤ wd ∧ wd ≤ 255) : isB ([0, 255] ++ ts ++ [wd]) = true := by
  refine isB_true ?_
  intro x hx
  simp only [List.mem_append, List.mem_cons, List.not_mem_nil, or_false] at hx
  rcases hx with (hx | hx) | hx
  · rcases hx with rfl | rfl <;> exact ⟨by decide, by decide⟩
  · exact h x hx
  · rw [hx]; exact hw
theorem isb_not {ts : List Int} {wd : Int} (hw : ¬ (0 ≤ wd ∧ wd ≤ 255)) : isB ([0, 255] ++ ts ++ [wd]) = false := by
  refine isB_false (i := ([0, 255] ++ ts).length) (x := wd) ?_ (by omega)
  rw [List.getElem?_append_right (Nat.le_refl _)]
  simp
local macro_rules | `(tactic| k_all) => `(tactic| assumption)
local macro_rules | `(tactic| k_mem) => `(tactic| assumption)
local macro_rules | `(tactic| walk_at "eval Call Name cons nil") => `(tactic| refine Call_ ?_)
local macro_rules | `(tactic| walk_at "call ref") => `(tactic| ((with_reducible show wpAny _ _ (call (Value.ref 76) _) _ _ _); k_dflt (refine' cellTells_use ?k1 ?k2 ?k3 ?k4 ?k5 ?k6 ?k7 ?k8 ?k9 ?k10 cellT ?k11 ?k12 ?_; (case k1 => k_asm); (case k2 => k_asm); (case k3 => k_asm); (case k4 => k_asm); (case k5 => k_asm); (case k6 => first | exact rfl | assumption); (case k7 => k_asm); (case k8 => k_asm); (case k9 => omega); (case k10 => omega); (case k11 => ktr_room); (case k12 => ktr_units)); intro t9 h9 tk9 F9 N9; (try dsimp only); (try k_sweep)))
local macro_rules | `(tactic| walk_at "call ref") => `(tactic| ((with_reducible show wpAny _ _ (call (Value.ref 83) _) _ _ _); k_dflt (refine' byte_call ?k1 ?k2 ?k3 ?k4 ?k5 ?k6 ?k10 ?_; (case k1 => k_asm); (case k2 => k_asm); (case k3 => k_asm); (case k4 => k_asm); (case k5 => k_asm); (case k6 => first | exact rfl | assumption); (case k10 => ktr_room)); intro r9 t9 h9 tk9 hr9 hr9' F9 N9; (try dsimp only); (try k_sweep)))
local macro_rules | `(tactic| walk_at "call builtin:len") => `(tactic| ((with_reducible show wpAny _ _ (call (Value.builtin "len") [Value.ref _]) _ _ _); k_dflt (refine' len_ints ?k1 ?k2 ?k3 ?k4 ?_; (case k1 => k_asm); (case k2 => first | assumption | k_mem); (case k3 => assumption); (case k4 => omega)); intro t9 tk9; (try dsimp only)))
local macro_rules | `(tactic| walk_at "call type:range") => `(tactic| ((with_reducible show wpAny _ _ (call (Value.type "range") [Value.int _ _]) _ _ _); k_dflt (refine' range_call ?k1 ?k2 ?_; (case k1 => k_asm); (case k2 => k_asm)); intro r9 h9 tk9 t9 u9 v9 F9 N9 R9; (try dsimp only); (try k_sweep)))
local macro_rules | `(tactic| walk_at "binaryOp Add ref ref") => `(tactic| ((with_reducible show wpAny _ _ (binaryOp Operator.Add (Value.ref _) (Value.ref _)) _ _ _); k_dflt (refine' add_any ?k1 ?k2 ?k3 ?k4 ?k5 ?_; (case k1 => k_asm); (case k2 => k_asm); (case k3 => k_mem); (case k4 => k_mem); (case k5 => first | omega | (simp only [List.length_append, List.length_replicate, List.length_cons, List.length_nil]; omega))); intro D' h' F' N' l1; (try k_lt l1); (try k_sweep)))
local macro_rules | `(tactic| walk_at "call ref") => `(tactic| ((with_reducible show wpAny _ _ (call (Value.ref 88) _) _ _ _); k_dflt (refine' data_call ?k1 ?k2 ?k3 ?k4 ?k5 ?k6 ?k7 ?k8 ?k9 ?k11 ?k12 ?_; (case k1 => k_asm); (case k2 => k_asm); (case k3 => k_asm); (case k4 => k_asm); (case k5 => k_asm); (case k6 => first | exact rfl | assumption); (case k7 => k_asm); (case k8 => k_asm); (case k9 => omega); (case k11 => ktr_room); (case k12 => ktr_units)); intro D9 us9 ds9 c9 h9 tk9 F9 N9 l9 hI9 hB9 hL9; (have n9a : @Ne Nat _ _ := l9 _ (List.Mem.head _)); (have n9b : @Ne Nat _ _ := l9 _ (List.Mem.tail _ (List.Mem.head _))); (have n9c : @Ne Nat _ _ := l9 _ (List.Mem.tail _ (List.Mem.tail _ (List.Mem.head _)))); (have n9d : @Ne Nat _ _ := l9 _ (List.Mem.tail _ (List.Mem.tail _ (List.Mem.tail _ (List.Mem.head _))))); (try dsimp only at n9a n9b n9c n9d); (try dsimp only); (try k_sweep)))
local macro_rules | `(tactic| walk_at "call ref") => `(tactic| ((with_reducible show wpAny _ _ (call (Value.ref 95) _) _ _ _); k_dflt (refine' lengths_call ?k1 ?k2 ?k3 ?k4 ?k5 ?k6 ?k7 ?k8 ?k9 ?k11 ?k12 ?_; (case k1 => k_asm); (case k2 => k_asm); (case k3 => k_asm); (case k4 => k_asm); (case k5 => k_asm); (case k6 => first | exact rfl | assumption); (case k7 => k_asm); (case k8 => k_asm); (case k9 => omega); (case k11 => ktr_room); (case k12 => ktr_units)); intro D9 us9 ls9 c9 h9 tk9 F9 N9 l9 hI9 hB9 hL9; (have n9c : @Ne Nat _ _ := l9 _ (List.Mem.tail _ (List.Mem.tail _ (List.Mem.head _)))); (try dsimp only at n9c); (try dsimp only); (try k_sweep)))
local macro_rules | `(tactic| walk_at "subscriptTail Name Name ref int") => `(tactic| ((with_reducible show wpAny _ _ (subscriptTail _ _ (Value.ref _) (Value.int _ _)) _ _ _); (with_unfolding_all refine' item_ints ?k1 ?k2 ?k3 ?k4 ?k5 ?k6 ?_ ?k7; (case k1 => k_asm); (case k2 => first | assumption | k_mem); (case k3 => assumption); (case k4 => omega); (case k5 => omega); (case k6 => omega); (case k7 => with_unfolding_all rfl)); intro t9; (try dsimp only)))
local macro_rules | `(tactic| walk_at "call builtin:sum") => `(tactic| ((with_reducible show wpAny _ _ (call (Value.builtin "sum") [Value.ref _]) _ _ _); k_dflt (refine' sumK ?k0 ?k1 ?k2 ?k3 ?k4 ?_; (case k0 => with_unfolding_all rfl); (case k1 => k_asm); (case k2 => k_asm); (case k3 => exact News.isList (by k_asm) (by k_mem)); (case k4 => assumption)); intro h9 tk9 t9 F9 N9; (try dsimp only); (try k_sweep)))
local macro_rules | `(tactic| walk_at "call ref") => `(tactic| ((with_reducible show wpAny _ _ (call (Value.ref 55) _) _ _ _); k_dflt (refine' checksum_call ?k1 ?k2 ?k3 ?k4 ?k5 ?k6 ?k7 ?k8 ?k9 ?k10 ?_; (case k1 => k_asm); (case k2 => k_asm); (case k3 => k_asm); (case k4 => k_asm); (case k5 => k_asm); (case k6 => first | exact rfl | assumption); (case k7 => first | assumption | k_mem); (case k8 => assumption); (case k9 => assumption); (case k10 => ktr_room)); intro t9 h9 tk9 F9 N9; (try dsimp only); (try k_sweep)))
local macro_rules | `(tactic| walk_at "call ref") => `(tactic| ((with_reducible show wpAny _ _ (call (Value.ref 62) _) _ _ _); k_dflt (refine' header_call ?k1 ?k2 ?k3 ?k4 ?k5 ?k6 ?k7 ?k8 ?k9 ?ke ?k10 ?k11 ?_; (case k1 => k_asm); (case k2 => k_asm); (case k3 => k_asm); (case k4 => k_asm); (case k5 => k_asm); (case k6 => first | exact rfl | assumption); (case k7 => first | assumption | k_mem); (case k8 => assumption); (case k9 => omega); (case ke => assumption); (case k10 => ktr_room); (case k11 => ktr_units)); intro D9 us9 c9 h9 tk9 F9 N9 hI9 hw9; (try dsimp only); (try k_sweep)))
local macro_rules | `(tactic| walk_at "call ref") => `(tactic| ((with_reducible show wpAny _ _ (call (Value.ref 34) _) _ _ _); k_dflt (refine' is_bytes_call ?k1 ?k2 ?k3 ?k4 ?k5 ?k6 ?k7 ?k8 ?k9 ?k10 ?_; (case k1 => k_asm); (case k2 => k_asm); (case k3 => k_asm); (case k4 => k_asm); (case k5 => k_asm); (case k6 => first | exact rfl | assumption); (case k7 => first | assumption | k_mem); (case k8 => first | assumption | l_intsW | exact Sq.ints_app (by assumption) (by assumption) | exact Sq.ints_app (Sq.ints_app (by l_intsW) (by assumption)) (by l_intsW)); (case k9 => assumption); (case k10 => ktr_room)); intro h9 tk9 F9 N9; (try dsimp only); (try k_sweep)))
local macro_rules | `(tactic| walk_at "call ref") => `(tactic| ((with_reducible show wpAny _ _ (call (Value.ref 109) _) _ _ _); k_dflt (refine' read_bad ?k1 ?k2 ?k3 ?k4 ?k5 ?k6 ?x1 ?x2 ?k7 ?k8 ?k9 ?kz ?k10 ?k11 ?_; (case k1 => k_asm); (case k2 => k_asm); (case k3 => k_asm); (case k4 => k_asm); (case k5 => k_asm); (case k6 => first | exact rfl | assumption); (case x1 => k_asm); (case x2 => k_asm); (case k7 => first | assumption | k_mem); (case k8 => assumption); (case k9 => assumption); (case kz => assumption); (case k10 => ktr_room); (case k11 => ktr_units)); intro t9 h9 tk9 F9 N9; (try dsimp only); (try k_sweep)))
local macro_rules | `(tactic| walk_at "call ref") => `(tactic| ((with_reducible show wpAny _ _ (call (Value.ref 109) _) _ _ _); k_dflt (refine' read_ok ?k1 ?k2 ?k3 ?k4 ?k5 ?k6 ?h1 ?h2 ?h3 ?h4 ?h5 ?h6 ?h7 ?h8 ?h9 ?h10 ?h11 ?h12 ?h13 ?x1 ?x2 ?x3 ?_; (case k1 => k_asm); (case k2 => k_asm); (case k3 => k_asm); (case k4 => k_asm); (case k5 => k_asm); (case k6 => first | exact rfl | assumption); (case h1 => first | assumption | k_mem); (case h2 => first | assumption | l_intsW | exact Sq.ints_app (by assumption) (by assumption) | exact Sq.ints_app (Sq.ints_app (by l_intsW) (by assumption)) (by l_intsW)); (case h3 => assumption); (case h4 => assumption); (case h5 => assumption); (case h6 => assumption); (case h7 => assumption); (case h8 => assumption); (case h9 => assumption); (case h10 => assumption); (case h11 => assumption); (case h12 => ktr_room); (case h13 => ktr_units); (case x1 => assumption); (case x2 => assumption); (case x3 => assumption)); intro D9 H9 us9 c9 t9 t9' t9'' n9 h9 tk9 F9 N9 hI9; (try dsimp only); (try k_sweep)))
local macro_rules | `(tactic| walk_at "call ref") => `(tactic| ((with_reducible show wpAny _ _ (call (Value.ref 102) _) _ _ _); k_dflt (refine' bend_call ?k1 ?k2 ?k3 ?k4 ?k5 ?k6 ?k7 ?k8 ?k9 ?w1 ?w2 ?w3 ?t1 ?t2 ?t3 ?k10 ?k11 ?_; (case k1 => k_asm); (case k2 => k_asm); (case k3 => k_asm); (case k4 => k_asm); (case k5 => k_asm); (case k6 => first | exact rfl | assumption); (case k7 => k_asm); (case k8 => k_asm); (case k9 => omega); (case w1 => first | assumption | k_mem); (case w2 => assumption); (case w3 => assumption); (case t1 => first | assumption | k_mem); (case t2 => assumption); (case t3 => assumption); (case k10 => ktr_room); (case k11 => ktr_units)); intro D9 us9 bs9 c9 h9 tk9 F9 N9 hI9 hR9 hL9; (try dsimp only); (try k_sweep)))
local macro_rules | `(tactic| walk_at "compareOp NotEq ref ref") => `(tactic| ((with_reducible show wpAny _ _ (compareOp CmpOp.NotEq (Value.ref _) (Value.ref _)) _ _ _); k_dflt (refine' ne_head ?k1 ?a1 ?a2 ?a3 ?b1 ?b2 ?b3 ?e ?k6 ?_; (case k1 => k_asm); (case a1 => k_mem); (case a2 => k_mem); (case a3 => assumption); (case b1 => k_mem); (case b2 => k_mem); (case b3 => assumption); (case e => exact ⟨rfl, rfl, rfl, rfl⟩); (case k6 => ktr_units))))
local macro_rules | `(tactic| walk_at "compareOp NotEq ref ref") => `(tactic| ((with_reducible show wpAny _ _ (compareOp CmpOp.NotEq (Value.ref _) (Value.ref _)) _ _ _); k_dflt (refine' ne_ints_eq ?k1 ?k2 ?k3 ?k4 ?k5 ?k7 ?k6 ?_; (case k1 => k_asm); (case k2 => first | assumption | k_mem); (case k3 => first | assumption | k_mem); (case k4 => first | assumption | l_intsW | exact Sq.ints_app (by assumption) (by assumption) | exact Sq.ints_app (Sq.ints_app (by l_intsW) (by assumption)) (by l_intsW)); (case k5 => first | assumption | l_intsW | exact Sq.ints_app (by assumption) (by assumption) | exact Sq.ints_app (Sq.ints_app (by l_intsW) (by assumption)) (by l_intsW)); (case k7 => first | exact rfl | assumption); (case k6 => ktr_units))))
local macro_rules | `(tactic| walk_at "subscriptTail List BinOp ref int") => `(tactic| ((with_reducible show wpAny _ _ (subscriptTail _ _ (Value.ref _) (Value.int _ _)) _ _ _); (with_unfolding_all refine' item_ints ?k1 ?k2 ?k3 ?k4 ?k5 ?k6 ?_ ?k7; (case k1 => k_asm); (case k2 => k_mem); (case k3 => l_intsW); (case k4 => decide); (case k5 => omega); (case k6 => ((simp only [List.length_cons, List.length_nil]); omega)); (case k7 => with_unfolding_all rfl)); intro t9; (try dsimp only)))
theorem main : PySem.Challenge.rw_pd_squeeze_1_04.Holds := hd (by
  k_go0
  all_goals try k_fold
  rename_i W S0 S1 MG MB G Y fa o pm doc ho hg KX X V GL T B TE TW w1 w2 M w3 w4 hcd ns hs hlay0 hLay hr hl2 w5 w6 l vs w7 hL ra wl r0 hI hr2 hcond hcond2 K0 hD h1 tk1 F0 oS oD oC dS dD dC N0 X0
  have fin : ∀ (h : Heap) (tk : Nat) (m : Str → Option Value) (nw : List (Addr × Obj)), Fr S1.heap S1.heap.objs.size h m → News S1.heap S1.heap.objs.size h nw → qk (Flow.ret (Value.bool true)) { S1 with heap := h, toks := tk } := by
    clear F0 N0
    intro h tk m nw F N
    k_steps
  repeat ((fail_if_success (with_reducible show wpAny _ _ (exec (Stmt.Assign _ (Expr.ListComp _ _ _ _) _) _) _ _ _)); (first | walk1 | (k_unfold; (try dsimp only)) | (dsimp only; walk1)))
  rename News _ _ _ _ => Na
  rename Fr _ _ _ _ => Fa
  refine' LCg.Assign_ListComp_U (F₀ := Fa) ?b1 ?b2 ?b3 ?b4 ?b5 ?b6 ?b7 ?b8 ?b9 ?b10 ?b11
  case b1 => rfl
  case b2 => with_unfolding_all rfl
  case b3 => with_unfolding_all rfl
  case b4 => decide
  case b5 => rfl
  case b6 => decide
  case b7 => rfl
  case b8 => rfl
  case b9 => rfl
  case b11 => intro _; rfl
  repeat ((fail_if_success (with_reducible show LCg.CompSrc _ _ _ _ _ _ _ _ _ _ _ _ _ _)); walk1)
  rename IsRange _ _ _ _ _ _ _ _ => Rg
  rename News _ _ _ _ => Ng
  rename Fr _ _ _ _ => Fg
  refine LCg.CompSrc.range (n := 4) rfl Fg Ng Rg (rsmall1 (by decide) (by decide)) (rsize1 _) (by rw [sizeLine_eq]; omega) ?_
  intro gg
  refine compRest_of (n := 4) (fun i y => ∃ x t, y = .int x t ∧ Byt x) trivial ?ct ?cf 4 0 [] rfl rfl (fun j y hj => by simp at hj)
  case ct =>
    intro i v I oI C oC D ys m₂ h1 tk1 E' hi1 hP hNs hx F1 N1 off hne
    obtain ⟨tv, rfl⟩ := hP
    repeat ((fail_if_success (with_reducible show Exists _)); (first | walk1 | (dsimp only; walk1)))
    rename News _ _ _ _ => Nz
    rename Fr _ _ _ _ => Fz
    exact ⟨_, _, rfl, Fz, Nz, _, _, rfl, by assumption, by assumption⟩
  case cf =>
    intro ys hyl hyG Dq h6 tk6 F6 N6 off1
    obtain ⟨q0, t0, q1, t1, q2, t2, q3, t3, rfl, p0, p1, p2, p3⟩ := quad_of hyl hyG
    have hn1 : @Ne Nat (S1.heap.objs.size + 1 + 1 + 1) Dq := off1.1
    have hn2 : @Ne Nat (S1.heap.objs.size + 1 + 1) Dq := off1.2.1
    have hn3 : @Ne Nat (S1.heap.objs.size + 1) Dq := off1.2.2.1
    have N7 : News S1.heap S1.heap.objs.size h6 ((Dq, listOf #[.int q0 t0, .int q1 t1, .int q2 t2, .int q3 t3] 4) :: (S1.heap.objs.size + 1 + 1 + 1, oS) :: (S1.heap.objs.size + 1 + 1, oD) :: (S1.heap.objs.size + 1, oC) :: []) := N6
    clear N6 off1 hyG hyl hcond2
    dsimp only
    repeat ((fail_if_success (with_reducible show wpAny _ _ (exec (Stmt.Assign _ (Expr.ListComp _ _ _ _) _) _) _ _ _)); (first | walk1 | (k_unfold; (try dsimp only)) | (dsimp only; walk1)))
    rename_i tx1 tx2 tx3 tx4 hx1 Fx Nx Dd usd dsd cd hx2 tkx2 ld hId hBd hLd nd1 nd2 nd3 nd4 hx3 oD' dD' tkx Dl usl ls cl hx4 tkx4 ll hIl hBl hLl nl hx5 Fa Na
    refine' LCg.Assign_ListComp_U (F₀ := Fa) ?d1 ?d2 ?d3 ?d4 ?d5 ?d6 ?d7 ?d8 ?d9 ?d10 ?d11
    case d1 => rfl
    case d2 => with_unfolding_all rfl
    case d3 => with_unfolding_all rfl
    case d4 => decide
    case d5 => rfl
    case d6 => decide
    case d7 => rfl
    case d8 => rfl
    case d9 => rfl
    case d11 => intro _; rfl
    repeat ((fail_if_success (with_reducible show LCg.CompSrc _ _ _ _ _ _ _ _ _ _ _ _ _ _)); walk1)
    rename IsRange _ _ _ _ _ _ _ _ => Rh
    rename News _ _ _ _ => Nh
    rename Fr _ _ _ _ => Fh
    have e0 := fm0 (cellAt ns 12 0) (n := 4) (by decide)
    have e1 := fm1 (cellAt ns 12 0) (n := 4) (by decide)
    refine LCg.CompSrc.range rfl Fh Nh Rh (rsmall1 (by omega) (by omega)) (rsize1 _) (by rw [sizeLine_eq]; omega) ?_
    intro gh
    refine compRest_of (n := ((cellAt ns 12 0).fmod 4).toNat) (fun i y => ∃ x t, y = .int x t ∧ Byt x) trivial ?ct2 ?cf2 _ 0 [] (Nat.zero_add _) rfl (fun j y hj => by simp at hj)
    case ct2 =>
      intro i v I oI C oC' D ys m₂ h1 tk1 E' hi1 hP hNs hx F1 N1 off hne
      obtain ⟨tv, rfl⟩ := hP
      repeat ((fail_if_success (with_reducible show Exists _)); (first | walk1 | (dsimp only; walk1)))
      rename News _ _ _ _ => Nz
      rename Fr _ _ _ _ => Fz
      exact ⟨_, _, rfl, Fz, Nz, _, _, rfl, by assumption, by assumption⟩
    case cf2 =>
      intro zs hzl hzG Dt h8 tk8 F8 N8 off8
      obtain ⟨tz, hIt, hBt, hLt⟩ := ints_all (P := Byt) zs hzG
      have hL3 : tz.length ≤ 3 := by omega
      have nt : @Ne Nat (S1.heap.objs.size + 1 + 1 + 1) Dt := off8.2.2.2.1
      have N9 : News S1.heap S1.heap.objs.size h8 ((Dt, listOf (List.toArray zs) zs.length) :: (Dl, listOf (List.toArray usl) cl) :: (Dd, listOf (List.toArray usd) cd) :: (Dq, listOf #[.int q0 t0, .int q1 t1, .int q2 t2, .int q3 t3] 4) :: (S1.heap.objs.size + 1 + 1 + 1, oS) :: (S1.heap.objs.size + 1 + 1, oD') :: (S1.heap.objs.size + 1, oC) :: []) := N8
      clear N8 off8 hzG Fh Nh Rh hzl
      dsimp only
      repeat ((fail_if_success (with_reducible show wpAny _ _ (eval (Expr.ListComp _ _ _ _) _) _ _ _)); (first | (k_unfold; (try dsimp only)) | walk1 | (dsimp only; walk1)))
      rename News _ _ _ _ => Ne'
      rename Fr _ _ _ _ => Fe
      rename_i t9a tk9a hx6 oS' dS' tkx6 hx7 tkx7 t9b hx8
      have hldd : usd.length = dsd.length := hId.length
      refine' LCg.ListComp_U (F₀ := Fe) ?g1 ?g2 ?g3 ?g4 ?g5 ?g6 ?g7
      case g1 => with_unfolding_all rfl
      case g2 => decide
      case g3 => rfl
      case g4 => decide
      case g5 => rfl
      case g7 => intro _; rfl
      repeat ((fail_if_success (with_reducible show LCg.CompSrc _ _ _ _ _ _ _ _ _ _ _ _ _ _)); walk1)
      rename IsRange _ _ _ _ _ _ _ _ => Ri
      rename News _ _ _ _ => Ni
      rename Fr _ _ _ _ => Fi
      refine LCg.CompSrc.range rfl Fi Ni Ri (rsmall1 (by omega) (by omega)) (rsize1 _) (by rw [sizeLine_eq]; omega) ?_
      intro gi
      refine compRest_of (n := ((dsd.length : Int)).toNat) (fun j y => ∃ t, y = .int (((dsd.length : Int) - j) * dsd.getD j 0) t) trivial ?ct3 ?cf3 _ 0 [] (Nat.zero_add _) rfl (fun j y hj => by simp at hj)
      case ct3 =>
        intro j v I oI C oC' D ys m₂ h1 tk1 E' hj hP hNs hx F1 N1 off hne
        obtain ⟨tv, rfl⟩ := hP
        have hj' : j < dsd.length := by omega
        repeat ((fail_if_success (with_reducible show Exists _)); (first | walk1 | (dsimp only; walk1)))
        rename News _ _ _ _ => Nz
        rename Fr _ _ _ _ => Fz
        refine ⟨_, _, rfl, Fz, Nz, ?_⟩
        simp only [Int.zero_add, Int.toNat_natCast]
        exact ⟨_, rfl⟩
      case cf3 =>
        intro ws hwl hwG Dz h9 tk9 F9 N9' off9
        have hws : IntsAre ws ((List.range dsd.length).map fun (k : Nat) => ((dsd.length : Int) - k) * dsd.getD k 0) := ints_of_get hwl hwG
        have hll : usl.length = ls.length := hIl.length
        clear hwG hwl Ri Ni Fi off9
        dsimp only
        repeat ((fail_if_success (with_reducible show wpAny _ _ (exec (Stmt.Assign _ (Expr.BinOp _ _ _ _) _) _) _ _ _)); (first | walk1 | (k_unfold; (try dsimp only)) | (dsimp only; walk1)))
        rename News _ _ _ _ => Nb
        rename Fr _ _ _ _ => Fb
        obtain ⟨A, hA⟩ : ∃ A, A = adA dsd := ⟨_, rfl⟩
        obtain ⟨Bq, hB⟩ : ∃ B, B = adB dsd := ⟨_, rfl⟩
        have eA : (1 + dsd.sum).fmod 65521 = A := hA.symm
        have eB : ((dsd.length : Int) + (List.map (fun (k : Nat) => ((dsd.length : Int) - k) * dsd.getD k 0) (List.range dsd.length)).sum).fmod 65521 = Bq := hB.symm
        rw [eA, eB] at Fb
        have hck : adB dsd * 65536 + adA dsd = Bq * 65536 + A := by rw [hA, hB]
        have hA0 : 0 ≤ A := hA ▸ adA_lo dsd
        have hA1 : A < 65521 := hA ▸ adA_hi dsd
        have hB0 : 0 ≤ Bq := hB ▸ adB_lo dsd
        have hB1 : Bq < 65521 := hB ▸ adB_hi dsd
        clear eA eB hws hA hB
        repeat ((fail_if_success (with_reducible show wpAny _ _ (exec (Stmt.Assign _ (Expr.Subscript _ _ _) _) _) _ _ _)); (first | walk1 | (k_unfold; (try dsimp only)) | (dsimp only; walk1)))
        rename News _ _ _ _ => Nc
        rename Fr _ _ _ _ => Fc
        rename_i L1a hy1 l1a D2a hy2 l1b hy3 tky L1b hy4 l1c D1a hy5 l1d Dw hy6 l1e hy7
        clear l1a l1b l1c l1d l1e
        refine Exists.elim (packM (hs := headOf q0 q1 q2 q3 (dsd.length : Int) A Bq ls) Nc (.head _) (by k_mem : (Dt, listOf (List.toArray zs) zs.length) ∈ _) (by k_mem : (Dl, listOf (List.toArray usl) cl) ∈ _) (by k_mem : (Dd, listOf (List.toArray usd) cd) ∈ _) (by k_mem : (S1.heap.objs.size + 1 + 1 + 1, oS') ∈ _) (by k_mem : (S1.heap.objs.size + 1 + 1, oD') ∈ _) (by k_mem : (S1.heap.objs.size + 1, oC) ∈ _) ?hW) ?_
        case hW =>
          show IntsAre _ ([83, 81] ++ ([q0, q1, q2, q3] ++ [0, 0, (dsd.length : Int).fdiv 256, (dsd.length : Int).fmod 256, Bq.fdiv 256, Bq.fmod 256, A.fdiv 256, A.fmod 256]) ++ ls)
          exact Sq.ints_app (Sq.ints_app (.cons _ _ (.cons _ _ .nil)) (Sq.ints_app (.cons _ _ (.cons _ _ (.cons _ _ (.cons _ _ .nil)))) (.cons _ _ (.cons _ _ (.cons _ _ (.cons _ _ (.cons _ _ (.cons _ _ (.cons _ _ (.cons _ _ .nil)))))))))) hIl
        rintro Z ⟨wv, Nd, mW, mT, mL, mD, mS, mDc, mC, hIw, hlw⟩
        have hn0 : (0 : Int) ≤ (dsd.length : Int) := by omega
        have hn9 : (dsd.length : Int) < 65536 := by omega
        have hHl : (headOf q0 q1 q2 q3 (dsd.length : Int) A Bq ls).length = 271 := by rw [headOf_length]; omega
        have hHe := head_eq (ls := ls) p0 p1 p2 p3 hn0 hn9 hA0 (show A < 65536 by omega) hB0 (show Bq < 65536 by omega)
        have hisb : isB (headOf q0 q1 q2 q3 (dsd.length : Int) A Bq ls) = true := isB_true (headOf_bytes p0 p1 p2 p3 hn0 hn9 hA0 (by omega) hB0 (by omega) hBl)
        have hb1 : 271 ≤ (headOf q0 q1 q2 q3 (dsd.length : Int) A Bq ls ++ tz).length := by rw [List.length_append]; omega
        have hb2 : (headOf q0 q1 q2 q3 (dsd.length : Int) A Bq ls ++ tz).length ≤ 1000 := by rw [List.length_append]; omega
        have hb3 : (headOf q0 q1 q2 q3 (dsd.length : Int) A Bq ls ++ tz).take 2 = [83, 81] := rfl
        have hb4 : ((headOf q0 q1 q2 q3 (dsd.length : Int) A Bq ls ++ tz).drop 14).take 257 = ls := cut_ls hLl
        have hb6 : ∀ x ∈ ls, x ≤ 64 := fun x hx => (hBl x hx).2
        have hb7 : ((headOf q0 q1 q2 q3 (dsd.length : Int) A Bq ls ++ tz).drop 2).take 4 = [q0, q1, q2, q3] := rfl
        have hb8 : ((headOf q0 q1 q2 q3 (dsd.length : Int) A Bq ls ++ tz).drop 6).take 4 = [0, 0, (dsd.length : Int).fdiv 256, (dsd.length : Int).fmod 256] := rfl
        have hb9 : ((headOf q0 q1 q2 q3 (dsd.length : Int) A Bq ls ++ tz).drop 10).take 4 = [Bq.fdiv 256, Bq.fmod 256, A.fdiv 256, A.fmod 256] := rfl
        have ex : q0 * 16777216 + q1 * 65536 + q2 * 256 + q3 = q0 * 16777216 + q1 * 65536 + q2 * 256 + q3 := rfl
        have ey := back_size (dsd.length : Int)
        have ez := back_check A Bq
        have hwl : (q0 :: q1 :: q2 :: q3 :: 0 :: 0 :: (dsd.length : Int).fdiv 256 :: (dsd.length : Int).fmod 256 :: Bq.fdiv 256 :: Bq.fmod 256 :: A.fdiv 256 :: A.fmod 256 :: ls).length = 269 := by simp only [List.length_cons]; omega
        have e18 := fm0 (cellAt ns 18 0) (n := 3) (by decide)
        have e19 := fm1 (cellAt ns 18 0) (n := 3) (by decide)
        have hlz : zs.length ≤ 3 := by omega
        clear Nc hn1 hn2 hn3 nd1 nd2 nd3 nd4 nl nt
        repeat' ((fail_if_success (with_reducible show wpAny _ _ (exec (Stmt.Assign _ (Expr.Compare _ _ _ _) _) _) _ _ _)); (first | walk1 | (k_unfold; (try dsimp only)) | (dsimp only; walk1) | ((with_reducible rename _ ≠ _ => hne); exact absurd rfl hne)))
        rename Fr _ _ _ _ => Fw
        rename News _ _ _ _ => Nv
        repeat ((with_reducible rename _ < _ ∧ _ => lz); clear lz)
        refine Exists.elim (packZ Nv (by k_mem : (Dt, listOf (List.toArray zs) zs.length) ∈ _)) ?_
        rintro Z2 ⟨Nz2, mT2⟩
        clear Nv mT mW mL mD mS mDc mC hIw hlw hHl hHe hisb hb1 hb2 hb3 hb4 hb6 hb7 hb8 hb9 ex ey ez hwl
        refine wide_gen Fw ?_
        clear Fw
        intro wd Fx
        rcases (by omega : (0 ≤ wd ∧ wd ≤ 255) ∨ (wd < 0 ∧ wd ≤ 255) ∨ (0 ≤ wd ∧ 255 < wd)) with hw | hw | hw
        · have hisb2 := isb_tail (ts := tz) hBt hw
          obtain ⟨hw1, hw2⟩ := hw
          repeat ((fail_if_success (with_reducible show wpAny _ _ (exec (Stmt.If _ _ _ _) _) _ _ _)); (first | walk1 | (k_unfold; (try dsimp only)) | (dsimp only; walk1)))
          rename Fr _ _ _ _ => Fy
          have hd1 : decide (0 ≤ wd) = true := decide_eq_true hw1
          have hd2 : decide (wd ≤ 255) = true := decide_eq_true hw2
          (try rw [hd1] at Fy)
          (try rw [hd2] at Fy)
          repeat' (first | walk1 | (dsimp only; walk1) | exact fin _ _ _ _ (by assumption) (by assumption))
        · have hisb2 := isb_not (ts := tz) (wd := wd) (by omega)
          obtain ⟨hw1, hw2⟩ := hw
          repeat ((fail_if_success (with_reducible show wpAny _ _ (exec (Stmt.If _ _ _ _) _) _ _ _)); (first | walk1 | (k_unfold; (try dsimp only)) | (dsimp only; walk1)))
          rename Fr _ _ _ _ => Fy
          have hd1 : decide (0 ≤ wd) = false := decide_eq_false (by omega)
          have hd2 : decide (wd ≤ 255) = true := decide_eq_true hw2
          (try rw [hd1] at Fy)
          (try rw [hd2] at Fy)
          repeat' (first | walk1 | (dsimp only; walk1) | exact fin _ _ _ _ (by assumption) (by assumption))
        · have hisb2 := isb_not (ts := tz) (wd := wd) (by omega)
          obtain ⟨hw1, hw2⟩ := hw
          repeat ((fail_if_success (with_reducible show wpAny _ _ (exec (Stmt.If _ _ _ _) _) _ _ _)); (first | walk1 | (k_unfold; (try dsimp only)) | (dsimp only; walk1)))
          rename Fr _ _ _ _ => Fy
          have hd1 : decide (0 ≤ wd) = true := decide_eq_true hw1
          have hd2 : decide (wd ≤ 255) = false := decide_eq_false (by omega)
          (try rw [hd1] at Fy)
          (try rw [hd2] at Fy)
          repeat' (first | walk1 | (dsimp only; walk1) | exact fin _ _ _ _ (by assumption) (by assumption)))
end S104
end
theorem PySem.Challenge.cw_pd_squeeze_1_04_holds : PySem.Challenge.rw_pd_squeeze_1_04.Holds :=
  S104.main
#print axioms PySem.Challenge.cw_pd_squeeze_1_04_holds
