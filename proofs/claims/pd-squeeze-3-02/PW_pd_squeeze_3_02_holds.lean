import PyProof.Rows.All
import Wide.All
import OpenK.AllK
import Wide.FinOn
import PySem.Challenge.RW_pd_squeeze_3_02
set_option Elab.async false
set_option maxRecDepth 100000
set_option maxHeartbeats 8000000
set_option linter.unusedVariables false
-- SqPure
namespace Sq
/-- a token: kind, value, length -/
abbrev Tk := Int × Int × Int
def tokStep (size : Int) (t : Tk) : Option Int :=
  if t.1 = 0 then (if t.2.1 < 0 ∨ t.2.1 > 255 ∨ t.2.2 ≠ 0 then none else some (size + 1))
  else if t.1 = 1 then
    (if t.2.1 < 1 ∨ t.2.1 > size ∨ t.2.1 > 65535 then none
     else if t.2.2 < 4 ∨ t.2.2 > 255 then none else some (size + t.2.2))
  else none
def tokRun : Int → List Tk → Option Int
  | n, [] => some n
  | n, t :: r => match tokStep n t with
    | none => none
    | some k => tokRun k r
def tokOk (ts : List Tk) : Bool := (tokRun 0 ts).isSome
theorem tokRun_append (n : Int) (a b : List Tk) : tokRun n (a ++ b) = (tokRun n a).bind fun k => tokRun k b := by
  induction a generalizing n with
  | nil => rfl
  | cons t r ih =>
    simp only [List.cons_append, tokRun]
    cases tokStep n t with
    | none => rfl
    | some k => exact ih k
/-- one byte more, `d` places back -/
def back1 (d : Int) (xs : List Int) : List Int := xs ++ [xs.getD (xs.length - d.toNat) 0]
def copyN (d : Int) : Nat → List Int → List Int
  | 0, xs => xs
  | n + 1, xs => copyN d n (back1 d xs)
def expStep (xs : List Int) (t : Tk) : List Int := if t.1 = 0 then xs ++ [t.2.1] else copyN t.2.1 t.2.2.toNat xs
def expand (ts : List Tk) : List Int := ts.foldl expStep []
theorem expand_append (a : List Tk) (t : Tk) : expand (a ++ [t]) = expStep (expand a) t := by simp [expand]
theorem copyN_length (d : Int) (n : Nat) (xs : List Int) : (copyN d n xs).length = xs.length + n := by
  induction n generalizing xs with
  | zero => rfl
  | succ n ih => simp only [copyN, ih, back1, List.length_append, List.length_singleton]; omega
theorem copyN_succ (d : Int) (n : Nat) (xs : List Int) : copyN d (n + 1) xs = back1 d (copyN d n xs) := by
  induction n generalizing xs with
  | zero => rfl
  | succ n ih => rw [copyN, ih]; rfl
/-- what a copy by its period gives -/
def period (d : Int) (n : Nat) (xs : List Int) : List Int := (List.range n).map fun k => xs.getD (xs.length - d.toNat + k % d.toNat) 0
theorem copyN_period (d : Int) (n : Nat) (xs : List Int) (h1 : 1 ≤ d) (h2 : d ≤ xs.length) : copyN d n xs = xs ++ period d n xs := by
  induction n with
  | zero => simp [copyN, period]
  | succ n ih =>
    rw [copyN_succ, ih, back1]
    have hl : (xs ++ period d n xs).length = xs.length + n := by simp [period]
    rw [hl]
    have e : (xs ++ period d n xs).getD (xs.length + n - d.toNat) 0 = xs.getD (xs.length - d.toNat + n % d.toNat) 0 := by
      obtain ⟨D, rfl⟩ := Int.eq_ofNat_of_zero_le (show 0 ≤ d by omega)
      simp only [Int.toNat_natCast] at *
      have hD : 1 ≤ D := by omega
      have hD2 : D ≤ xs.length := by omega
      by_cases hn : n < D
      · have e1 : n % D = n := Nat.mod_eq_of_lt hn
        rw [e1]
        rw [List.getD_eq_getElem?_getD, List.getD_eq_getElem?_getD, List.getElem?_append_left (by omega)]
        congr 2; omega
      · have e2 : xs.length + n - D = xs.length + (n - D) := by omega
        rw [e2, List.getD_eq_getElem?_getD, List.getElem?_append_right (by omega), ← List.getD_eq_getElem?_getD]
        have e3 : xs.length + (n - D) - xs.length = n - D := by omega
        rw [e3]
        have hlt : n - D < n := by omega
        simp only [period, List.getD_eq_getElem?_getD, Int.toNat_natCast]
        rw [List.getElem?_map, List.getElem?_range hlt]
        simp only [Option.map_some, Option.getD_some]
        have e4 : n % D = (n - D) % D := by
          conv => lhs; rw [show n = (n - D) + D by omega, Nat.add_mod_right]
        rw [e4]
    rw [e, List.append_assoc]
    congr 1
    simp [period, List.range_succ]
theorem tokStep_len {xs : List Int} {t : Tk} {k : Int} (h : tokStep xs.length t = some k) : ((expStep xs t).length : Int) = k := by
  unfold tokStep at h
  unfold expStep
  split at h
  · rename_i h0
    rw [if_pos h0]
    split at h
    · cases h
    · simp at h; simp; omega
  · rename_i h0
    rw [if_neg h0]
    split at h
    · split at h
      · cases h
      · split at h
        · cases h
        · rw [copyN_length]; simp at h; omega
    · cases h
theorem foldl_len {ts : List Tk} : ∀ {xs : List Int} {k : Int}, tokRun xs.length ts = some k → ((ts.foldl expStep xs).length : Int) = k := by
  induction ts with
  | nil => intro xs k h; simp only [tokRun, Option.some.injEq] at h; exact h
  | cons t r ih =>
    intro xs k h
    simp only [tokRun] at h
    cases hs : tokStep xs.length t with
    | none => rw [hs] at h; cases h
    | some j =>
      rw [hs] at h
      have := tokStep_len hs
      rw [← this] at h
      exact ih h
theorem expand_len {ts : List Tk} {k : Int} (h : tokRun 0 ts = some k) : ((expand ts).length : Int) = k := foldl_len (xs := []) h
end Sq
-- SqPure4
namespace Sq
def toks4 (s0 s1 s2 b d n : Int) (k : Nat) : List Tk := (s0, b, s1) :: (List.replicate k (1, 1, 255) ++ [(s2, d, n)])
def due4 (s0 s1 s2 b size d n : Int) : Bool :=
  if ¬ (s0 = 0 ∧ s1 = 0 ∧ s2 = 1) then false
  else if b < 0 ∨ b > 255 then false
  else if d < 1 ∨ d > min size 65535 then false
  else if n < 4 ∨ n > 255 then false else true
theorem three_eq {a b c x y z : Int} (h : [a, b, c] = [x, y, z]) : a = x ∧ b = y ∧ c = z := by simpa using h
theorem three_ne {a b c x y z : Int} (h : ¬ [a, b, c] = [x, y, z]) : ¬ (a = x ∧ b = y ∧ c = z) := fun q => h (by rw [q.1, q.2.1, q.2.2])
theorem due4_f {s0 s1 s2 b z d n : Int} (h : ¬ (s0 = 0 ∧ s1 = 0 ∧ s2 = 1) ∨ b < 0 ∨ b > 255 ∨ d < 1 ∨ d > z ∨ d > 65535 ∨ n < 4 ∨ n > 255) : due4 s0 s1 s2 b z d n = false := by
  unfold due4
  (repeat' split) <;> first | rfl | omega
theorem due4_t {s0 s1 s2 b z d n : Int} (h : (s0 = 0 ∧ s1 = 0 ∧ s2 = 1) ∧ 0 ≤ b ∧ b ≤ 255 ∧ 1 ≤ d ∧ d ≤ z ∧ d ≤ 65535 ∧ 4 ≤ n ∧ n ≤ 255) : due4 s0 s1 s2 b z d n = true := by
  unfold due4
  (repeat' split) <;> first | rfl | omega
theorem due4_facts {s0 s1 s2 b z d n : Int} (h : due4 s0 s1 s2 b z d n = true) : (s0 = 0 ∧ s1 = 0 ∧ s2 = 1) ∧ 0 ≤ b ∧ b ≤ 255 ∧ 1 ≤ d ∧ d ≤ z ∧ d ≤ 65535 ∧ 4 ≤ n ∧ n ≤ 255 := by
  refine Decidable.byContradiction fun q => ?_
  rw [due4_f (by omega)] at h
  cases h
theorem tokRun_rep (k : Nat) (n : Int) (h : 1 ≤ n) (r : List Tk) : tokRun n (List.replicate k (1, 1, 255) ++ r) = tokRun (n + 255 * k) r := by
  induction k generalizing n with
  | zero => simp
  | succ k ih =>
    rw [List.replicate_succ, List.cons_append, tokRun]
    have e : tokStep n (1, 1, 255) = some (n + 255) := by
      unfold tokStep
      rw [if_neg (by decide), if_pos rfl, if_neg (by simp only; omega), if_neg (by decide)]
    rw [e]
    simp only
    rw [ih (n + 255) (by omega)]
    congr 1; omega
theorem tokRun_one (n : Int) (t : Tk) : tokRun n [t] = tokStep n t := by
  simp only [tokRun]
  cases tokStep n t <;> rfl
theorem tokStep_lit (n b l : Int) : tokStep n (0, b, l) = if b < 0 ∨ b > 255 ∨ l ≠ 0 then none else some (n + 1) := rfl
theorem tokStep_copy (n d l : Int) : tokStep n (1, d, l) = if d < 1 ∨ d > n ∨ d > 65535 then none else if l < 4 ∨ l > 255 then none else some (n + l) := rfl
theorem tokStep_else (n k d l : Int) (h0 : k ≠ 0) (h1 : k ≠ 1) : tokStep n (k, d, l) = none := by
  unfold tokStep; rw [if_neg h0, if_neg h1]
theorem tokStep_zero (k d l : Int) (h0 : k ≠ 0) : tokStep 0 (k, d, l) = none := by
  by_cases h1 : k = 1
  · subst h1; rw [tokStep_copy, if_pos (by omega)]
  · exact tokStep_else _ _ _ _ h0 h1
theorem tokOk4 (s0 s1 s2 b d n : Int) (k : Nat) (h2 : s2 ≠ 0) : tokOk (toks4 s0 s1 s2 b d n k) = due4 s0 s1 s2 b (1 + 255 * k) d n := by
  unfold tokOk toks4 due4
  rw [tokRun]
  by_cases h0 : s0 = 0
  · subst h0
    rw [tokStep_lit]
    by_cases hb : b < 0 ∨ b > 255 ∨ s1 ≠ 0
    · rw [if_pos hb]
      dsimp only [Option.isSome]
      split
      · rfl
      · split
        · rfl
        · omega
    · rw [if_neg hb]
      dsimp only
      rw [tokRun_rep k _ (by omega), tokRun_one]
      by_cases h21 : s2 = 1
      · subst h21
        rw [tokStep_copy]
        rw [if_neg (show ¬ ¬ ((0 : Int) = 0 ∧ s1 = 0 ∧ (1 : Int) = 1) by omega)]
        rw [if_neg (show ¬ (b < 0 ∨ b > 255) by omega)]
        by_cases hd : d < 1 ∨ d > min (1 + 255 * (k : Int)) 65535
        · rw [if_pos hd, if_pos (by omega)]; rfl
        · rw [if_neg hd, if_neg (by omega)]
          by_cases hn : n < 4 ∨ n > 255
          · rw [if_pos hn, if_pos hn]; rfl
          · rw [if_neg hn, if_neg hn]; rfl
      · rw [tokStep_else _ _ _ _ h2 h21, if_pos (by omega)]; rfl
  · rw [tokStep_zero _ _ _ h0, if_pos (by omega)]; rfl
theorem copyN_rep (b d : Int) (n m : Nat) (h1 : 1 ≤ d) (h2 : d ≤ m) : copyN d n (List.replicate m b) = List.replicate (m + n) b := by
  induction n generalizing m with
  | zero => rfl
  | succ n ih =>
    rw [copyN]
    have e : back1 d (List.replicate m b) = List.replicate (m + 1) b := by
      unfold back1
      have e1 : (List.replicate m b).getD ((List.replicate m b).length - d.toNat) 0 = b := by
        rw [List.length_replicate, List.getD_eq_getElem?_getD, List.getElem?_replicate, if_pos (by omega)]; rfl
      rw [e1, List.replicate_succ']
    rw [e, ih (m + 1) (by omega)]
    congr 1; omega
theorem expStep_copy (xs : List Int) (d l : Int) : expStep xs (1, d, l) = copyN d l.toNat xs := if_neg (show ¬ (1 : Int) = 0 by omega)
theorem expStep_lit (xs : List Int) (b l : Int) : expStep xs (0, b, l) = xs ++ [b] := if_pos rfl
theorem expand4 (b d n : Int) (k : Nat) (s0 s1 s2 : Int) (h : due4 s0 s1 s2 b (1 + 255 * k) d n = true) : expand (toks4 s0 s1 s2 b d n k) = List.replicate (1 + 255 * (k : Int) + n).toNat b := by
  unfold due4 at h
  split at h
  · cases h
  · rename_i hs
    simp only [Decidable.not_not] at hs
    obtain ⟨rfl, rfl, rfl⟩ := hs
    split at h
    · cases h
    · split at h
      · cases h
      · rename_i hd
        split at h
        · cases h
        · rename_i hn
          unfold expand toks4
          have r : ∀ (k m : Nat), 1 ≤ m → (List.replicate k ((1, 1, 255) : Tk)).foldl expStep (List.replicate m b) = List.replicate (m + 255 * k) b := by
            intro k
            induction k with
            | zero => intro m _; rfl
            | succ k ih =>
              intro m hm
              rw [List.replicate_succ, List.foldl_cons]
              have e : expStep (List.replicate m b) (1, 1, 255) = List.replicate (m + 255) b := by
                rw [expStep_copy]
                exact copyN_rep b 1 (255 : Int).toNat m (by omega) (by omega)
              rw [e, ih (m + 255) (by omega), show m + 255 + 255 * k = m + 255 * (k + 1) by omega]
          rw [List.foldl_cons, List.foldl_append]
          have e0 : expStep [] (0, b, 0) = List.replicate 1 b := rfl
          rw [e0, r k 1 (by omega)]
          simp only [List.foldl_cons, List.foldl_nil]
          rw [expStep_copy, copyN_rep b d n.toNat (1 + 255 * k) (by omega) (by omega)]
          congr 1; omega
theorem toks4_eq (s0 s1 s2 b d n : Int) (k : Nat) : [(s0, b, s1)] ++ List.replicate k ((1, 1, 255) : Tk) ++ [(s2, d, n)] = toks4 s0 s1 s2 b d n k := by simp [toks4]
theorem tokOk4' (s0 s1 s2 b d n : Int) (k : Nat) (h2 : s2 ≠ 0) : tokOk ([(s0, b, s1)] ++ List.replicate k ((1, 1, 255) : Tk) ++ [(s2, d, n)]) = due4 s0 s1 s2 b (1 + 255 * k) d n := by rw [toks4_eq]; exact tokOk4 _ _ _ _ _ _ _ h2
theorem expand4' (b d n : Int) (k : Nat) (s0 s1 s2 : Int) (h : due4 s0 s1 s2 b (1 + 255 * k) d n = true) : expand ([(s0, b, s1)] ++ List.replicate k ((1, 1, 255) : Tk) ++ [(s2, d, n)]) = List.replicate (1 + 255 * (k : Int) + n).toNat b := by rw [toks4_eq]; exact expand4 _ _ _ _ _ _ _ h
end Sq
-- SqGood
namespace Sq
/-- the tokens are lawful and give these bytes -/
def Good (ts : List Tk) (ds : List Int) : Prop := tokRun 0 ts = some (ds.length : Int) ∧ expand ts = ds
theorem good_nil : Good [] [] := ⟨rfl, rfl⟩
theorem good_step {ts : List Tk} {ds es : List Int} {t : Tk} (h : Good ts ds) (hs : tokStep ds.length t = some (es.length : Int)) (he : expStep ds t = es) : Good (ts ++ [t]) es := by
  refine ⟨?_, ?_⟩
  · rw [tokRun_append, h.1]
    simp only [Option.bind_some, tokRun, hs]
  · rw [expand_append, h.2, he]
theorem good_lit {ts : List Tk} {ds : List Int} {b : Int} (h : Good ts ds) (h0 : 0 ≤ b) (h1 : b ≤ 255) : Good (ts ++ [(0, b, 0)]) (ds ++ [b]) := by
  refine good_step h ?_ (if_pos rfl)
  unfold tokStep
  rw [if_pos rfl, if_neg (by simp only; omega)]
  simp
theorem period_length (d : Int) (n : Nat) (xs : List Int) : (period d n xs).length = n := by simp [period]
theorem good_copy {ts : List Tk} {ds : List Int} {d n : Int} (h : Good ts ds) (h0 : 1 ≤ d) (h1 : d ≤ ds.length) (h2 : d ≤ 65535) (h3 : 4 ≤ n) (h4 : n ≤ 255) :
    Good (ts ++ [(1, d, n)]) (ds ++ period d n.toNat ds) := by
  refine good_step h ?_ ?_
  · unfold tokStep
    rw [if_neg (by simp only; omega), if_pos rfl, if_neg (by simp only; omega), if_neg (by simp only; omega)]
    simp only [List.length_append, period_length]
    congr 1
    omega
  · unfold expStep
    rw [if_neg (by simp only; omega)]
    exact copyN_period d n.toNat ds h0 h1
theorem good_ok {ts : List Tk} {ds : List Int} (h : Good ts ds) : tokOk ts = true := by unfold tokOk; rw [h.1]; rfl
theorem good_bad {ts : List Tk} {ds : List Int} {t : Tk} (r : List Tk) (h : Good ts ds) (ht : tokStep ds.length t = none) : tokOk (ts ++ [t] ++ r) = false := by
  unfold tokOk
  rw [List.append_assoc, tokRun_append, h.1]
  simp only [Option.bind_some, List.singleton_append, tokRun, ht]
  rfl
theorem good_bad0 {ts : List Tk} {ds : List Int} {t : Tk} (h : Good ts ds) (ht : tokStep ds.length t = none) : tokOk (ts ++ [t]) = false := by
  have := good_bad [] h ht
  rwa [List.append_nil] at this
theorem good_lits {ts : List Tk} {ds : List Int} (bs : List Int) (h : Good ts ds) (hb : ∀ b ∈ bs, 0 ≤ b ∧ b ≤ 255) : Good (ts ++ bs.map fun b => (0, b, 0)) (ds ++ bs) := by
  induction bs generalizing ts ds with
  | nil => simpa using h
  | cons b r ih =>
    have h1 := good_lit h (hb b (.head _)).1 (hb b (.head _)).2
    have h2 := ih h1 fun x hx => hb x (.tail _ hx)
    simpa using h2
end Sq
-- SqLoop
section
open PySem PySem.W PyProof.Rows PySem.Calls PySem.Spec
namespace Sq
/-- a tuple of three ints in the ledger -/
abbrev tup3 (k v l : Int) (t0 t1 t2 : Tok) (n : Nat) : Obj := { cls := .type "tuple", data := .seq #[.int k t0, .int v t1, .int l t2] n }
inductive ToksIn (news : List (Addr × Obj)) : List Value → List Tk → Prop
  | nil : ToksIn news [] []
  | cons {a : Addr} {k v l : Int} {t0 t1 t2 : Tok} {n : Nat} {vs : List Value} {ts : List Tk} : (a, tup3 k v l t0 t1 t2 n) ∈ news → ToksIn news vs ts → ToksIn news (.ref a :: vs) ((k, v, l) :: ts)
theorem ToksIn.mono {news news' : List (Addr × Obj)} {vs : List Value} {ts : List Tk} (h : ToksIn news vs ts) (hs : ∀ p ∈ news, p ∈ news') : ToksIn news' vs ts := by
  induction h with
  | nil => exact .nil
  | cons h _ ih => exact .cons (hs _ h) ih
theorem ToksIn.length {news : List (Addr × Obj)} {vs : List Value} {ts : List Tk} (h : ToksIn news vs ts) : vs.length = ts.length := by
  induction h with
  | nil => rfl
  | cons _ _ ih => simp [ih]
theorem ToksIn.append {news : List (Addr × Obj)} {vs ws : List Value} {ts us : List Tk} (h : ToksIn news vs ts) (k : ToksIn news ws us) : ToksIn news (vs ++ ws) (ts ++ us) := by
  induction h with
  | nil => exact k
  | cons h _ ih => exact .cons h ih
theorem ToksIn.get {news : List (Addr × Obj)} {vs : List Value} {ts : List Tk} (h : ToksIn news vs ts) {i : Nat} {x : Value} (hx : vs[i]? = some x) :
    ∃ a k v l t0 t1 t2 n, x = .ref a ∧ ts[i]? = some (k, v, l) ∧ (a, tup3 k v l t0 t1 t2 n) ∈ news := by
  induction h generalizing i with
  | nil => simp at hx
  | cons h _ ih =>
    cases i with
    | zero => simp at hx; subst hx; exact ⟨_, _, _, _, _, _, _, _, rfl, rfl, h⟩
    | succ i => exact ih (by simpa using hx)
theorem tokStep_no {sz k v l : Int} (h : ¬ ((k = 0 ∧ 0 ≤ v ∧ v ≤ 255 ∧ l = 0) ∨ (k = 1 ∧ 1 ≤ v ∧ v ≤ sz ∧ v ≤ 65535 ∧ 4 ≤ l ∧ l ≤ 255))) : tokStep sz (k, v, l) = none := by
  unfold tokStep
  simp only
  (repeat' split) <;> first | rfl | omega
theorem tokStep_l {sz k v l : Int} (h : k = 0 ∧ 0 ≤ v ∧ v ≤ 255 ∧ l = 0) : tokStep sz (k, v, l) = some (sz + 1) := by
  unfold tokStep
  simp only
  (repeat' split) <;> first | rfl | omega
theorem tokStep_c {sz k v l : Int} (h : k = 1 ∧ 1 ≤ v ∧ v ≤ sz ∧ v ≤ 65535 ∧ 4 ≤ l ∧ l ≤ 255) : tokStep sz (k, v, l) = some (sz + l) := by
  unfold tokStep
  simp only
  (repeat' split) <;> first | rfl | omega
theorem take_next {α : Type} {ts : List α} {i : Nat} {t : α} (h : ts[i]? = some t) : ts.take (i + 1) = ts.take i ++ [t] := by simp [List.take_add_one, h]
theorem tok_next {ts : List Tk} {i : Nat} {t : Tk} {sz sz' : Int} (hr : tokRun 0 (ts.take i) = some sz) (ht : ts[i]? = some t) (hs : tokStep sz t = some sz') : tokRun 0 (ts.take (i + 1)) = some sz' := by
  rw [take_next ht, tokRun_append, hr]
  simp only [Option.bind_some, tokRun, hs]
theorem tok_bad {ts : List Tk} {i : Nat} {t : Tk} {sz : Int} (hr : tokRun 0 (ts.take i) = some sz) (ht : ts[i]? = some t) (hs : tokStep sz t = none) : tokOk ts = false := by
  have e : ts = ts.take i ++ t :: ts.drop (i + 1) := by
    have h := List.take_append_drop (i + 1) ts
    rw [take_next ht, List.append_assoc] at h
    exact h.symm
  unfold tokOk
  rw [e, tokRun_append, hr]
  simp only [Option.bind_some, tokRun, hs]
  rfl
theorem tok_all {ts : List Tk} {n : Nat} {sz : Int} (hr : tokRun 0 (ts.take n) = some sz) (hn : n = ts.length) : tokOk ts = true := by
  subst hn
  rw [List.take_length] at hr
  unfold tokOk
  rw [hr]
  rfl
theorem tok_at {ts : List Tk} {i : Nat} {k v l : Int} (hok : tokOk ts = true) (ht : ts[i]? = some (k, v, l)) :
    (k = 0 ∧ 0 ≤ v ∧ v ≤ 255 ∧ l = 0) ∨ (k = 1 ∧ 1 ≤ v ∧ v ≤ ((expand (ts.take i)).length : Int) ∧ v ≤ 65535 ∧ 4 ≤ l ∧ l ≤ 255) := by
  have e : ts = ts.take i ++ (k, v, l) :: ts.drop (i + 1) := by
    have h := List.take_append_drop (i + 1) ts
    rw [take_next ht, List.append_assoc] at h
    exact h.symm
  unfold tokOk at hok
  rw [e, tokRun_append] at hok
  cases hr : tokRun 0 (ts.take i) with
  | none => rw [hr] at hok; cases hok
  | some sz =>
    rw [hr] at hok
    have hl := expand_len hr
    simp only [Option.bind_some, tokRun] at hok
    rw [hl]
    refine Decidable.byContradiction fun hn => ?_
    rw [tokStep_no hn] at hok
    cases hok
theorem expand_next {ts : List Tk} {i : Nat} {t : Tk} (ht : ts[i]? = some t) : expand (ts.take (i + 1)) = expStep (expand (ts.take i)) t := by
  rw [take_next ht, expand_append]
theorem ints_snoc {vs : List Value} {ns : List Int} (h : IntsAre vs ns) (n : Int) (t : Tok) : IntsAre (vs ++ [.int n t]) (ns ++ [n]) := by
  induction h with
  | nil => exact .cons n t .nil
  | cons m u _ ih => exact .cons m u ih
theorem tokStep_le {n k : Int} {t : Tk} (h : tokStep n t = some k) : k ≤ n + 255 := by
  unfold tokStep at h
  (repeat' split at h) <;> first | (cases h; done) | (simp only [Option.some.injEq] at h; omega)
theorem tokRun_le {ts : List Tk} : ∀ {n k : Int}, tokRun n ts = some k → k ≤ n + 255 * ts.length := by
  induction ts with
  | nil => intro n k h; simp only [tokRun, Option.some.injEq] at h; simp; omega
  | cons t r ih =>
    intro n k h
    simp only [tokRun] at h
    cases hs : tokStep n t with
    | none => rw [hs] at h; cases h
    | some j =>
      rw [hs] at h
      have h1 := tokStep_le hs
      have h2 := ih h
      rw [List.length_cons]
      push_cast
      omega
theorem expand_le {ts : List Tk} (hok : tokOk ts = true) (i : Nat) : (expand (ts.take i)).length ≤ 255 * ts.length := by
  unfold tokOk at hok
  have e : ts = ts.take i ++ ts.drop i := (List.take_append_drop i ts).symm
  rw [e, tokRun_append] at hok
  cases hr : tokRun 0 (ts.take i) with
  | none => rw [hr] at hok; cases hok
  | some sz =>
    have h1 := expand_len hr
    have h2 := tokRun_le hr
    have h3 : (ts.take i).length ≤ ts.length := by rw [List.length_take]; omega
    omega
theorem map_at {m : Str → Option Value} {x : Str} {v : Value} (h : m x = some v) : m = fun y => if y = x then some v else m y := funext fun y => by
  by_cases hy : y = x
  · rw [if_pos hy, hy, h]
  · rw [if_neg hy]
theorem list_end {us : List Value} {x : Value} : us.toArray.push x = (us ++ [x]).toArray := by simp
theorem back_get {xs : List Int} {d : Int} (h1 : 1 ≤ d) (h2 : d ≤ xs.length) : xs.getD (((xs.length : Int) - d).toNat) 0 = xs.getD (xs.length - d.toNat) 0 := by
  congr 1; omega
theorem rsize1 (b : Int) : Builtin.Range.rangeSize 0 b 1 = (b.toNat : Int) := by
  rw [rangeSize_one]; split <;> omega
theorem rsmall1 {b : Int} (hb : -(2 ^ 62) ≤ b) (hb' : b < 2 ^ 62) : Builtin.Range.small 0 b 1 = true := by
  unfold Builtin.Range.small
  rw [rangeSize_one]
  simp only [Builtin.Range.rangeFitsLong, Bool.and_eq_true, Bool.or_eq_true, decide_eq_true_eq, beq_iff_eq, show ((1 : Int) > 0) by decide, if_true]
  split <;> omega
theorem fin_bool {h₀ h : Heap} {L : Addr} {m : Str → Option Value} {news all : List (Addr × Obj)} {s : Shared} {Q : Value → Shared → Prop} {b c : Bool} {tk : Nat}
    (hret : ∀ h' tk', Fr h₀ L h' m → News h₀ L h' news → Q (.bool b) { s with heap := h', toks := tk' }) (hb : b = c) (F : Fr h₀ L h m) (N : News h₀ L h all) (hs : ∀ p ∈ news, p ∈ all) :
    Q (.bool c) { s with heap := h, toks := tk } := hb ▸ hret h tk F fun p hp => N p (hs p hp)
section
variable {prog : Program} {w : World} {A : Around} {E : Value → Shared → Prop} {s : Shared} {env : Env} {h₀ : Heap} {body : List Stmt} {Q : Flow → Shared → Prop}
/-- the map behind a turn's three stores -/
abbrev set3 (x0 x1 x2 : Str) (v0 v1 v2 : Value) (m : Str → Option Value) : Str → Option Value :=
  fun y => if y = x2 then some v2 else if y = x1 then some v1 else if y = x0 then some v0 else m y
abbrev TurnPost (h₀ : Heap) (L : Addr) (own : List (Addr × Obj)) (news₁ : List (Addr × Obj)) (Jn : (Str → Option Value) → List (Addr × Obj) → Prop) (s₁ : Shared) (Q : Flow → Shared → Prop) : Flow → Shared → Prop :=
  LoopStep3 h₀ L own news₁ Jn s₁ (fun v s' => Q (.ret v) s') fun s' => Q .next s'

theorem unr_trip {x0 x1 x2 : Str} {p0 p1 p2 pt : Pos} {xk : Nat} {vs : List Value} {ts : List Tk} {cst : List (Addr × Obj)} {fp : List Addr} {s₀ : Shared}
    (hh : A.handled = none) (hx0 : env.kindOf x0 = some .local) (hx1 : env.kindOf x1 = some .local) (hx2 : env.kindOf x2 = some .local)
    (hp : (env.scope.kind == .class || (env.scope.kind == .module && env.locals != env.globals)) = false)
    (hT : ToksIn cst vs ts) (J : Nat → (Str → Option Value) → List (Addr × Obj) → Prop) (hc : ∀ i m₁ n₁, J i m₁ n₁ → ∀ p ∈ cst, p ∈ n₁)
    (turn : ∀ i k v l t0 t1 t2 m₁ news₁ h tk own, ts[i]? = some (k, v, l) → J i m₁ news₁ → (∀ p ∈ own, p.1 ∈ fp) →
      Fr h₀ env.locals h (set3 x0 x1 x2 (.int k t0) (.int v t1) (.int l t2) m₁) → News h₀ env.locals h (own ++ news₁) →
      wpAny (model prog w) A (execs body env) (TurnPost h₀ env.locals own news₁ (J (i + 1)) { s₀ with heap := h, toks := tk } Q) E { s₀ with heap := h, toks := tk })
    (done : ∀ m₁ news₁ h tk, J vs.length m₁ news₁ → Fr h₀ env.locals h m₁ → News h₀ env.locals h news₁ → Q .next { s₀ with heap := h, toks := tk }) :
    ∀ (j i : Nat) (m₁ : Str → Option Value) (news₁ : List (Addr × Obj)), i + j = vs.length → J i m₁ news₁ →
      Unr prog w A E h₀ env (.Tuple [.Name x0 p0, .Name x1 p1, .Name x2 p2] xk pt) body Q (fun i v => vs.toArray[i]? = some v) fp s₀ j i m₁ news₁ := by
  intro j
  induction j with
  | zero =>
    intro i m₁ news₁ hi hJ h' tk F N
    rw [Nat.add_zero] at hi
    subst hi
    exact done m₁ news₁ h' tk hJ F N
  | succ j ih =>
    intro i m₁ news₁ hi hJ x h₁ tk₁ own hP hown F N
    have hx : vs[i]? = some x := by simpa using hP
    obtain ⟨a, k, v, l, t0, t1, t2, n, rfl, hts, hm⟩ := hT.get hx
    have hmem : (a, tup3 k v l t0 t1 t2 n) ∈ own ++ news₁ := List.mem_append_right _ (hc i m₁ news₁ hJ _ hm)
    have ht : h₁.IsTuple a #[.int k t0, .int v t1, .int l t2] := News.isTup N hmem
    refine wpAny_assign_Tuple hh ht rfl rfl fun h₂ hx₂ => ?_
    replace hx₂ : Heap.ExtBut h₁.objs.size h₁ h₂ := hx₂
    have up₂ : ∀ b o, h₁.get? b = some o → h₂.get? b = some o := fun b o q => hx₂ b o (Nat.ne_of_lt (Heap.lt_size q)) q
    have F₂ : Fr h₀ env.locals h₂ m₁ := ⟨F.ns.at' fun o e => up₂ _ o e, fun b o e => up₂ b o (F.keep b o e), F.above⟩
    have N₂ : News h₀ env.locals h₂ (own ++ news₁) := N.grown up₂
    show wpAny _ A (do holding [.int v t1, .int l t2] (assign (.Name x0 p0) env (.int k t0)); do holding [.int l t2] (assign (.Name x1 p1) env (.int v t1)); do holding [] (assign (.Name x2 p2) env (.int l t2)); pure ()) _ _ _
    refine wpAny_bind (wpAny_holding (wpAny_assign_Name (wpAny_storeName_local hx0 F₂.ns (fun h₃ hn₃ hs₃ => ?_) hp)))
    replace hs₃ : Heap.SameBut env.locals h₂ h₃ := hs₃
    have F₃ := F₂.set hn₃ hs₃
    refine wpAny_bind (wpAny_holding (wpAny_assign_Name (wpAny_storeName_local hx1 F₃.ns (fun h₄ hn₄ hs₄ => ?_) hp)))
    replace hs₄ : Heap.SameBut env.locals h₃ h₄ := hs₄
    have F₄ := F₃.set hn₄ hs₄
    refine wpAny_bind (wpAny_holding (wpAny_assign_Name (wpAny_storeName_local hx2 F₄.ns (fun h₅ hn₅ hs₅ => wpAny_pure ?_) hp)))
    replace hs₅ : Heap.SameBut env.locals h₄ h₅ := hs₅
    have F₅ := F₄.set hn₅ hs₅
    have N₅ : News h₀ env.locals h₅ (own ++ news₁) := ((N₂.set hs₃).set hs₄).set hs₅
    refine wpAny_mono (turn i k v l t0 t1 t2 m₁ news₁ h₅ _ own hts hJ hown F₅ N₅) (fun f s₃ q => ?_) fun _ _ e => e
    cases f with
    | ret v => exact q
    | brk => exact q
    | cont =>
      obtain ⟨e0, h', tk', m₂, n₂, e, F', N', ha, hJ'⟩ := q
      exact ⟨e0, h', tk', m₂, n₂, e, F', N', ha, ih (i + 1) m₂ n₂ (by omega) hJ'⟩
    | next =>
      obtain ⟨e0, h', tk', m₂, n₂, e, F', N', ha, hJ'⟩ := q
      exact ⟨e0, h', tk', m₂, n₂, e, F', N', ha, ih (i + 1) m₂ n₂ (by omega) hJ'⟩

theorem For_trip {x0 x1 x2 sn : Str} {p0 p1 p2 pt ps pos : Pos} {xk : Nat} {vs : List Value} {ts : List Tk} {cst news : List (Addr × Obj)} {m : Str → Option Value} {l : Addr} {nn : Nat}
    (hh : A.handled = none) (F : Fr h₀ env.locals s.heap m) (N : News h₀ env.locals s.heap news) (hl : (l, listOf vs.toArray nn) ∈ news)
    (hload : ∀ Q' : Value → Shared → Prop, Q' (.ref l) s → wpAny (model prog w) A (eval (.Name sn ps) env) Q' E s)
    (hx0 : env.kindOf x0 = some .local) (hx1 : env.kindOf x1 = some .local) (hx2 : env.kindOf x2 = some .local)
    (hp : (env.scope.kind == .class || (env.scope.kind == .module && env.locals != env.globals)) = false)
    (hT : ToksIn cst vs ts) (J : Nat → (Str → Option Value) → List (Addr × Obj) → Prop) (h0 : J 0 m news) (hc : ∀ i m₁ n₁, J i m₁ n₁ → ∀ p ∈ cst, p ∈ n₁)
    (turn : ∀ i k v l' t0 t1 t2 m₁ news₁ h tk own, ts[i]? = some (k, v, l') → J i m₁ news₁ → (∀ p ∈ own, p.1 ∈ [s.heap.objs.size, l]) →
      Fr h₀ env.locals h (set3 x0 x1 x2 (.int k t0) (.int v t1) (.int l' t2) m₁) → News h₀ env.locals h (own ++ news₁) →
      wpAny (model prog w) A (execs body env) (TurnPost h₀ env.locals own news₁ (J (i + 1)) { s with heap := h, toks := tk } Q) E { s with heap := h, toks := tk })
    (done : ∀ m₁ news₁ h tk, J vs.length m₁ news₁ → Fr h₀ env.locals h m₁ → News h₀ env.locals h news₁ → Q .next { s with heap := h, toks := tk })
    (hE : PassesOwn (model prog w) A env E) :
    wpAny (model prog w) A (exec (.For (.Tuple [.Name x0 p0, .Name x1 p1, .Name x2 p2] xk pt) (.Name sn ps) body [] pos) env) Q E s := by
  refine For_unr h₀ (hload _ ?_) (hE := hE)
  refine Iter_list_unr hh (News.isList N hl) F N (News.ne N hl) ?_
  have e : vs.toArray.size = vs.length := by simp
  rw [e]
  exact unr_trip (s₀ := { s with heap := s.heap.push { cls := .type "list_iterator", data := .fields #[.ref l, .int 0 0] } }) hh hx0 hx1 hx2 hp hT J hc turn done vs.length 0 m news (by omega) h0
end
section
variable {prog : Program} {w : World} {A : Around} {E : Value → Shared → Prop} {s : Shared} {env : Env} {h₀ : Heap} {x : Str} {body : List Stmt} {Q : Flow → Shared → Prop}
theorem range_inv {r : Addr} {a₀ b₀ : Int} {t₀ u₀ v₀ : Tok} {n : Nat} {m₀ : Str → Option Value} {news : List (Addr × Obj)} (J : Nat → (Str → Option Value) → List (Addr × Obj) → Prop)
    (hh : A.handled = none) (hr : IsRange s.heap r a₀ b₀ 1 t₀ u₀ v₀) (hsmall : Builtin.Range.small a₀ b₀ 1 = true) (hsz : Builtin.Range.rangeSize a₀ b₀ 1 = (n : Int))
    (F : Fr h₀ env.locals s.heap m₀) (N : News h₀ env.locals s.heap news) (hj : J 0 m₀ news)
    (turn : ∀ i t m₁ nx h tk own, i < n → OwnOff own (nx.map (·.1)) → J i m₁ nx → Fr h₀ env.locals h (fun y => if y = x then some (.int (a₀ + (i : Int)) t) else m₁ y) → News h₀ env.locals h (nx ++ own) →
      wpAny (model prog w) A (execs body env) (InvPostG h₀ env.locals (J (i + 1)) own { s with heap := h, toks := tk } Q) E { s with heap := h, toks := tk })
    (done : ∀ m₁ nx h tk, J n m₁ nx → Fr h₀ env.locals h m₁ → News h₀ env.locals h nx → Q .next { s with heap := h, toks := tk }) :
    wpAny (model prog w) A (pyIter (.ref r)) (fun it s₂ => LoopAtV prog w A h₀ env x body Q E it s₂) E s := by
  refine wpAny_pyIter_range hr hsmall ?_
  have W : Walks prog w A s.heap.objs.size [s.heap.objs.size] [s.heap.objs.size] n (fun i v => i < n ∧ ∃ t, v = .int (a₀ + i * 1) t)
      (fun i h => IsRangeIter h s.heap.objs.size (a₀ + (i : Nat) * 1) ((n : Int) - (i : Nat)) 1) := (Walks.range hh _ a₀ 1 n).bound
  refine kdr_loop J W (fun _ h => h) (fun _ h => h) ?_ ?_ ?_ ?_ (by show IsRangeIter _ _ _ _ _; rw [hsz]; simpa using Heap.get?_push_size _ rfl) (F.push _) (fun p hp => ⟨Heap.get?_push_of_some _ (N p hp).1, (N p hp).2⟩) hj ?_ done
  · intro i h hi b hb
    rw [List.mem_singleton.mp hb]
    exact ⟨_, hi⟩
  · intro hm
    exact absurd F.ns.lt ((List.mem_singleton.mp hm) ▸ Nat.lt_irrefl _)
  · intro b hb
    rw [List.mem_singleton.mp hb]
    exact next_is_new F
  · intro p hp hI
    exact absurd (Heap.lt_size (N p hp).1) ((List.mem_singleton.mp hI) ▸ Nat.lt_irrefl _)
  · rintro i v m₁ nx h tk own hi ⟨_, t, rfl⟩ hoff hJ F₁ N₁
    have e1 : a₀ + (i : Int) * 1 = a₀ + (i : Int) := by omega
    rw [e1] at F₁
    exact turn i t m₁ nx h tk own hi hoff hJ F₁ N₁
end
section
variable {prog : Program} {w : World} {A : Around} {E : Value → Shared → Prop} {s : Shared} {h₀ : Heap} {L l : Addr} {news : List (Addr × Obj)} {vs : List Value} {ns : List Int} {nn : Nat} {Q : Value → Shared → Prop}
theorem len_ints (N : News h₀ L s.heap news) (hm : (l, listOf vs.toArray nn) ∈ news) (hi : IntsAre vs ns) (hf : (ns.length : Int) < 2 ^ 62)
    (h : ∀ t tk, Q (.int ns.length t) { s with toks := tk }) : wpAny (model prog w) A (call (.builtin "len") [.ref l]) Q E s := by
  refine len_list (News.isList N hm) ?_ ?_
  · rw [List.size_toArray, hi.length]; omega
  · rw [List.size_toArray, hi.length]; exact h _ _
theorem item_ints {value slice : Expr} {k : Int} {u : Tok} (N : News h₀ L s.heap news) (hm : (l, listOf vs.toArray nn) ∈ news) (hi : IntsAre vs ns) (hf : (ns.length : Int) < 2 ^ 62) (h0 : 0 ≤ k) (h1 : k < ns.length)
    (h : ∀ t, Q (.int (ns.getD k.toNat 0) t) s)
    (hs : subscripted slice false (.ref l) (.int k u) = operate [.ref l, .int k u] (getItem (.ref l) (.int k u)) := by with_unfolding_all rfl) :
    wpAny (model prog w) A (subscriptTail value slice (.ref l) (.int k u)) Q E s := by
  have hk : k.toNat < ns.length := by omega
  obtain ⟨t, hx⟩ := hi.get k.toNat (ns[k.toNat]'hk) (List.getElem?_eq_getElem hk)
  have e : ns.getD k.toNat 0 = ns[k.toNat]'hk := by rw [List.getD_eq_getElem?_getD, List.getElem?_eq_getElem hk]; rfl
  have q := h t
  rw [e] at q
  exact tail_any (News.isList N hm).typeIs slot_list_getitem.lookup (wpAny_getItem_list (News.isList N hm) h0 (by omega) (by simpa using hx) q) hs
end
end Sq
end
-- SqEq
section
open PySem PySem.W PyProof.Rows PySem.Calls PySem.Spec PySem.SeqAt
namespace Sq
theorem fm0 (x : Int) {n : Int} (h : 0 < n) : 0 ≤ x.fmod n := Int.fmod_nonneg_of_pos x h
theorem fm1 (x : Int) {n : Int} (h : 0 < n) : x.fmod n < n := Int.fmod_lt_of_pos x h
theorem shaped_tup (ns : List Int) : shaped (.tuple (ns.map PyData.int)) = true := by
  have h1 := W.depthAll_ints ns
  have h2 : PyData.depth (.tuple (ns.map PyData.int)) ≤ 64 := by simp only [PyData.depth]; omega
  show (PyData.canLay0 (.tuple (ns.map PyData.int)) && decide (PyData.depth (.tuple (ns.map PyData.int)) ≤ 64)) = true
  rw [Bool.and_eq_true]
  exact ⟨by simp only [PyData.canLay0]; exact W.canLayAll0_ints ns, decide_eq_true h2⟩
theorem reads_tup {h : Heap} {a : Addr} {vs : List Value} {ns : List Int} (hl : IsTup h a vs.toArray) (hi : IntsAre vs ns) : Reads h (.ref a) (.tuple (ns.map PyData.int)) [] := by
  obtain ⟨o, ho, hc, n, hd⟩ := hl
  exact Reads.tuple ho hc hd (by simpa using readsAll_of_ints hi)
def tkd (t : Tk) : PyData := .tuple [.int t.1, .int t.2.1, .int t.2.2]
theorem toks_read {h₀ h : Heap} {L : Addr} {news : List (Addr × Obj)} {vs : List Value} {ts : List Tk} (N : News h₀ L h news) (hT : ToksIn news vs ts) : ∃ as, ReadsAll h vs (ts.map tkd) as := by
  induction hT with
  | nil => exact ⟨_, .nil⟩
  | cons hm _ ih =>
    obtain ⟨as, ra⟩ := ih
    exact ⟨_, .cons (Reads.tuple (N.get hm) rfl rfl (.cons (.int _ _) (.cons (.int _ _) (.cons (.int _ _) .nil)))) ra⟩
theorem tkd_lay : ∀ ts : List Tk, PyData.canLayAll0 (ts.map tkd) = true
  | [] => by simp [PyData.canLayAll0]
  | t :: r => by simp [PyData.canLayAll0, tkd, PyData.canLay0, tkd_lay r]
theorem tkd_depth : ∀ ts : List Tk, PyData.depthAll (ts.map tkd) ≤ 2
  | [] => by simp [PyData.depthAll]
  | t :: r => by
    have := tkd_depth r
    simp only [List.map_cons, PyData.depthAll, PyData.depth, tkd]
    omega
theorem tkd_shaped (ts : List Tk) : shaped (.list (ts.map tkd)) = true := by
  have h1 := tkd_depth ts
  have h2 : PyData.depth (.list (ts.map tkd)) ≤ 64 := by simp only [PyData.depth]; omega
  show (PyData.canLay0 (.list (ts.map tkd)) && decide (PyData.depth (.list (ts.map tkd)) ≤ 64)) = true
  rw [Bool.and_eq_true]
  exact ⟨by simp only [PyData.canLay0]; exact tkd_lay ts, decide_eq_true h2⟩
theorem tkd_noMix : ∀ ts us : List Tk, noMixAll (ts.map tkd) (us.map tkd) = true
  | [], [] => by simp [noMixAll]
  | [], _ :: _ => by simp [noMixAll]
  | _ :: _, [] => by simp [noMixAll]
  | _ :: r, _ :: q => by simp [noMixAll, noMix, tkd, tkd_noMix r q]
theorem tkd_same : ∀ ts us : List Tk, PySem.Spec.sameAll (ts.map tkd) (us.map tkd) = decide (ts = us)
  | [], [] => by simp [PySem.Spec.sameAll]
  | [], _ :: _ => by simp [PySem.Spec.sameAll]
  | _ :: _, [] => by simp [PySem.Spec.sameAll]
  | (a, b, c) :: r, (a', b', c') :: q => by
    simp only [List.map_cons, PySem.Spec.sameAll, PySem.Spec.same, tkd, tkd_same r q]
    by_cases h1 : a = a' <;> by_cases h2 : b = b' <;> by_cases h3 : c = c' <;> by_cases h4 : r = q <;> simp [h1, h2, h3, h4]
section
variable {prog : Program} {w : World} {A : Around} {E : Value → Shared → Prop} {s : Shared} {Q : Value → Shared → Prop}
theorem ne_tup {a b : Addr} {vs us : List Value} {ns ms : List Int} (hl : IsTup s.heap a vs.toArray) (hi : IntsAre vs ns) (hl' : IsTup s.heap b us.toArray) (hi' : IntsAre us ms) (hu : A.units + 64 < cLine)
    (h : Q (.bool (!decide (ns = ms))) s) : wpAny (model prog w) A (compareOp .NotEq (.ref a) (.ref b)) Q E s :=
  ne_dataH_same (reads_tup hl hi) (reads_tup hl' hi') (shaped_tup ns) (shaped_tup ms) hu (by simp only [noMix]; exact noMix_ints ns ms) (by simp only [PySem.Spec.same]; rw [same_ints]; exact h)
theorem ne_toks {h₀ : Heap} {L a b : Addr} {news : List (Addr × Obj)} {vs us : List Value} {n n' : Nat} {ts ss : List Tk} (N : News h₀ L s.heap news) (ha : (a, listOf vs.toArray n) ∈ news) (hb : (b, listOf us.toArray n') ∈ news)
    (hi : ToksIn news vs ts) (hj : ToksIn news us ss) (hu : A.units + 64 < cLine)
    (h : Q (.bool (!decide (ts = ss))) s) : wpAny (model prog w) A (compareOp .NotEq (.ref a) (.ref b)) Q E s := by
  obtain ⟨as, ra⟩ := toks_read N hi
  obtain ⟨bs, rb⟩ := toks_read N hj
  exact ne_dataH_same (Reads.list (N.get ha) rfl rfl (by simpa using ra)) (Reads.list (N.get hb) rfl rfl (by simpa using rb)) (tkd_shaped ts) (tkd_shaped ss) hu
    (by simp only [noMix]; exact tkd_noMix ts ss) (by simp only [PySem.Spec.same]; rw [tkd_same]; exact h)
theorem item_tup_any {value slice : Expr} {a : Addr} {l : List Value} {k : Int} {u : Tok} (ht : IsTup s.heap a l.toArray) (h0 : 0 ≤ k) (h1 : k < l.length) (hf : (l.length : Int) < 2 ^ 62) (h : ∀ v ∈ l, Q v s)
    (hs : subscripted slice false (.ref a) (.int k u) = operate [.ref a, .int k u] (getItem (.ref a) (.int k u)) := by with_unfolding_all rfl) :
    wpAny (model prog w) A (subscriptTail value slice (.ref a) (.int k u)) Q E s := by
  have hk : k.toNat < l.length := by omega
  refine item_tupleT ht (by omega) (by omega) (j := k.toNat) ?_ (List.getElem?_eq_getElem hk) (h _ (List.getElem_mem hk)) hs
  simp only [seqIndex?, if_neg (show ¬ k < 0 by omega)]
  rw [if_pos (by simp; omega)]
end
section
variable {prog : Program} {w : World} {A : Around} {E : Value → Shared → Prop} {s : Shared} {h₀ : Heap} {L : Addr} {m : Str → Option Value} {news : List (Addr × Obj)} {Q : Value → Shared → Prop}
theorem sq_append {D : Addr} {vs : List Value} {c : Nat} {rest : List (Addr × Obj)} {x : Value} (F : Fr h₀ L s.heap m) (N : News h₀ L s.heap ((D, listOf vs.toArray c) :: rest)) (hoff : ∀ p ∈ rest, p.1 ≠ D) (hz : vs.length ≤ 16000000)
    (h : ∀ h', Fr h₀ L h' m → News h₀ L h' ((D, listOf (vs ++ [x]).toArray (c + 1)) :: rest) → Q .none { s with heap := h' }) :
    wpAny (model prog w) A (call (.builtin "list.append") [.ref D, x]) Q E s := by
  refine append_K F N (Upd.head hoff) (fun h' F' N' => ?_) (by rw [List.size_toArray, sizeLine_eq]; omega)
  rw [list_end] at N'
  exact h h' F' N'
theorem sq_append_upd {D : Addr} {vs : List Value} {c : Nat} {news' : List (Addr × Obj)} {x : Value} (F : Fr h₀ L s.heap m) (N : News h₀ L s.heap news) (U : Upd D (listOf vs.toArray c) (listOf (vs ++ [x]).toArray (c + 1)) news news') (hz : vs.length ≤ 16000000)
    (h : ∀ h', Fr h₀ L h' m → News h₀ L h' news' → Q .none { s with heap := h' }) :
    wpAny (model prog w) A (call (.builtin "list.append") [.ref D, x]) Q E s := by
  rw [← list_end] at U
  exact append_K F N U h (by rw [List.size_toArray, sizeLine_eq]; omega)
theorem allLt_mem {D : Addr} : ∀ {l : List (Addr × Obj)}, AllLt D l → ∀ p ∈ l, p.1 < D
  | [], _, _, h => nomatch h
  | _ :: _, x, p, h => by
    rcases List.mem_cons.mp h with rfl | h
    · exact x.1
    · exact allLt_mem x.2 p h
theorem mul_rep {l : Addr} {v : Value} {nn : Nat} {x : Int} {u : Tok} (F : Fr h₀ L s.heap m) (N : News h₀ L s.heap news) (hm : (l, listOf #[v] nn) ∈ news) (h0 : 0 ≤ x) (h1 : x ≤ 1000000)
    (h : ∀ D h', Fr h₀ L h' m → News h₀ L h' ((D, listOf (List.replicate x.toNat v).toArray 0) :: news) → (∀ p ∈ news, p.1 < D) → Q (.ref D) { s with heap := h' }) :
    wpAny (model prog w) A (binaryOp .Mult (.ref l) (.int x u)) Q E s := by
  refine mul_list F N (N.get hm) (by omega) (by omega) ?_ fun h' F' N' => ?_
  · show 1 * x.toNat ≤ 2 ^ 24
    omega
  · have e : (List.foldl (fun x1 x2 => x1 ++ x2) #[] (List.replicate (if (#[v] : Array Value).isEmpty = true then 0 else x.toNat) #[v])) = (List.replicate x.toNat v).toArray := by
      rw [if_neg (by simp)]
      generalize x.toNat = n
      have q : ∀ (n : Nat) (acc : Array Value), List.foldl (fun x1 x2 => x1 ++ x2) acc (List.replicate n #[v]) = acc ++ (List.replicate n v).toArray := by
        intro n
        induction n with
        | zero => intro acc; simp
        | succ n ih =>
          intro acc
          rw [List.replicate_succ, List.foldl_cons, ih, List.replicate_succ, Array.append_assoc]
          congr 1
          simp
      rw [q]
      simp
    rw [e] at N'
    exact h _ h' F' N' fun p hp => Heap.lt_size (N p hp).1
theorem add_any {a b : Addr} {vs ws : List Value} {n n' : Nat} (F : Fr h₀ L s.heap m) (N : News h₀ L s.heap news) (ha : (a, listOf vs.toArray n) ∈ news) (hb : (b, listOf ws.toArray n') ∈ news)
    (hz : vs.length + ws.length ≤ 1000000)
    (h : ∀ D h', Fr h₀ L h' m → News h₀ L h' ((D, listOf (vs ++ ws).toArray 0) :: news) → (∀ p ∈ news, p.1 < D) → Q (.ref D) { s with heap := h' }) :
    wpAny (model prog w) A (binaryOp .Add (.ref a) (.ref b)) Q E s :=
  add_lists F N (News.isList N ha) (News.isList N hb) (fun h' F' N' => h _ h' F' N' fun p hp => Heap.lt_size (N p hp).1) (by rw [sizeLine_eq]; omega)
theorem tup_item {value slice : Expr} {a : Addr} {l : List Value} {k : Int} {u : Tok} {v : Value} (F : Fr h₀ L s.heap m) (ht : IsTup h₀ a l.toArray) (h0 : 0 ≤ k) (h1 : k < 1000) (hx : l[k.toNat]? = some v) (h : Q v s)
    (hs : subscripted slice false (.ref a) (.int k u) = operate [.ref a, .int k u] (getItem (.ref a) (.int k u)) := by with_unfolding_all rfl) :
    wpAny (model prog w) A (subscriptTail value slice (.ref a) (.int k u)) Q E s := by
  have hk : k.toNat < l.length := (List.getElem?_eq_some_iff.mp hx).1
  refine item_tupleT (Fr.tup F ht) (by omega) (by omega) (j := k.toNat) ?_ hx h hs
  simp only [seqIndex?, if_neg (show ¬ k < 0 by omega)]
  rw [if_pos (by simp; omega)]
theorem slice_all {value slice : Expr} {l : Addr} {vs : List Value} {n : Nat} (F : Fr h₀ L s.heap m) (N : News h₀ L s.heap news) (hm : (l, listOf vs.toArray n) ∈ news) (hz : vs.length ≤ 1000000)
    (h : ∀ D h', Fr h₀ L h' m → News h₀ L h' ((D, listOf vs.toArray 0) :: news) → (∀ p ∈ news, p.1 < D) → Q (.ref D) { s with heap := h' })
    (hs : subscripted slice false (.ref l) (.ref s.heap.objs.size) = operate [.ref s.heap.objs.size, .ref l] (getItem (.ref l) (.ref s.heap.objs.size))) (ht : ∀ r, letTemporaryGo value (.ref l) r = pure ()) :
    wpAny (model prog w) A (subscriptTail value slice (.ref l) (.ref s.heap.objs.size)) Q E { s with heap := s.heap.push { cls := .type "slice", data := .fields #[.none, .none, .none] } } :=
  kmk_slice_lit F N (News.isList N hm) .none .none (by rw [slicePick_all]) h hs ht (by rw [List.size_toArray, sizeLine_eq]; omega)
theorem ints_rep (b : Int) (t : Tok) : ∀ k : Nat, IntsAre (List.replicate k (.int b t)) (List.replicate k b)
  | 0 => .nil
  | k + 1 => .cons b t (ints_rep b t k)
theorem ne_ints_eq {a b : Addr} {vs ws : List Value} {n n' : Nat} {ns ms : List Int} (N : News h₀ L s.heap news) (ha : (a, listOf vs.toArray n) ∈ news) (hb : (b, listOf ws.toArray n') ∈ news) (hi : IntsAre vs ns) (hj : IntsAre ws ms) (e : ns = ms)
    (hu : A.units + 64 < cLine) (h : Q (.bool false) s) : wpAny (model prog w) A (compareOp .NotEq (.ref a) (.ref b)) Q E s :=
  ne_intsK (News.isList N ha) hi (News.isList N hb) hj hu (by rw [decide_eq_true e]; exact h)
theorem item_list_any {value slice : Expr} {l : Addr} {vs : List Value} {nn : Nat} {k : Int} {u : Tok} (N : News h₀ L s.heap news) (hm : (l, listOf vs.toArray nn) ∈ news) (h0 : 0 ≤ k) (h1 : k < vs.length) (hf : (vs.length : Int) < 2 ^ 62) (h : ∀ v ∈ vs, Q v s)
    (hs : subscripted slice false (.ref l) (.int k u) = operate [.ref l, .int k u] (getItem (.ref l) (.int k u)) := by with_unfolding_all rfl) :
    wpAny (model prog w) A (subscriptTail value slice (.ref l) (.int k u)) Q E s := by
  have hk : k.toNat < vs.length := by omega
  exact tail_any (News.isList N hm).typeIs slot_list_getitem.lookup (wpAny_getItem_list (News.isList N hm) h0 (by omega) (by simpa using List.getElem?_eq_getElem hk) (h _ (List.getElem_mem hk))) hs
theorem toks_rep {a : Addr} {k v l : Int} {t0 t1 t2 : Tok} {n : Nat} (h : (a, tup3 k v l t0 t1 t2 n) ∈ news) : ∀ c : Nat, ToksIn news (List.replicate c (.ref a)) (List.replicate c (k, v, l))
  | 0 => .nil
  | c + 1 => .cons h (toks_rep h c)
end
end Sq
end
-- SqComp
section
open PySem PySem.W PyProof.Rows PySem.Calls PySem.Spec
namespace Sq
section
variable {prog : Program} {w : World} {A : Around} {E : Value → Shared → Prop} {s : Shared} {h₀ : Heap} {L : Addr} {m : Str → Option Value} {env : Env}
theorem compRest_of {elt : Expr} {x : Str} {scope : Scope} {cl : List (Str × Addr)} {S : List (Addr × Obj) → Prop} {P : Nat → Value → Prop} {Fin : List Value → List (Addr × Obj) → Prop} {news : List (Addr × Obj)} {n : Nat} (G : Nat → Value → Prop) (hS : S news)
    (turn : ∀ i v I oI C oC D ys m₂ h tk (E' : Value → Shared → Prop), i < n → P i v → LCg.NsObj oC m₂ → m₂ x = some v → Fr h₀ L h m → News h₀ L h ((I, oI) :: (C, oC) :: (D, LCg.lst ys) :: news) → LCg.Off3 I C D news → ((@Ne Nat I C) ∧ (@Ne Nat I D) ∧ (@Ne Nat C D)) →
      wpAny (model prog w) A (eval elt (compEnvC scope cl C env)) (fun y s₂ => ∃ h' tk', s₂ = { s with heap := h', toks := tk' } ∧ Fr h₀ L h' m ∧ News h₀ L h' ((I, oI) :: (C, oC) :: (D, LCg.lst ys) :: news) ∧ G i y) E' { s with heap := h, toks := tk })
    (fin : ∀ ys : List Value, ys.length = n → (∀ i y, ys[i]? = some y → G i y) → Fin ys news) :
    ∀ (k i : Nat) (ys : List Value), i + k = n → ys.length = i → (∀ j y, ys[j]? = some y → G j y) → LCg.CompRest prog w A h₀ L m env elt x scope cl s S P Fin k i ys news := by
  intro k
  induction k with
  | zero =>
    intro i ys hi hl hG
    exact fin ys (by omega) hG
  | succ k ih =>
    intro i ys hi hl hG v I oI C oC D m₂ h tk E' hP hNs hx F N off hne
    refine wpAny_mono (turn i v I oI C oC D ys m₂ h tk E' (by omega) hP hNs hx F N off hne) (fun y s₂ q => ?_) fun _ _ e => e
    obtain ⟨h', tk', rfl, F', N', hy⟩ := q
    refine ⟨h', tk', news, rfl, F', N', off, hS, ih (i + 1) (ys ++ [y]) (by omega) (by simp [hl]) ?_⟩
    intro j z hz
    by_cases hj : j < ys.length
    · rw [List.getElem?_append_left hj] at hz
      exact hG j z hz
    · rw [List.getElem?_append_right (by omega)] at hz
      have hj' : j - ys.length = 0 := by
        rcases Nat.eq_zero_or_pos (j - ys.length) with h0 | h0
        · exact h0
        · rw [List.getElem?_eq_none (by simp; omega)] at hz; cases hz
      rw [hj'] at hz
      have : j = i := by omega
      subst this
      simp at hz
      subst hz
      exact hy
theorem off1_mem {D : Addr} : ∀ {l : List (Addr × Obj)}, LCg.Off1 D l → ∀ p ∈ l, p.1 ≠ D
  | [], _, _, h => nomatch h
  | _ :: _, x, p, h => by
    rcases List.mem_cons.mp h with rfl | h
    · exact x.1
    · exact off1_mem x.2 p h
theorem ext_get {vs ys : List Value} (hl : ys.length = vs.length) (hG : ∀ (i : Nat) (y : Value), ys[i]? = some y → vs[i]? = some y) : ys = vs := by
  refine List.ext_getElem? fun i => ?_
  cases h : ys[i]? with
  | some y => exact (hG i y h).symm
  | none =>
    rw [List.getElem?_eq_none_iff] at h
    rw [List.getElem?_eq_none (by omega)]
/-- `y = [x for x in sn]`: a copy -/
theorem assign_copy {x y sn : Str} {px py pe ps : Pos} {scope : Scope} {cl : List (Str × Addr)} {pos spos : Pos} {Q : Flow → Shared → Prop} {ax : Addr} {vs : List Value} {nn : Nat} {news : List (Addr × Obj)}
    (hh : A.handled = none) (F : Fr h₀ L s.heap m) (N : News h₀ L s.heap news) (hm : (ax, listOf vs.toArray nn) ∈ news) (hz : vs.length ≤ 1000000) (hLe : env.locals = L)
    (hload : ∀ Q' : Value → Shared → Prop, Q' (.ref ax) s → wpAny (model prog w) A (eval (.Name sn ps) env) Q' E s)
    (hsw : swapsWith (.ListComp (.Name x pe) [⟨.Name x px, .Name sn ps, [], 0⟩] scope pos) (some (.Name y py)) spos.line env = pure true)
    (hclos : closureFor scope env = pure cl) (hcell : ∀ z ∈ scope.names, z.2 ≠ .cell) (hkind : scope.kind = .function)
    (hnames : ∀ z ∈ scope.names, z.2 = .local → scope.names.lookup z.1 = some .local) (hx : scope.names.lookup x = some .local)
    (hy : env.kindOf y = some .local) (hp : (env.scope.kind == .class || (env.scope.kind == .module && env.locals != env.globals)) = false)
    (hk : ∀ C, (compEnvC scope cl C env).scope.kind = .function) (hxl : ∀ C, (compEnvC scope cl C env).kindOf x = some .local) (hd : (x == ("__debug__" : Str)) = false)
    (h : ∀ D c h' tk, Fr h₀ L h' (fun z => if z = y then some (.ref D) else m z) → News h₀ L h' ((D, listOf vs.toArray c) :: news) → (∀ p ∈ news, p.1 ≠ D) → Q .next { s with heap := h', toks := tk }) :
    wpAny (model prog w) A (exec (.Assign [.Name y py] (.ListComp (.Name x pe) [⟨.Name x px, .Name sn ps, [], 0⟩] scope pos) spos) env) Q E s := by
  refine LCg.Assign_ListComp_U F hLe hsw hclos hcell hkind hnames hx hy hp (hload _ ?_)
  refine LCg.CompSrc.ledger hh F N hm (by rw [List.size_toArray, sizeLine_eq]; omega) fun g => ?_
  have e : vs.toArray.size = vs.length := by simp
  rw [e]
  refine compRest_of (n := vs.length) (fun i y => vs[i]? = some y) (.inr ⟨_, hm, rfl, _, rfl⟩) ?_ ?_ vs.length 0 [] (by omega) rfl (fun j y hj => by simp at hj)
  · intro i v I oI C oC D ys m₂ h1 tk E' hi hP hNs hxv F1 N1 off hne
    refine LCgL.ld_own N1 (.tail _ (.head _)) hNs hxv ?_ (hk C) (hxl C) hd
    exact ⟨h1, tk, rfl, F1, N1, by simpa using hP⟩
  · intro ys hl hG D h1 tk F1 N1 off
    have e1 : ys = vs := ext_get hl hG
    subst e1
    refine h D _ h1 tk F1 N1 ?_
    exact off1_mem off
end
section
variable {prog : Program} {w : World} {A : Around} {E : Value → Shared → Prop} {s : Shared} {h₀ : Heap} {L : Addr} {m : Str → Option Value} {news : List (Addr × Obj)}
theorem ownOff_ins {own : List (Addr × Obj)} {A B : List Addr} {D : Addr} (h : OwnOff own (A ++ B)) (hD : ∀ p ∈ own, p.1 ≠ D) : OwnOff own (A ++ D :: B) := by
  intro p hp b hb
  rcases List.mem_append.mp hb with hb | hb
  · exact h p hp b (List.mem_append_left _ hb)
  · rcases List.mem_cons.mp hb with rfl | hb
    · exact hD p hp
    · exact h p hp b (List.mem_append_right _ hb)
theorem range_call {n : Int} {t : Tok} {Q : Value → Shared → Prop} (F : Fr h₀ L s.heap m) (N : News h₀ L s.heap news)
    (h : ∀ r h' tk t u v, Fr h₀ L h' m → News h₀ L h' news → IsRange h' r 0 n 1 t u v → Q (.ref r) { s with heap := h', toks := tk }) :
    wpAny (model prog w) A (call (.type "range") [.int n t]) Q E s :=
  call_range_1 (h _ _ _ _ _ _ (F.push _) (N.grown fun _ _ e => Heap.get?_push_of_some _ e) (Heap.get?_push_size _ rfl))
end
end Sq
end
-- SqTry
section
namespace Sq
open PySem PySem.W PySem.Spec PySem.Calls PyProof.Rows

section
variable {prog : Program} {w : World} {A₀ A : Around} {s : Shared} {base h₀ : Heap} {env : Env} {L : Addr} {m : Str → Option Value} {news : List (Addr × Obj)} {K : Frag} {p : Program} {loose : List Str} {mean : ExcName → Option Value} {mg mb : Str → Option Value}
    {R : Result → Shared → Prop} {name qual : Str} {params : Arguments} {body : List Stmt} {scope : Scope} {dV kV doc pm cdv ct oc : Value} {an od : Option Addr} {osl : Array (Option Value)} {f : Addr} {args : Args} {binds : List (Str × Value)}

theorem try_enter (B : Below A₀ base [] h₀) (F : Fr h₀ L s.heap m) (X₀ : K.In h₀) (N : News h₀ L s.heap news) (T : Top p loose mean mg mb h₀) (hA : A.frames = some [env]) (hf : env.frame = some L) (hke : env.scope.kind = .function)
    (ho : K.lookup f = some ⟨oc, od, .func (fnOf name qual params body scope dV kV doc pm an cdv ct), osl⟩) (hcd : codeIn K cdv qual = true) (hroom : A.depth < recursionLimit)
    (hbind : BindsTo s (fnOf name qual params body scope dV kV doc pm an cdv ct) args binds) (hloc : ∀ y ∈ binds, scope.names.lookup y.1 = some .local)
    (h : ∀ g L' h₁, Fr h₀ L g m → Fr g L' h₁ (fun y => binds.reverse.lookup y) → News g L' h₁ news → Below A base [env] g → K.In g → Top p loose mean mg mb g → KtsDicts ([env].filterMap (·.frame)) g →
      wpAny (model prog w) (A.deeper (envOf qual scope L' f cdv)) (execs body (envOf qual scope L' f cdv))
        (fun fl s' => LeaveS0 ([env].filterMap (·.frame)) h₀ L m g R (match fl with | .ret v => v | _ => .none) s')
        (fun e s' => wpAny (model prog w) (A.deeper (envOf qual scope L' f cdv)) (leaving (envOf qual scope L' f cdv) e) (fun _ s'' => R (.error e) s'') (fun e' s'' => R (.error e') s'') s')
        { s with heap := h₁, toks := s.toks + binds.length })
    (hco : scope.isCoroutine = false) (hgen : scope.isGenerator = false) (hk : scope.kind = .function)
    (hcell : ∀ x ∈ scope.names, x.2 ≠ .cell) : codeAny (model prog w) A (.call (.ref f) args) R s := by
  have X := X₀.keeps F.keep
  refine codeAny_call_def (fd := fnOf name qual params body scope dV kV doc pm an cdv ct) (body := body) (binds := binds) hroom (X _ _ ho) rfl (T.nolimit.keeps F.keep) (codeRec_of X hcd) rfl hbind hcell hloc (fun h₁ hns hk₁ => ?_) hco hgen hk
  obtain ⟨FG, BG, st, _⟩ := groundX (R := R) B F N hA hf hke
  have fe : [env].filterMap (·.frame) = [L] := by simp [hf]
  obtain ⟨oL, es, ep, hLg, hLd, hLk, hLf⟩ := FG.ns
  refine wpAny_mono (h _ s.heap.objs.size h₁ FG ⟨hns, fun b o e => hk₁ b o (of_hideAll _ e), Nat.le_of_eq (hideAll_size _ _)⟩
    (fun p hp => ⟨hk₁ _ _ (N p hp).1, Nat.ne_of_lt (Heap.lt_size (N p hp).1), hideAll_none _ (List.mem_map_of_mem hp)⟩) BG (X₀.keeps st) (T.keeps st) (fun b hb => by
      rw [fe] at hb
      cases List.mem_singleton.mp hb
      exact ⟨oL, es, ep, hLg, hLd⟩)) (fun fl s' hl => ?_) fun _ _ y => y
  obtain ⟨g', L', m', news', T', F', N', k⟩ := hl
  have nL₀ : h₀.get? L = none := kts_self F
  obtain ⟨sl, hs⟩ := T'.up hLg
  refine k ⟨⟨_, es, ep, F'.keep _ _ hs, hLd, hLk, hLf⟩, fun b o e => F'.keep b o (T'.other b o (st b o e) (fun q => by
    rw [fe] at q
    rw [List.mem_singleton.mp q, nL₀] at e
    cases e)), F.above⟩ fun p hp => ⟨(N' p hp).1, fun q => ?_, ?_⟩
  · have := (N' p hp).2.2; rw [q, hs] at this; cases this
  · cases q : h₀.get? p.1 with
    | none => rfl
    | some o =>
      obtain ⟨sl', hs'⟩ := T'.up (st _ _ q)
      have := (N' p hp).2.2
      rw [hs'] at this
      cases this
end
end Sq
end
-- H302
section
open PySem PySem.W PyProof.Rows
namespace S302
open_top hd for PySem.Challenge.rw_pd_squeeze_3_02
end S302
end
-- C302a
section
open PySem PySem.W PyProof.Rows PySem.Calls PySem.Spec Sq
namespace S302
section
variable {prog : Program} {w : World} {p : Program} {loose : List Str} {mean : ExcName → Option Value} {mg mb : Str → Option Value} {dp un : Nat} {gd : Option (List Code)} {cn : Str} {cs : Scope} {a : Addr} {ccd : Value} {cl : List (Str × Addr)} {outer : List Env} {A₀ : Around} {base h₀ : Heap} {L : Addr} {m : Str → Option Value} {news : List (Addr × Obj)} {s : Shared} {Q E : Value → Shared → Prop}
theorem tokens_ok_call {l : Addr} {vs : List Value} {ts : List Tk} {nn : Nat}
    (B : Below A₀ base outer h₀) (F : Fr h₀ L s.heap m) (X : (hd.heap_39 w.params).In h₀) (N : News h₀ L s.heap news) (T : Top p loose mean mg mb h₀) (hk : cs.kind = .function)
    (hl : (l, listOf vs.toArray nn) ∈ news) (hT : ToksIn news vs ts) {b : Bool} (hb : tokOk ts = b) (hd : dp + 1 < recursionLimit)
    (hret : ∀ h' tk', Fr h₀ L h' m → News h₀ L h' news → Q (.bool b) { s with heap := h', toks := tk' }) :
    wpAny (model prog w) (ktrTop dp un gd cn cs L a ccd cl outer) (call (.ref 34) [.ref l]) Q E s := by
  w_top on
  refine wpAny_call ?_
  k_dflt cell_enter
  repeat ((fail_if_success (with_reducible show wpAny _ _ (exec (Stmt.For _ _ _ _ _) _) _ _ _)); walk1)
  rename_i g' L' h1 FG' B' X' T' h2 F' N'
  refine' For_trip (cst := news) (vs := vs) (ts := ts) (nn := nn) (l := l) (J := fun i m₁ n₁ => n₁ = news ∧ ∃ sz t, tokRun 0 (ts.take i) = some sz ∧ m₁ (Str.ofString "size") = some (.int sz t)) ?h1 F' N' hl ?h2 ?h3 ?h4 ?h5 ?h6 hT ?h7 ?h8 ?turn ?done ?hE
  case h1 => rfl
  case h2 => exact fun Q' q => ld F' rfl q
  case h3 => rfl
  case h4 => rfl
  case h5 => rfl
  case h6 => rfl
  case h7 => exact ⟨rfl, 0, _, rfl, rfl⟩
  case h8 => rintro i m₁ n₁ ⟨rfl, _⟩ p hp; exact hp
  case hE => passes_own
  case turn =>
    rintro i k v l' t0 t1 t2 m₁ news₁ h tk' own hts ⟨rfl, sz, t, hsz, hms⟩ hown F₁ N₁
    have e : m₁ = fun y => if y = Str.ofString "size" then some (.int sz t) else m₁ y := funext fun y => by
      by_cases hy : y = Str.ofString "size"
      · rw [if_pos hy, hy, hms]
      · rw [if_neg hy]
    rw [e] at F₁
    clear hms e
    k_steps
    all_goals first
      | exact fin_bool hret (hb.symm.trans (tok_bad hsz hts (tokStep_no (by omega)))) (by assumption) (by assumption) (fun _ hp => List.mem_append_right _ hp)
      | exact tok_next hsz hts (tokStep_l (by omega))
      | exact tok_next hsz hts (tokStep_c (by omega))
  case done =>
    rintro m₁ news₁ h tk' ⟨rfl, sz, t, hsz, hms⟩ F₁ N₁
    dsimp only
    k_steps
    exact fin_bool hret (hb.symm.trans (tok_all hsz hT.length)) (by assumption) (by assumption) (fun _ hp => hp)
end
end S302
end
-- C302b
section
open PySem PySem.W PyProof.Rows PySem.Calls PySem.Spec Sq
namespace S302
local macro_rules | `(tactic| walk_at "call ref") => `(tactic| ((with_reducible show wpAny _ _ (call (Value.ref 34) _) _ _ _); k_dflt (refine' tokens_ok_call ?k1 ?k2 ?k3 ?k4 ?k5 ?k6 ?k7 ?k8 ?k9 ?k10 ?_; (case k1 => k_asm); (case k2 => k_asm); (case k3 => k_asm); (case k4 => k_asm); (case k5 => k_asm); (case k6 => first | exact rfl | assumption); (case k7 => first | assumption | k_mem); (case k8 => assumption); (case k9 => assumption); (case k10 => ktr_room)); intro h9 tk9 F9 N9; (try dsimp only)))
local macro_rules | `(tactic| walk_at "call builtin:list.append") => `(tactic| ((show wpAny _ _ (call (Value.builtin _) [Value.ref _, _]) _ _ _); k_dflt (refine' sq_append ?k1 ?k2 ?k3 ?k4 ?_; (case k1 => k_asm); (case k2 => k_asm); (case k3 => assumption); (case k4 => omega)); intro h9 F9 N9; (try dsimp only); (try k_sweep)))
local macro_rules | `(tactic| walk_at "call builtin:len") => `(tactic| ((with_reducible show wpAny _ _ (call (Value.builtin "len") [Value.ref _]) _ _ _); k_dflt (refine' len_ints ?k1 ?k2 ?k3 ?k4 ?_; (case k1 => k_asm); (case k2 => first | assumption | k_mem); (case k3 => assumption); (case k4 => omega)); intro t9 tk9; (try dsimp only)))
local macro_rules | `(tactic| walk_at "subscriptTail") => `(tactic| ((with_reducible show wpAny _ _ (subscriptTail _ _ (Value.ref _) (Value.int _ _)) _ _ _); (with_unfolding_all refine' item_ints ?k1 ?k2 ?k3 ?k4 ?k5 ?k6 ?_ ?k7; (case k1 => k_asm); (case k2 => first | assumption | k_mem); (case k3 => assumption); (case k4 => omega); (case k5 => omega); (case k6 => omega); (case k7 => with_unfolding_all rfl)); intro t9; (try dsimp only)))
theorem ledger_back {h₀ h : Heap} {L D : Addr} {o : Obj} {own news : List (Addr × Obj)} (N : News h₀ L h ((D, o) :: (own ++ news))) : News h₀ L h (own ++ (D, o) :: news) := fun p hp => N p (by
  rcases List.mem_append.mp hp with hp | hp
  · exact .tail _ (List.mem_append_left _ hp)
  · rcases List.mem_cons.mp hp with rfl | hp
    · exact .head _
    · exact .tail _ (List.mem_append_right _ hp))
section
variable {prog : Program} {w : World} {p : Program} {loose : List Str} {mean : ExcName → Option Value} {mg mb : Str → Option Value} {dp un : Nat} {gd : Option (List Code)} {cn : Str} {cs : Scope} {a : Addr} {ccd : Value} {cl : List (Str × Addr)} {outer : List Env} {A₀ : Around} {base h₀ : Heap} {L : Addr} {m : Str → Option Value} {news : List (Addr × Obj)} {s : Shared} {Q E : Value → Shared → Prop}
theorem lz_expand_call {l : Addr} {vs : List Value} {ts : List Tk} {nn : Nat}
    (B : Below A₀ base outer h₀) (F : Fr h₀ L s.heap m) (X : (hd.heap_39 w.params).In h₀) (N : News h₀ L s.heap news) (T : Top p loose mean mg mb h₀) (hk : cs.kind = .function)
    (hl : (l, listOf vs.toArray nn) ∈ news) (hT : ToksIn news vs ts) (hok : tokOk ts = true) (hbig : 255 * ts.length ≤ 10000000) (hd : dp + 2 < recursionLimit) (hu : un + 16 < cLine)
    (hret : ∀ D us c h' tk', Fr h₀ L h' m → News h₀ L h' ((D, listOf (List.toArray us) c) :: news) → (∀ p ∈ news, p.1 < D) → IntsAre us (expand ts) → Q (.ref D) { s with heap := h', toks := tk' }) :
    wpAny (model prog w) (ktrTop dp un gd cn cs L a ccd cl outer) (call (.ref 41) [.ref l]) Q E s := by
  w_top on
  refine wpAny_call ?_
  k_dflt cell_enter
  rename_i g' L' hh FG' F0 N0 B' X' T'
  repeat ((fail_if_success (with_reducible show wpAny _ _ (exec (Stmt.For _ _ _ _ _) _) _ _ _)); walk1)
  rename_i D hh0 l1 hh1 F' N'
  have hDl : D ≠ l := fun e => by have := l1 _ hl; exact absurd (e ▸ this) (Nat.lt_irrefl _)
  have hDs : D < hh1.objs.size := Heap.lt_size (N' _ (.head _)).1
  refine' For_trip (cst := news) (vs := vs) (ts := ts) (nn := nn) (l := l) (J := fun i m₁ n₁ => ∃ us c, n₁ = (D, listOf (List.toArray us) c) :: news ∧ m₁ (Str.ofString "data") = some (.ref D) ∧ IntsAre us (expand (ts.take i))) ?h1 F' N' (.tail _ hl) ?h2 ?h3 ?h4 ?h5 ?h6 hT ?h7 ?h8 ?turn ?done ?hE
  case h1 => rfl
  case h2 => exact fun Q' q => ld F' rfl q
  case h3 => rfl
  case h4 => rfl
  case h5 => rfl
  case h6 => rfl
  case h7 => exact ⟨[], 0, rfl, rfl, .nil⟩
  case h8 => rintro i m₁ n₁ ⟨us, c, rfl, _⟩ p hp; exact .tail _ hp
  case hE => passes_own
  case turn =>
    rintro i k v l' t0 t1 t2 m₁ news₁ h tk' own hts ⟨us, c, rfl, hmd, hus⟩ hown F₁ N₁
    have e : m₁ = fun y => if y = Str.ofString "data" then some (.ref D) else m₁ y := funext fun y => by
      by_cases hy : y = Str.ofString "data"
      · rw [if_pos hy, hy, hmd]
      · rw [if_neg hy]
    rw [e] at F₁
    clear hmd e
    have hoff : ∀ p ∈ own ++ news, p.1 ≠ D := by
      intro p hp e
      rcases List.mem_append.mp hp with hp | hp
      · have := hown p hp
        simp only [List.mem_cons, List.not_mem_nil, or_false] at this
        rcases this with h9 | h9
        · rw [e] at h9; exact absurd (h9 ▸ hDs) (Nat.lt_irrefl _)
        · exact hDl (e.symm.trans h9)
      · exact absurd (e ▸ l1 p hp) (Nat.lt_irrefl _)
    have N₂ : News g' L' h ((D, listOf (List.toArray us) c) :: (own ++ news)) := fun p hp => N₁ p (by
      rcases List.mem_cons.mp hp with rfl | hp
      · exact List.mem_append_right _ (.head _)
      · rcases List.mem_append.mp hp with hp | hp
        · exact List.mem_append_left _ hp
        · exact List.mem_append_right _ (.tail _ hp))
    clear N₁
    have hat := tok_at hok hts
    have hlen : us.length = (expand (List.take i ts)).length := hus.length
    have hle := expand_le hok i
    rcases hat with ⟨rfl, hv0, hv1, rfl⟩ | hc
    · k_steps
      rename News _ _ _ _ => Nq
      rename Fr _ _ _ _ => Fq
      refine LoopStep2.intro (news₂ := (D, listOf (List.toArray (us ++ [Value.int v t1])) (c + 1)) :: news) Fq (ledger_back Nq) rfl ⟨us ++ [.int v t1], c + 1, rfl, rfl, ?_⟩
      rw [expand_next hts]
      unfold expStep
      rw [if_pos rfl]
      exact ints_snoc hus v t1
    · obtain ⟨rfl, hc⟩ := hc
      repeat ((fail_if_success (with_reducible show wpAny _ _ (pyIter _) _ _ _)); walk1)
      rename_i hr tr ur vr R' F₂ N₃ hkeep
      refine' range_inv (n := l'.toNat) (J := fun j m₂ nx => ∃ us' c', nx = (D, listOf (List.toArray us') c') :: (own ++ news) ∧ m₂ (Str.ofString "data") = some (.ref D) ∧ m₂ (Str.ofString "value") = some (.int v t1) ∧ IntsAre us' (copyN v j (expand (ts.take i)))) ?r1 R' ?r2 ?r3 F₂ N₃ ?r4 ?rt ?rd
      case r1 => rfl
      case r2 => exact rsmall1 (by omega) (by omega)
      case r3 => exact rsize1 l'
      case r4 => exact ⟨us, c, rfl, rfl, rfl, hus⟩
      case rt =>
        rintro j t m₂ nx h3 tk3 own2 hj hoff2 ⟨us', c', rfl, hm1, hm2, hus'⟩ F₃ N₄
        rw [map_at hm1, map_at (m := m₂) hm2] at F₃
        have hoff3 : ∀ p ∈ (own ++ news) ++ own2, p.1 ≠ D := by
          intro p hp
          rcases List.mem_append.mp hp with hp | hp
          · exact hoff p hp
          · exact hoff2 p hp D (.head _)
        have hl4 : (copyN v j (expand (List.take i ts))).length = (expand (List.take i ts)).length + j := copyN_length _ _ _
        have hl3 : us'.length = (expand (List.take i ts)).length + j := by rw [hus'.length, copyN_length]
        have N₅ : News g' L' h3 ((D, listOf (List.toArray us') c') :: ((own ++ news) ++ own2)) := N₄
        clear N₄
        k_steps
        rename News _ _ _ _ => Nq
        rename Fr _ _ _ _ => Fq
        refine InvEndG.intro Fq Nq ⟨_, c' + 1, rfl, rfl, rfl, ?_⟩ hoff2 (fun p hp => List.mem_append_left own2 hp) (fun p hp => .tail _ (List.mem_append_right _ hp))
        rw [copyN_succ, back1, ← back_get (xs := copyN v j (expand (List.take i ts))) (by omega) (by omega)]
        exact ints_snoc hus' _ _
      case rd =>
        rintro m₂ nx h3 tk3 ⟨us', c', rfl, hm1, hm2, hus'⟩ F₃ N₄
        dsimp only
        k_steps
        refine LoopStep2.intro (news₂ := (D, listOf us'.toArray c') :: news) (by assumption) (ledger_back (by assumption)) rfl ⟨us', c', rfl, hm1, ?_⟩
        rw [expand_next hts]
        unfold expStep
        rw [if_neg (show ¬ (1 : Int) = 0 by decide)]
        exact hus'
  case done =>
    rintro m₁ news₁ h tk' ⟨us, c, rfl, hmd, hus⟩ F₁ N₁
    have e : m₁ = fun y => if y = Str.ofString "data" then some (.ref D) else m₁ y := funext fun y => by
      by_cases hy : y = Str.ofString "data"
      · rw [if_pos hy, hy, hmd]
      · rw [if_neg hy]
    rw [e] at F₁
    clear hmd e
    dsimp only
    k_steps
    refine hret D us c h tk' (by assumption) (by assumption) l1 ?_
    rw [hT.length, List.take_length] at hus
    exact hus
end
end S302
end
-- C302c
section
open PySem PySem.W PyProof.Rows PySem.Calls PySem.Spec Sq
namespace S302
theorem clamp_lo (a : Int) : 4 ≤ (if 255 < (if 4 > a then 4 else a) then (255 : Int) else if 4 > a then 4 else a) := by
  (repeat' split) <;> omega
theorem clamp_hi (a : Int) : (if 255 < (if 4 > a then 4 else a) then (255 : Int) else if 4 > a then 4 else a) ≤ 255 := by
  (repeat' split) <;> omega
section
variable {prog : Program} {w : World} {p : Program} {loose : List Str} {mean : ExcName → Option Value} {mg mb : Str → Option Value} {dp un : Nat} {gd : Option (List Code)} {cn : Str} {cs : Scope} {a : Addr} {ccd : Value} {cl : List (Str × Addr)} {outer : List Env} {A₀ : Around} {base h₀ : Heap} {L : Addr} {m : Str → Option Value} {news : List (Addr × Obj)} {s : Shared} {Q E : Value → Shared → Prop}
theorem cellT : CellTells prog w (hd.heap_39 w.params) p loose mean mg mb 48 0 := by
  w_top on
  cell_step
theorem byte_call {x : Int} {t1 : Tok}
    (B : Below A₀ base outer h₀) (F : Fr h₀ L s.heap m) (X : (hd.heap_39 w.params).In h₀) (N : News h₀ L s.heap news) (T : Top p loose mean mg mb h₀) (hk : cs.kind = .function)
    (hd : dp + 2 < recursionLimit)
    (hret : ∀ r t h' tk', 0 ≤ r → r ≤ 255 → Fr h₀ L h' m → News h₀ L h' news → Q (.int r t) { s with heap := h', toks := tk' }) :
    wpAny (model prog w) (ktrTop dp un gd cn cs L a ccd cl outer) (call (.ref 55) [.int x t1]) Q E s := by
  w_top on
  refine wpAny_call ?_
  k_dflt cell_enter
  k_steps
  all_goals (rename News _ _ _ _ => Nq; rename Fr _ _ _ _ => Fq)
  all_goals first
    | exact hret _ _ _ _ (by decide) (by decide) Fq Nq
    | exact hret _ _ _ _ (fm0 _ (by decide)) (Int.le_of_lt_add_one (fm1 _ (by decide))) Fq Nq
theorem distance_call {x z : Int} {t1 t2 : Tok}
    (B : Below A₀ base outer h₀) (F : Fr h₀ L s.heap m) (X : (hd.heap_39 w.params).In h₀) (N : News h₀ L s.heap news) (T : Top p loose mean mg mb h₀) (hk : cs.kind = .function)
    (hz : 1 ≤ z) (hd : dp + 2 < recursionLimit)
    (hret : ∀ r t h' tk', 1 ≤ r → r ≤ z → Fr h₀ L h' m → News h₀ L h' news → Q (.int r t) { s with heap := h', toks := tk' }) :
    wpAny (model prog w) (ktrTop dp un gd cn cs L a ccd cl outer) (call (.ref 62) [.int x t1, .int z t2]) Q E s := by
  w_top on
  refine wpAny_call ?_
  k_dflt cell_enter
  have hz0 : z ≠ 0 := by omega
  k_steps
  all_goals (rename News _ _ _ _ => Nq; rename Fr _ _ _ _ => Fq)
  all_goals first
    | exact hret _ _ _ _ (by omega) (by omega) Fq Nq
    | exact hret _ _ _ _ (by have := fm0 (x.fdiv 3) (n := z) (by omega); omega) (by have := fm1 (x.fdiv 3) (n := z) (by omega); omega) Fq Nq
theorem length_call {x y z : Int} {t1 t2 t3 : Tok}
    (B : Below A₀ base outer h₀) (F : Fr h₀ L s.heap m) (X : (hd.heap_39 w.params).In h₀) (N : News h₀ L s.heap news) (T : Top p loose mean mg mb h₀) (hk : cs.kind = .function)
    (hd : dp + 2 < recursionLimit)
    (hret : ∀ r t h' tk', 4 ≤ r → r ≤ 255 → Fr h₀ L h' m → News h₀ L h' news → Q (.int r t) { s with heap := h', toks := tk' }) :
    wpAny (model prog w) (ktrTop dp un gd cn cs L a ccd cl outer) (call (.ref 69) [.int x t1, .int y t2, .int z t3]) Q E s := by
  w_top on
  refine wpAny_call ?_
  k_dflt cell_enter
  k_steps
  all_goals (rename News _ _ _ _ => Nq; rename Fr _ _ _ _ => Fq)
  all_goals exact hret _ _ _ _ (clamp_lo _) (clamp_hi _) Fq Nq
end
end S302
end
-- C302d
section
open PySem PySem.W PyProof.Rows PySem.Calls PySem.Spec Sq
namespace S302
def RowOk (z : Int) (led : List (Addr × Obj)) (v : Value) : Prop := ∃ D k v' l u0 u1 u2 n, v = .ref D ∧ (D, tup3 k v' l u0 u1 u2 n) ∈ led ∧ tokStep z (k, v', l) = none
theorem rows_all {h₀ h : Heap} {L : Addr} {led : List (Addr × Obj)} {z : Int} {vs : List Value} (_ : News h₀ L h led) (hall : ∀ v ∈ vs, RowOk z led v) : ∀ v ∈ vs, RowOk z led v := hall
theorem news_two {h₀ h : Heap} {L : Addr} {led news : List (Addr × Obj)} {q : Addr × Obj} (N : News h₀ L h led) (hq : q ∈ led) (hs : ∀ p ∈ news, p ∈ led) : News h₀ L h (q :: news) := fun p hp => by
  rcases List.mem_cons.mp hp with rfl | hp
  · exact N _ hq
  · exact N _ (hs p hp)
section
variable {prog : Program} {w : World} {p : Program} {loose : List Str} {mean : ExcName → Option Value} {mg mb : Str → Option Value} {dp un : Nat} {gd : Option (List Code)} {cn : Str} {cs : Scope} {a : Addr} {ccd : Value} {cl : List (Str × Addr)} {outer : List Env} {A₀ : Around} {base h₀ : Heap} {L : Addr} {m : Str → Option Value} {news : List (Addr × Obj)} {s : Shared} {Q E : Value → Shared → Prop}
theorem bent_call {x z y : Int} {t1 t2 t3 : Tok}
    (B : Below A₀ base outer h₀) (F : Fr h₀ L s.heap m) (X : (hd.heap_39 w.params).In h₀) (N : News h₀ L s.heap news) (T : Top p loose mean mg mb h₀) (hk : cs.kind = .function)
    (hd : dp + 2 < recursionLimit)
    (hret : ∀ D k v l u0 u1 u2 n h' tk', tokStep z (k, v, l) = none → Fr h₀ L h' m → News h₀ L h' ((D, tup3 k v l u0 u1 u2 n) :: news) → Q (.ref D) { s with heap := h', toks := tk' }) :
    wpAny (model prog w) (ktrTop dp un gd cn cs L a ccd cl outer) (call (.ref 76) [.int x t1, .int z t2, .int y t3]) Q E s := by
  w_top on
  have r1 : tokStep z (0, -1, 0) = none := tokStep_no (by omega)
  have r2 : tokStep z (0, 256, 0) = none := tokStep_no (by omega)
  have r3 : tokStep z (1, 0, 4) = none := tokStep_no (by omega)
  have r4 : tokStep z (1, z + 1, 4) = none := tokStep_no (by omega)
  have r5 : tokStep z (1, 1, 3) = none := tokStep_no (by omega)
  have r6 : tokStep z (1, 1, 256) = none := tokStep_no (by omega)
  have r7 : tokStep z (2, 1, 4) = none := tokStep_no (by omega)
  have r8 : tokStep z (-1, 0, 0) = none := tokStep_no (by omega)
  have r9 : tokStep z (-1, 1, 4) = none := tokStep_no (by omega)
  have hy0 : 0 ≤ (if y < 0 then -y else y) := by split <;> omega
  have r10 : tokStep z (0, 7, 1 + if y < 0 then -y else y) = none := tokStep_no (by omega)
  have r11 : tokStep z (0, 7, -1 - if y < 0 then -y else y) = none := tokStep_no (by omega)
  have r12 : tokStep z (2 + if y < 0 then -y else y, 0, 0) = none := tokStep_no (by omega)
  clear hy0
  refine wpAny_call ?_
  k_dflt cell_enter
  repeat ((fail_if_success (with_reducible show wpAny _ _ (subscriptTail _ _ _ _) _ _ _)); walk1)
  rename News _ _ _ _ => Nq
  refine' item_list_any Nq ?k1 (fm0 _ (by decide)) ?k2 ?k3 ?k4 ?k5
  case k1 => k_mem
  case k2 => exact fm1 _ (by decide)
  case k3 => (simp only [List.length_cons, List.length_nil]; decide)
  case k5 => with_unfolding_all rfl
  intro v hv
  have q := rows_all (z := z) Nq (by
    iterate 12 refine List.forall_mem_cons.mpr ⟨⟨_, _, _, _, _, _, _, 0, rfl, by k_mem, by assumption⟩, ?_⟩
    exact List.forall_mem_nil _) v hv
  obtain ⟨D, k', v', l', u0, u1, u2, n', rfl, hmem, hbad⟩ := q
  dsimp only
  k_steps
  rename News _ _ _ _ => Nr
  rename Fr _ _ _ _ => Fr'
  refine hret D k' v' l' u0 u1 u2 n' _ _ hbad Fr' (news_two Nr hmem ?_)
  intro p h
  iterate 13 refine List.Mem.tail _ ?_
  exact h
end
end S302
end
-- C302e
section
open PySem PySem.W PyProof.Rows PySem.Calls PySem.Spec Sq
namespace S302
local macro_rules | `(tactic| walk_at "call ref") => `(tactic| ((with_reducible show wpAny _ _ (call (Value.ref 41) _) _ _ _); (refine wpAny_call ?_); k_dflt (refine' code_def ?k1 ?k2 ?k3 ?k4 ?k5 ?kA ?kF ?kK ?k6 ?k7 ?k8 ?k9 ?kB ?_ ?c2 ?c3 ?c4 ?c5; (case kA => exact rfl); (case kF => exact rfl); (case kK => exact rfl); (case k1 => k_asm); (case k2 => k_asm); (case k3 => k_asm); (case k4 => k_asm); (case k5 => k_asm); (case k6 => k_is); (case k7 => k_is); (case k8 => ktr_room); (case k9 => exact BindsTo.of_eq rfl); (case c5 => decide); (case kB => exact locs rfl); (case c2 => exact rfl); (case c3 => exact rfl); (case c4 => exact rfl); k_whole; intro g' L' h' FG' F' N' B' X' T'; (try dsimp only); (try k_fold))))
local macro_rules | `(tactic| walk_at "call ref") => `(tactic| ((with_reducible show wpAny _ _ (call (Value.ref 34) _) _ _ _); k_dflt (refine' tokens_ok_call ?k1 ?k2 ?k3 ?k4 ?k5 ?k6 ?k7 ?k8 ?k9 ?k10 ?_; (case k1 => k_asm); (case k2 => k_asm); (case k3 => k_asm); (case k4 => k_asm); (case k5 => k_asm); (case k6 => first | exact rfl | assumption); (case k7 => first | assumption | k_mem); (case k8 => assumption); (case k9 => assumption); (case k10 => ktr_room)); intro h9 tk9 F9 N9; (try dsimp only); (try k_sweep)))
local macro_rules | `(tactic| walk_at "call ref") => `(tactic| ((with_reducible show wpAny _ _ (call (Value.ref 41) _) _ _ _); k_dflt (refine' lz_expand_call ?k1 ?k2 ?k3 ?k4 ?k5 ?k6 ?k7 ?k8 ?k9 ?kz ?k10 ?k11 ?_; (case k1 => k_asm); (case k2 => k_asm); (case k3 => k_asm); (case k4 => k_asm); (case k5 => k_asm); (case k6 => first | exact rfl | assumption); (case k7 => first | assumption | k_mem); (case k8 => assumption); (case k9 => assumption); (case kz => omega); (case k10 => ktr_room); (case k11 => ktr_units)); intro D9 us9 c9 h9 tk9 F9 N9 l9 hI9; (try dsimp only); (try k_sweep)))
section
variable {prog : Program} {w : World} {p : Program} {loose : List Str} {mean : ExcName → Option Value} {mg mb : Str → Option Value} {dp un : Nat} {gd : Option (List Code)} {cn : Str} {cs : Scope} {a : Addr} {ccd : Value} {cl : List (Str × Addr)} {outer : List Env} {A₀ : Around} {base h₀ : Heap} {L : Addr} {m : Str → Option Value} {news : List (Addr × Obj)} {s : Shared} {Q E : Value → Shared → Prop}
theorem expand_ok {l : Addr} {vs : List Value} {ts : List Tk} {nn : Nat}
    (B : Below A₀ base outer h₀) (F : Fr h₀ L s.heap m) (X : (hd.heap_39 w.params).In h₀) (N : News h₀ L s.heap news) (T : Top p loose mean mg mb h₀) (hk : cs.kind = .function)
    (hl : (l, listOf vs.toArray nn) ∈ news) (hT : ToksIn news vs ts) (hok : tokOk ts = true) (hbig : 255 * ts.length ≤ 10000000) (hd : dp + 5 < recursionLimit) (hu : un + 100 < cLine)
    (hret : ∀ D us c h' tk', Fr h₀ L h' m → News h₀ L h' ((D, listOf (List.toArray us) c) :: news) → (∀ p ∈ news, p.1 < D) → IntsAre us (expand ts) → Q (.ref D) { s with heap := h', toks := tk' }) :
    wpAny (model prog w) (ktrTop dp un gd cn cs L a ccd cl outer) (call (.ref 83) [.ref l]) Q E s := by
  w_top on
  refine wpAny_call ?_
  k_dflt cell_enter
  k_steps
  rename News _ _ _ _ => Nq
  rename Fr _ _ _ _ => Fq
  exact hret _ _ _ _ _ Fq Nq (by assumption) (by assumption)
local macro_rules | `(tactic| walk_at "call ref") => `(tactic| ((with_reducible show wpAny _ _ (call (Value.ref 83) _) _ _ _); k_dflt (refine' expand_ok ?k1 ?k2 ?k3 ?k4 ?k5 ?k6 ?k7 ?k8 ?k9 ?kz ?k10 ?k11 ?_; (case k1 => k_asm); (case k2 => k_asm); (case k3 => k_asm); (case k4 => k_asm); (case k5 => k_asm); (case k6 => first | exact rfl | assumption); (case k7 => first | assumption | k_mem); (case k8 => assumption); (case k9 => assumption); (case kz => omega); (case k10 => ktr_room); (case k11 => ktr_units)); intro D9 us9 c9 h9 tk9 F9 N9 l9 hI9; (try dsimp only); (try k_sweep)))
local macro_rules | `(tactic| walk_at "compareOp NotEq ref ref") => `(tactic| ((with_reducible show wpAny _ _ (compareOp CmpOp.NotEq (Value.ref _) (Value.ref _)) _ _ _); k_dflt (refine' ne_ints_eq ?k1 ?k2 ?k3 ?k4 ?k5 ?k7 ?k6 ?_; (case k1 => k_asm); (case k2 => k_mem); (case k3 => first | assumption | exact List.Mem.tail _ (by assumption) | k_mem); (case k4 => assumption); (case k5 => assumption); (case k7 => exact (by assumption : Good _ _).2); (case k6 => ktr_units))))
local macro_rules | `(tactic| walk_at "compareOp NotEq ref ref") => `(tactic| ((with_reducible show wpAny _ _ (compareOp CmpOp.NotEq (Value.ref _) (Value.ref _)) _ _ _); k_dflt (refine' ne_toks ?k1 ?k2 ?k3 ?k4 ?k5 ?k6 ?_; (case k1 => k_asm); (case k2 => first | assumption | exact List.Mem.tail _ (by assumption) | k_mem); (case k3 => k_mem); (case k4 => exact ToksIn.mono (by assumption) (fun _ hp => .tail _ hp)); (case k5 => exact ToksIn.mono (by assumption) (fun _ hp => .tail _ hp)); (case k6 => ktr_units)); (simp only [decide_true, Bool.not_true])))
theorem holds_call {l q : Addr} {vs us : List Value} {ts : List Tk} {ds : List Int} {nn nn' : Nat}
    (B : Below A₀ base outer h₀) (F : Fr h₀ L s.heap m) (X : (hd.heap_39 w.params).In h₀) (N : News h₀ L s.heap news) (T : Top p loose mean mg mb h₀) (hk : cs.kind = .function)
    (hl : (l, listOf vs.toArray nn) ∈ news) (hT : ToksIn news vs ts) (hq : (q, listOf us.toArray nn') ∈ news) (hI : IntsAre us ds) (hG : Good ts ds) (hbig : 255 * ts.length ≤ 10000000) (hd : dp + 9 < recursionLimit) (hu : un + 200 < cLine)
    (hret : ∀ h' tk', Fr h₀ L h' m → News h₀ L h' news → Q (.bool true) { s with heap := h', toks := tk' }) :
    wpAny (model prog w) (ktrTop dp un gd cn cs L a ccd cl outer) (call (.ref 88) [.ref l, .ref q]) Q E s := by
  w_top on
  have hok : tokOk ts = true := good_ok hG
  have hlen : vs.length = ts.length := hT.length
  refine wpAny_call ?_
  k_dflt cell_enter
  repeat ((fail_if_success (with_reducible show wpAny _ _ (exec (Stmt.Assign _ _ _) _) _ _ _)); walk1)
  rename Fr _ _ _ _ => F0
  rename News _ _ _ _ => N0
  refine' assign_copy (cl := []) ?h1 F0 N0 hl ?h2 ?h3 ?h4 ?h5 ?h6 ?h7 ?h8 ?h9 ?h10 ?h11 ?h12 ?h13 ?h14 ?h15 ?h16
  case h1 => rfl
  case h2 => omega
  case h3 => rfl
  case h4 => exact fun Q' q => ld F0 rfl q
  case h5 => with_unfolding_all rfl
  case h6 => rfl
  case h7 => decide
  case h8 => rfl
  case h9 => decide
  case h10 => rfl
  case h11 => rfl
  case h12 => rfl
  case h13 => exact fun _ => rfl
  case h14 => exact fun _ => rfl
  case h15 => decide
  case h16 =>
    intro D c h1 tk1 F1 N1 hoff
    have hl1 : (l, listOf vs.toArray nn) ∈ (D, listOf vs.toArray c) :: news := .tail _ hl
    have hq1 : (q, listOf us.toArray nn') ∈ (D, listOf vs.toArray c) :: news := .tail _ hq
    have hT1 : ToksIn ((D, listOf vs.toArray c) :: news) vs ts := hT.mono fun _ hp => .tail _ hp
    dsimp only
    k_steps
    rename News _ _ _ _ => Nq
    rename Fr _ _ _ _ => Fq
    exact hret _ _ Fq (fun p hp => Nq p (.tail _ (.tail _ hp)))
end
end S302
end
-- C302f
section
open PySem PySem.W PyProof.Rows PySem.Calls PySem.Spec Sq
namespace S302
local macro_rules | `(tactic| walk_at "binaryOp Mult ref int") => `(tactic| ((with_reducible show wpAny _ _ (binaryOp Operator.Mult (Value.ref _) (Value.int _ _)) _ _ _); k_dflt (refine' mul_rep ?k1 ?k2 ?k3 ?k4 ?k5 ?_; (case k1 => k_asm); (case k2 => k_asm); (case k3 => k_mem); (case k4 => omega); (case k5 => omega)); intro D' h' F' N' l1; (try k_lt l1); (try k_sweep)))
local macro_rules | `(tactic| walk_at "binaryOp Add ref ref") => `(tactic| ((with_reducible show wpAny _ _ (binaryOp Operator.Add (Value.ref _) (Value.ref _)) _ _ _); k_dflt (refine' add_any ?k1 ?k2 ?k3 ?k4 ?k5 ?_; (case k1 => k_asm); (case k2 => k_asm); (case k3 => k_mem); (case k4 => k_mem); (case k5 => (simp only [List.length_append, List.length_replicate, List.length_cons, List.length_nil]; omega))); intro D' h' F' N' l1; (try k_lt l1); (try k_sweep)))
local macro_rules | `(tactic| walk_at "call ref") => `(tactic| ((with_reducible show wpAny _ _ (call (Value.ref 34) _) _ _ _); k_dflt (refine' tokens_ok_call ?k1 ?k2 ?k3 ?k4 ?k5 ?k6 ?k7 ?k8 ?k9 ?k10 ?_; (case k1 => k_asm); (case k2 => k_asm); (case k3 => k_asm); (case k4 => k_asm); (case k5 => k_asm); (case k6 => first | exact rfl | assumption); (case k7 => k_mem); (case k8 => exact ToksIn.append (ToksIn.append (.cons (by k_mem) .nil) (toks_rep (by k_mem) _)) (.cons (by k_mem) .nil)); (case k9 => exact (tokOk4' _ _ _ _ _ _ _ (by decide)).trans (by first | exact due4_t (by omega) | exact due4_f (by omega))); (case k10 => ktr_room)); intro h9 tk9 F9 N9; (try dsimp only); (try k_sweep)))
section
variable {prog : Program} {w : World} {p : Program} {loose : List Str} {mean : ExcName → Option Value} {mg mb : Str → Option Value} {dp un : Nat} {gd : Option (List Code)} {cn : Str} {cs : Scope} {a : Addr} {ccd : Value} {cl : List (Str × Addr)} {outer : List Env} {A₀ : Around} {base h₀ : Heap} {L : Addr} {m : Str → Option Value} {news : List (Addr × Obj)} {s : Shared} {Q E : Value → Shared → Prop}
theorem far_call {x : Int} {t1 : Tok}
    (B : Below A₀ base outer h₀) (F : Fr h₀ L s.heap m) (X : (hd.heap_39 w.params).In h₀) (N : News h₀ L s.heap news) (T : Top p loose mean mg mb h₀) (hk : cs.kind = .function)
    (hd : dp + 5 < recursionLimit) (hu : un + 200 < cLine)
    (hret : ∀ h' tk', Fr h₀ L h' m → News h₀ L h' news → Q (.bool true) { s with heap := h', toks := tk' }) :
    wpAny (model prog w) (ktrTop dp un gd cn cs L a ccd cl outer) (call (.ref 95) [.int x t1]) Q E s := by
  w_top on
  refine wpAny_call ?_
  k_dflt cell_enter
  k_steps
  all_goals (rename News _ _ _ _ => Nq; rename Fr _ _ _ _ => Fq)
  all_goals refine hret _ _ Fq (cb_drop Nq ?_)
  all_goals intro p h
  all_goals iterate 9 refine List.Mem.tail _ ?_
  all_goals exact h
end
end S302
end
-- C302h
section
open PySem PySem.W PyProof.Rows PySem.Calls PySem.Spec Sq
namespace S302
def J1 (q r c1 c2 l : Addr) (o1 o2 : Obj) (i : Nat) (m₁ : Str → Option Value) (nx : List (Addr × Obj)) : Prop :=
  ∃ vs1 us1 ts ds n n' tl, nx = (q, listOf (List.toArray us1) n') :: (r, listOf (List.toArray vs1) n) :: (c2, o2) :: (c1, o1) :: tl ∧
    m₁ (Str.ofString "run") = some (.ref r) ∧ m₁ (Str.ofString "due") = some (.ref q) ∧ m₁ (Str.ofString "script") = some (.ref l) ∧ ToksIn tl vs1 ts ∧ IntsAre us1 ds ∧ Good ts ds ∧ ts.length = i ∧ ds.length = i ∧
    (∀ p ∈ tl, p.1 ≠ q ∧ p.1 ≠ r ∧ p.1 ≠ c1 ∧ p.1 ≠ c2)
theorem J1_end {h₀ h' : Heap} {L q r c1 c2 l D : Addr} {o1 o2 : Obj} {i n n' : Nat} {m' : Str → Option Value} {own tl : List (Addr × Obj)} {vs1 us1 : List Value} {ts : List Tk} {ds : List Int} {b : Int} {tb u0 u1 u2 : Tok} {s₁ : Shared} {tk : Nat}
    (F : Fr h₀ L h' m') (N : News h₀ L h' ((D, tup3 0 b 0 u0 u1 u2 0) :: (q, listOf (List.toArray (us1 ++ [.int b tb])) (n' + 1)) :: (r, listOf (List.toArray (vs1 ++ [.ref D])) (n + 1)) :: (c2, o2) :: (c1, o1) :: (tl ++ own)))
    (hm1 : m' (Str.ofString "run") = some (.ref r)) (hm2 : m' (Str.ofString "due") = some (.ref q)) (hm3 : m' (Str.ofString "script") = some (.ref l))
    (hT : ToksIn tl vs1 ts) (hU : IntsAre us1 ds) (hG : Good ts ds) (h0 : 0 ≤ b) (h1 : b ≤ 255) (hlt : ts.length = i) (hld : ds.length = i)
    (htl : ∀ p ∈ tl, p.1 ≠ q ∧ p.1 ≠ r ∧ p.1 ≠ c1 ∧ p.1 ≠ c2) (lD : q < D ∧ r < D ∧ c2 < D ∧ c1 < D ∧ AllLt D (tl ++ own))
    (hoff : OwnOff own ([q, r, c2, c1] ++ tl.map (·.1))) :
    InvEndG h₀ L (J1 q r c1 c2 l o1 o2 (i + 1)) own s₁ { s₁ with heap := h', toks := tk } := by
  obtain ⟨lD1, lD2, lD3, lD4, lD5⟩ := lD
  have lD6 := allLt_mem lD5
  refine InvEndG.intro (nx := (q, listOf (List.toArray (us1 ++ [.int b tb])) (n' + 1)) :: (r, listOf (List.toArray (vs1 ++ [.ref D])) (n + 1)) :: (c2, o2) :: (c1, o1) :: (D, tup3 0 b 0 u0 u1 u2 0) :: tl) F N
    ⟨_, _, ts ++ [(0, b, 0)], ds ++ [b], _, _, _, rfl, hm1, hm2, hm3, ToksIn.append (hT.mono fun _ hp => .tail _ hp) (.cons (.head _) .nil), ints_snoc hU _ _, good_lit hG h0 h1, by simp [hlt], by simp [hld], ?_⟩
    (ownOff_ins (A := [q, r, c2, c1]) (B := tl.map fun x : Addr × Obj => x.1) hoff fun p hp => Nat.ne_of_lt (lD6 p (List.mem_append_right _ hp))) ?_ ?_
  · intro p hp
    rcases List.mem_cons.mp hp with rfl | hp
    · exact ⟨Nat.ne_of_gt lD1, Nat.ne_of_gt lD2, Nat.ne_of_gt lD4, Nat.ne_of_gt lD3⟩
    · exact htl p hp
  · intro p hp
    simp only [List.mem_cons, List.mem_append] at hp ⊢
    rcases hp with h | h | h | h | h | h
    · exact .inr (.inl h)
    · exact .inr (.inr (.inl h))
    · exact .inr (.inr (.inr (.inl h)))
    · exact .inr (.inr (.inr (.inr (.inl h))))
    · exact .inl h
    · exact .inr (.inr (.inr (.inr (.inr (.inl h)))))
  · intro p hp
    exact .tail _ (.tail _ (.tail _ (.tail _ (.tail _ (List.mem_append_right _ hp)))))
def J2 (c1 c2 l : Addr) (st : Int) (i : Nat) (m₁ : Str → Option Value) (nx : List (Addr × Obj)) : Prop :=
  ∃ r q o1 o2 v1 v2 vs1 us1 ts ds n n' ts' tl, nx = (c2, o2) :: (c1, o1) :: tl ∧ o1.data = .cell v1 ∧ o2.data = .cell v2 ∧
    m₁ (Str.ofString "run") = some (.ref r) ∧ m₁ (Str.ofString "due") = some (.ref q) ∧ m₁ (Str.ofString "script") = some (.ref l) ∧ m₁ (Str.ofString "steps") = some (.int st ts') ∧
    (r, listOf (List.toArray vs1) n) ∈ tl ∧ (q, listOf (List.toArray us1) n') ∈ tl ∧ ToksIn tl vs1 ts ∧ IntsAre us1 ds ∧ Good ts ds ∧ ts.length ≤ 4 + i ∧ 1 ≤ ds.length ∧ ds.length ≤ 4 + 255 * i ∧
    (∀ p ∈ tl, p.1 ≠ c1 ∧ p.1 ≠ c2)
/-- a turn's end of the second loop, whatever the ledger's order -/
theorem J2_end {h₀ h' : Heap} {L r q c1 c2 l : Addr} {o1 o2 : Obj} {v1 v2 : Option Value} {i n n' : Nat} {st : Int} {ts' : Tok} {m' : Str → Option Value} {own led tl : List (Addr × Obj)} {vs1 us1 : List Value} {ts : List Tk} {ds : List Int} {s₁ : Shared} {tk : Nat}
    (F : Fr h₀ L h' m') (N : News h₀ L h' led) (hled : ∀ p ∈ (c2, o2) :: (c1, o1) :: tl, p ∈ led) (hown : ∀ p ∈ own, p ∈ led) (d1 : o1.data = .cell v1) (d2 : o2.data = .cell v2)
    (hm1 : m' (Str.ofString "run") = some (.ref r)) (hm2 : m' (Str.ofString "due") = some (.ref q)) (hm3 : m' (Str.ofString "script") = some (.ref l)) (hm4 : m' (Str.ofString "steps") = some (.int st ts'))
    (hr : (r, listOf (List.toArray vs1) n) ∈ tl) (hq : (q, listOf (List.toArray us1) n') ∈ tl)
    (hT : ToksIn tl vs1 ts) (hU : IntsAre us1 ds) (hG : Good ts ds) (hlt : ts.length ≤ 4 + (i + 1)) (hl1 : 1 ≤ ds.length) (hl2 : ds.length ≤ 4 + 255 * (i + 1))
    (htl : ∀ p ∈ tl, p.1 ≠ c1 ∧ p.1 ≠ c2) (hoff : OwnOff own ([c2, c1] ++ tl.map (·.1))) :
    InvEndG h₀ L (J2 c1 c2 l st (i + 1)) own s₁ { s₁ with heap := h', toks := tk } :=
  InvEndG.intro (nx := (c2, o2) :: (c1, o1) :: tl) F N ⟨r, q, o1, o2, v1, v2, vs1, us1, ts, ds, n, n', ts', tl, rfl, d1, d2, hm1, hm2, hm3, hm4, hr, hq, hT, hU, hG, hlt, hl1, hl2, htl⟩ hoff hled hown
def OffA (c1 c2 : Addr) (own : List (Addr × Obj)) (a : Addr) : Prop := a ≠ c1 ∧ a ≠ c2 ∧ ∀ p ∈ own, p.1 ≠ a
theorem offA_lt {c1 c2 a : Addr} {tl own : List (Addr × Obj)} (h2 : c2 < a) (h1 : c1 < a) (hA : AllLt a (tl ++ own)) : OffA c1 c2 own a :=
  ⟨Nat.ne_of_gt h1, Nat.ne_of_gt h2, fun p hp => Nat.ne_of_lt (allLt_mem hA p (List.mem_append_right _ hp))⟩
theorem J2_end5 {h₀ h' : Heap} {L c1 c2 l a1 a2 a3 a4 a5 : Addr} {x2 x4 x5 o1 o2 : Obj} {v1 v2 : Option Value} {i n n' : Nat} {st : Int} {ts' : Tok} {m' : Str → Option Value} {own tl : List (Addr × Obj)} {vs1 us1 : List Value} {ts : List Tk} {ds : List Int} {s₁ : Shared} {tk : Nat}
    (F : Fr h₀ L h' m') (N : News h₀ L h' ((a1, listOf (List.toArray vs1) n) :: (a2, x2) :: (a3, listOf (List.toArray us1) n') :: (a4, x4) :: (a5, x5) :: (c2, o2) :: (c1, o1) :: (tl ++ own)))
    (A1 : OffA c1 c2 own a1) (A2 : OffA c1 c2 own a2) (A3 : OffA c1 c2 own a3) (A4 : OffA c1 c2 own a4) (A5 : OffA c1 c2 own a5) (d1 : o1.data = .cell v1) (d2 : o2.data = .cell v2)
    (hm1 : m' (Str.ofString "run") = some (.ref a1)) (hm2 : m' (Str.ofString "due") = some (.ref a3)) (hm3 : m' (Str.ofString "script") = some (.ref l)) (hm4 : m' (Str.ofString "steps") = some (.int st ts'))
    (hT : ToksIn ((a1, listOf (List.toArray vs1) n) :: (a2, x2) :: (a3, listOf (List.toArray us1) n') :: (a4, x4) :: (a5, x5) :: tl) vs1 ts) (hU : IntsAre us1 ds) (hG : Good ts ds) (hlt : ts.length ≤ 4 + (i + 1)) (hl1 : 1 ≤ ds.length) (hl2 : ds.length ≤ 4 + 255 * (i + 1))
    (htl : ∀ p ∈ tl, p.1 ≠ c1 ∧ p.1 ≠ c2) (hoff : OwnOff own ([c2, c1] ++ tl.map (·.1))) :
    InvEndG h₀ L (J2 c1 c2 l st (i + 1)) own s₁ { s₁ with heap := h', toks := tk } := by
  refine J2_end (tl := (a1, listOf (List.toArray vs1) n) :: (a2, x2) :: (a3, listOf (List.toArray us1) n') :: (a4, x4) :: (a5, x5) :: tl) F N ?_ ?_ d1 d2 hm1 hm2 hm3 hm4 (.head _) (.tail _ (.tail _ (.head _))) hT hU hG hlt hl1 hl2 ?_ ?_
  · intro p hp
    simp only [List.mem_cons, List.mem_append] at hp ⊢
    rcases hp with h | h | h | h | h | h | h | h
    · exact .inr (.inr (.inr (.inr (.inr (.inl h)))))
    · exact .inr (.inr (.inr (.inr (.inr (.inr (.inl h))))))
    · exact .inl h
    · exact .inr (.inl h)
    · exact .inr (.inr (.inl h))
    · exact .inr (.inr (.inr (.inl h)))
    · exact .inr (.inr (.inr (.inr (.inl h))))
    · exact .inr (.inr (.inr (.inr (.inr (.inr (.inr (.inl h)))))))
  · intro p hp
    exact .tail _ (.tail _ (.tail _ (.tail _ (.tail _ (.tail _ (.tail _ (List.mem_append_right _ hp)))))))
  · intro p hp
    simp only [List.mem_cons] at hp
    rcases hp with rfl | rfl | rfl | rfl | rfl | hp
    · exact ⟨A1.1, A1.2.1⟩
    · exact ⟨A2.1, A2.2.1⟩
    · exact ⟨A3.1, A3.2.1⟩
    · exact ⟨A4.1, A4.2.1⟩
    · exact ⟨A5.1, A5.2.1⟩
    · exact htl p hp
  · have q5 := ownOff_ins (A := [c2, c1]) hoff A5.2.2
    have q4 := ownOff_ins (A := [c2, c1]) q5 A4.2.2
    have q3 := ownOff_ins (A := [c2, c1]) q4 A3.2.2
    have q2 := ownOff_ins (A := [c2, c1]) q3 A2.2.2
    exact ownOff_ins (A := [c2, c1]) q2 A1.2.2
theorem idx_eq {len j : Nat} {d : Int} (h1 : 1 ≤ d) (h2 : d ≤ len) : ((len : Int) - d + (0 + (j : Int)).fmod d).toNat = len - d.toNat + j % d.toNat := by
  obtain ⟨D, rfl⟩ := Int.eq_ofNat_of_zero_le (show 0 ≤ d by omega)
  have e : (0 + (j : Int)).fmod (D : Int) = ((j % D : Nat) : Int) := by
    rw [Int.zero_add, Int.fmod_eq_emod_of_nonneg _ (by omega)]
    rfl
  rw [e]
  simp only [Int.toNat_natCast]
  omega
theorem ints_app {vs ws : List Value} {ns ms : List Int} (h : IntsAre vs ns) (k : IntsAre ws ms) : IntsAre (vs ++ ws) (ns ++ ms) := by
  induction h with
  | nil => exact k
  | cons n t _ ih => exact .cons n t ih
theorem ints_of_get {ys : List Value} {f : Nat → Int} {n : Nat} (hl : ys.length = n) (hG : ∀ (i : Nat) (y : Value), ys[i]? = some y → ∃ t, y = .int (f i) t) : IntsAre ys ((List.range n).map f) := by
  induction n generalizing ys f with
  | zero =>
    have : ys = [] := List.eq_nil_of_length_eq_zero hl
    subst this
    exact .nil
  | succ n ih =>
    cases ys with
    | nil => simp at hl
    | cons y r =>
      obtain ⟨t, rfl⟩ := hG 0 y rfl
      rw [List.range_succ_eq_map, List.map_cons, List.map_map]
      refine .cons _ _ (ih (by simpa using hl) fun i z hz => hG (i + 1) z (by simpa using hz))
end S302
end
-- C302g
section
open PySem PySem.W PyProof.Rows PySem.Calls PySem.Spec Sq
namespace S302
local macro_rules | `(tactic| walk_at "call ref") => `(tactic| ((with_reducible show wpAny _ _ (call (Value.ref 48) _) _ _ _); k_dflt (refine' cellTells_use ?k1 ?k2 ?k3 ?k4 ?k5 ?k6 ?k7 ?k8 ?k9 ?k10 cellT ?k11 ?k12 ?_; (case k1 => k_asm); (case k2 => k_asm); (case k3 => k_asm); (case k4 => k_asm); (case k5 => k_asm); (case k6 => first | exact rfl | assumption); (case k7 => k_asm); (case k8 => k_asm); (case k9 => omega); (case k10 => omega); (case k11 => ktr_room); (case k12 => ktr_units)); intro t9 h9 tk9 F9 N9; (try dsimp only); (try k_sweep)))
local macro_rules | `(tactic| walk_at "call ref") => `(tactic| ((with_reducible show wpAny _ _ (call (Value.ref 55) _) _ _ _); k_dflt (refine' byte_call ?k1 ?k2 ?k3 ?k4 ?k5 ?k6 ?k10 ?_; (case k1 => k_asm); (case k2 => k_asm); (case k3 => k_asm); (case k4 => k_asm); (case k5 => k_asm); (case k6 => first | exact rfl | assumption); (case k10 => ktr_room)); intro r9 t9 h9 tk9 hr9 hr9' F9 N9; (try dsimp only); (try k_sweep)))
local macro_rules | `(tactic| walk_at "call ref") => `(tactic| ((with_reducible show wpAny _ _ (call (Value.ref 62) _) _ _ _); k_dflt (refine' distance_call ?k1 ?k2 ?k3 ?k4 ?k5 ?k6 ?kz ?k10 ?_; (case k1 => k_asm); (case k2 => k_asm); (case k3 => k_asm); (case k4 => k_asm); (case k5 => k_asm); (case k6 => first | exact rfl | assumption); (case kz => omega); (case k10 => ktr_room)); intro r9 t9 h9 tk9 hr9 hr9' F9 N9; (try dsimp only); (try k_sweep)))
local macro_rules | `(tactic| walk_at "call ref") => `(tactic| ((with_reducible show wpAny _ _ (call (Value.ref 69) _) _ _ _); k_dflt (refine' length_call ?k1 ?k2 ?k3 ?k4 ?k5 ?k6 ?k10 ?_; (case k1 => k_asm); (case k2 => k_asm); (case k3 => k_asm); (case k4 => k_asm); (case k5 => k_asm); (case k6 => first | exact rfl | assumption); (case k10 => ktr_room)); intro r9 t9 h9 tk9 hr9 hr9' F9 N9; (try dsimp only); (try k_sweep)))
local macro_rules | `(tactic| walk_at "call ref") => `(tactic| ((with_reducible show wpAny _ _ (call (Value.ref 88) _) _ _ _); k_dflt (refine' holds_call ?k1 ?k2 ?k3 ?k4 ?k5 ?k6 ?k7 ?k8 ?kq ?ki ?kg ?kz ?k10 ?k11 ?_; (case k1 => k_asm); (case k2 => k_asm); (case k3 => k_asm); (case k4 => k_asm); (case k5 => k_asm); (case k6 => first | exact rfl | assumption); (case k7 => first | assumption | k_mem); (case k8 => first | assumption | exact ToksIn.nil | exact ToksIn.append (ToksIn.mono (by assumption) (fun _ hp => by k_mem)) (.cons (by k_mem) .nil)); (case kq => first | assumption | k_mem); (case ki => first | assumption | exact IntsAre.nil | exact ints_snoc (by assumption) _ _ | exact ints_app (by assumption) (by assumption)); (case kg => first | assumption | exact good_nil | exact good_lit (by assumption) (by assumption) (by assumption) | exact good_copy (by assumption) (by omega) (by omega) (by omega) (by omega) (by omega)); (case kz => first | decide | omega | (simp only [List.length_append, List.length_cons, List.length_nil]; omega)); (case k10 => ktr_room); (case k11 => ktr_units)); intro h9 tk9 F9 N9; (try dsimp only); (try k_sweep)))
local macro_rules | `(tactic| walk_at "call type:range") => `(tactic| ((with_reducible show wpAny _ _ (call (Value.type "range") [Value.int _ _]) _ _ _); k_dflt (refine' range_call ?k1 ?k2 ?_; (case k1 => k_asm); (case k2 => k_asm)); intro r9 h9 tk9 t9 u9 v9 F9 N9 R9; (try dsimp only); (try k_sweep)))
local macro_rules | `(tactic| k_all) => `(tactic| assumption)
local macro_rules | `(tactic| walk_at "call builtin:list.append") => `(tactic| ((show wpAny _ _ (call (Value.builtin _) [Value.ref _, _]) _ _ _); k_dflt (refine' sq_append_upd ?k1 ?k2 ?k3 ?k4 ?_; (case k1 => k_asm); (case k2 => k_asm); (case k3 => k_upd); (case k4 => omega)); intro h9 F9 N9; (try dsimp only); (try k_sweep)))
local macro_rules | `(tactic| k_mem) => `(tactic| exact List.mem_append_left _ (by assumption))
local macro_rules | `(tactic| walk_at "binaryOp Add ref ref") => `(tactic| ((with_reducible show wpAny _ _ (binaryOp Operator.Add (Value.ref _) (Value.ref _)) _ _ _); k_dflt (refine' add_any ?k1 ?k2 ?k3 ?k4 ?k5 ?_; (case k1 => k_asm); (case k2 => k_asm); (case k3 => k_mem); (case k4 => k_mem); (case k5 => first | omega | (simp only [List.length_append, List.length_replicate, List.length_cons, List.length_nil]; omega))); intro D' h' F' N' l1; (try k_lt l1); (try k_sweep)))
local macro_rules | `(tactic| walk_at "call builtin:len") => `(tactic| ((with_reducible show wpAny _ _ (call (Value.builtin "len") [Value.ref _]) _ _ _); k_dflt (refine' len_ints ?k1 ?k2 ?k3 ?k4 ?_; (case k1 => k_asm); (case k2 => first | assumption | k_mem); (case k3 => assumption); (case k4 => omega)); intro t9 tk9; (try dsimp only)))
local macro_rules | `(tactic| walk_at "eval Call Name cons nil") => `(tactic| refine Call_ ?_)
local macro_rules | `(tactic| k_mem) => `(tactic| assumption)
local macro_rules | `(tactic| walk_at "call ref") => `(tactic| ((with_reducible show wpAny _ _ (call (Value.ref 76) _) _ _ _); k_dflt (refine' bent_call ?k1 ?k2 ?k3 ?k4 ?k5 ?k6 ?k10 ?_; (case k1 => k_asm); (case k2 => k_asm); (case k3 => k_asm); (case k4 => k_asm); (case k5 => k_asm); (case k6 => first | exact rfl | assumption); (case k10 => ktr_room)); intro D9 k9 v9 l9 u9 u9' u9'' n9 h9 tk9 hb9 F9 N9; (try dsimp only); (try k_sweep)))
local macro_rules | `(tactic| walk_at "call ref") => `(tactic| ((with_reducible show wpAny _ _ (call (Value.ref 95) _) _ _ _); k_dflt (refine' far_call ?k1 ?k2 ?k3 ?k4 ?k5 ?k6 ?k10 ?k11 ?_; (case k1 => k_asm); (case k2 => k_asm); (case k3 => k_asm); (case k4 => k_asm); (case k5 => k_asm); (case k6 => first | exact rfl | assumption); (case k10 => ktr_room); (case k11 => ktr_units)); intro h9 tk9 F9 N9; (try dsimp only); (try k_sweep)))
local macro_rules | `(tactic| walk_at "call ref") => `(tactic| ((with_reducible show wpAny _ _ (call (Value.ref 34) _) _ _ _); k_dflt (refine' tokens_ok_call ?k1 ?k2 ?k3 ?k4 ?k5 ?k6 ?k7 ?k8 ?k9 ?k10 ?_; (case k1 => k_asm); (case k2 => k_asm); (case k3 => k_asm); (case k4 => k_asm); (case k5 => k_asm); (case k6 => first | exact rfl | assumption); (case k7 => k_mem); (case k8 => exact ToksIn.append (ToksIn.mono (by assumption) (fun _ hp => by k_mem)) (.cons (by k_mem) .nil)); (case k9 => exact good_bad0 (by assumption) (by assumption)); (case k10 => ktr_room)); intro h9 tk9 F9 N9; (try dsimp only); (try k_sweep)))
local macro_rules | `(tactic| walk_at "compareOp NotEq ref ref") => `(tactic| ((with_reducible show wpAny _ _ (compareOp CmpOp.NotEq (Value.ref _) (Value.ref _)) _ _ _); k_dflt (refine' ne_toks ?k1 ?k2 ?k3 ?k4 ?k5 ?k6 ?_; (case k1 => k_asm); (case k2 => k_mem); (case k3 => k_mem); (case k4 => exact ToksIn.append (ToksIn.mono (by assumption) (fun _ hp => by k_mem)) (.cons (by k_mem) .nil)); (case k5 => exact ToksIn.append (ToksIn.mono (by assumption) (fun _ hp => by k_mem)) (.cons (by k_mem) .nil)); (case k6 => ktr_units)); (simp only [decide_true, Bool.not_true])))
local macro_rules | `(tactic| walk_at "call ref") => `(tactic| ((with_reducible show wpAny _ _ (call (Value.ref 83) _) _ _ _); k_dflt (refine wpAny_call ?_; refine' try_enter ?k1 ?k2 ?k3 ?k4 ?k5 ?kA ?kf ?ke ?k6 ?k7 ?k8 ?k9 ?kB ?_ ?c2 ?c3 ?c4 ?c5; (case kA => exact rfl); (case kf => exact rfl); (case ke => exact rfl); (case k2 => k_asm); (case k1 => k_asm); (case k3 => k_asm); (case k4 => k_asm); (case k5 => k_asm); (case k6 => k_is); (case k7 => k_is); (case k8 => first | ktr_room | k_room); (case k9 => exact BindsTo.of_eq rfl); (case kB => exact locs rfl); (case c2 => exact rfl); (case c3 => exact rfl); (case c4 => exact rfl); (case c5 => decide); k_whole); intro g' L' h' FG' F' N' B' X' T' D'; (try dsimp only); (try k_lift B'); (try k_fold)))
theorem main : PySem.Challenge.rw_pd_squeeze_3_02.Holds := hd (by
  k_go0
  all_goals try k_fold
  rename_i W S0 S1 MG MB G Y fa o pm doc ho hg KX X V GL T B TE TW w1 w2 M w3 w4 hcd ns hs hlay0 hLay hr hl2 w5 w6 l vs w7 hL ra wl r0 hI hr2 hcond hcond2 K0 hD h1 tk1 F0 o2 o1 left right N0 X0
  repeat ((fail_if_success (with_reducible show wpAny _ _ (pyIter _) _ _ _)); (first | walk1 | (k_unfold; (try dsimp only)) | (dsimp only; walk1)))
  rename_i r hr1 lr hr2' tka q hq1 lq hq2 Fa Na h9a tk9a t9a h9b tk9b rr hR tkR tR uR vR Fb Nb Rb
  have hc0 := fm0 (cellAt ns 0 0) (n := 4) (by decide)
  have hc1 := fm1 (cellAt ns 0 0) (n := 4) (by decide)
  refine' range_inv (n := (1 + (cellAt ns 0 0).fmod 4).toNat) (J := J1 q r (S1.heap.objs.size + 1) (S1.heap.objs.size + 1 + 1) l o1 o2) ?r1 Rb ?r2 ?r3 Fb Nb ?r4 ?rt ?rd
  case r1 => rfl
  case r2 => exact rsmall1 (by omega) (by omega)
  case r3 => exact rsize1 _
  case r4 => exact ⟨[], [], [], [], 0, 0, [], rfl, rfl, rfl, rfl, .nil, .nil, good_nil, rfl, rfl, fun _ hp => nomatch hp⟩
  case rt =>
    rintro i t m₂ nx h3 tk3 own2 hi hoff2 ⟨vs1, us1, ts, ds, n, n', tl, rfl, hm1, hm2, hm3, hT, hU, hG, hlt, hld, htl⟩ F₃ N₄
    rw [map_at hm1, map_at (m := m₂) hm2, map_at (m := m₂) hm3] at F₃
    have hlv : vs1.length = i := hT.length.trans hlt
    have hlu : us1.length = i := hU.length.trans hld
    have hi4 : i < 4 := by omega
    have hq' : ∀ p ∈ tl ++ own2, p.1 ≠ q := fun p hp => (List.mem_append.mp hp).elim (fun h => (htl p h).1) fun h => hoff2 p h q (.head _)
    have hr' : ∀ p ∈ tl ++ own2, p.1 ≠ r := fun p hp => (List.mem_append.mp hp).elim (fun h => (htl p h).2.1) fun h => hoff2 p h r (.tail _ (.head _))
    have N₅ : News S1.heap S1.heap.objs.size h3 ((q, listOf (List.toArray us1) n') :: (r, listOf (List.toArray vs1) n) :: (S1.heap.objs.size + 1 + 1, o2) :: (S1.heap.objs.size + 1, o1) :: (tl ++ own2)) := N₄
    clear N₄ hcond2
    k_steps
    rename News _ _ _ _ => Nq
    rename Fr _ _ _ _ => Fq
    exact J1_end Fq Nq rfl rfl rfl hT hU hG (by assumption) (by assumption) hlt hld htl (by assumption) hoff2
  case rd =>
    rintro m₂ nx h3 tk3 ⟨vs1, us1, ts, ds, n, n', tl, rfl, hm1, hm2, hm3, hT, hU, hG, hlt, hld, htl⟩ F₃ N₅
    rw [map_at hm1, map_at (m := m₂) hm2, map_at (m := m₂) hm3] at F₃
    have hTl : ToksIn ((q, listOf (List.toArray us1) n') :: (r, listOf (List.toArray vs1) n) :: (S1.heap.objs.size + 1 + 1, o2) :: (S1.heap.objs.size + 1, o1) :: tl) vs1 ts := hT.mono fun _ hp => .tail _ (.tail _ (.tail _ (.tail _ hp)))
    have hn4 : ts.length ≤ 4 := by omega
    have hs0 := fm0 (cellAt ns 1 0) (n := 5) (by decide)
    have hs1 := fm1 (cellAt ns 1 0) (n := 5) (by decide)
    dsimp only
    repeat ((fail_if_success (with_reducible show wpAny _ _ (pyIter _) _ _ _)); (first | walk1 | (k_unfold; (try dsimp only)) | (dsimp only; walk1)))
    rename IsRange _ _ _ _ _ _ _ _ => Rc
    rename News _ _ _ _ => Nc
    rename Fr _ _ _ _ => Fc
    have Nd : News S1.heap S1.heap.objs.size _ ((S1.heap.objs.size + 1 + 1, o2) :: (S1.heap.objs.size + 1, o1) :: (q, listOf (List.toArray us1) n') :: (r, listOf (List.toArray vs1) n) :: tl) := fun p hp => Nc p (by
      simp only [List.mem_cons] at hp ⊢
      rcases hp with h | h | h | h | h
      · exact .inr (.inr (.inl h))
      · exact .inr (.inr (.inr (.inl h)))
      · exact .inl h
      · exact .inr (.inl h)
      · exact .inr (.inr (.inr (.inr h))))
    refine' range_inv (n := ((cellAt ns 1 0).fmod 5).toNat) (J := J2 (S1.heap.objs.size + 1) (S1.heap.objs.size + 1 + 1) l ((cellAt ns 1 0).fmod 5)) ?q1 Rc ?q2 ?q3 Fc Nd ?q4 ?qt ?qd
    case q1 => rfl
    case q2 => exact rsmall1 (by omega) (by omega)
    case q3 => exact rsize1 _
    case q4 =>
      refine ⟨r, q, o1, o2, _, _, vs1, us1, ts, ds, n, n', _, _, rfl, right, left, rfl, rfl, rfl, rfl, .tail _ (.head _), .head _, hT.mono fun _ hp => .tail _ (.tail _ hp), hU, hG, by omega, by omega, by omega, ?_⟩
      intro p hp
      simp only [List.mem_cons] at hp
      rcases hp with rfl | rfl | hp
      · exact ⟨neN (a := q) (b := S1.heap.objs.size + 1) (by omega), neN (a := q) (b := S1.heap.objs.size + 1 + 1) (by omega)⟩
      · exact ⟨neN (a := r) (b := S1.heap.objs.size + 1) (by omega), neN (a := r) (b := S1.heap.objs.size + 1 + 1) (by omega)⟩
      · exact ⟨(htl p hp).2.2.1, (htl p hp).2.2.2⟩
    case qt =>
      clear hcond2
      rintro i t m₃ nx h4 tk4 own2 hi hoff2 ⟨r', q', p1, p2, v1, v2, vs2, us2, ts2, ds2, n2, n2', tks, tl2, rfl, d1, d2, hm1, hm2, hm3, hm4, hr3, hq3, hT2, hU2, hG2, hlt2, hld2, hld3, htl2⟩ F₃ N₄
      rw [map_at hm1, map_at (m := m₃) hm2, map_at (m := m₃) hm3, map_at (m := m₃) hm4] at F₃
      have hlv : vs2.length = ts2.length := hT2.length
      have hlu : us2.length = ds2.length := hU2.length
      have hi4 : i < 5 := by omega
      have hc1' : ∀ p ∈ tl2 ++ own2, p.1 ≠ S1.heap.objs.size + 1 := fun p hp => (List.mem_append.mp hp).elim (fun h => (htl2 p h).1) fun h => hoff2 p h _ (.tail _ (.head _))
      have hc2' : ∀ p ∈ tl2 ++ own2, p.1 ≠ S1.heap.objs.size + 1 + 1 := fun p hp => (List.mem_append.mp hp).elim (fun h => (htl2 p h).2) fun h => hoff2 p h _ (.head _)
      have N₆ : News S1.heap S1.heap.objs.size h4 ((S1.heap.objs.size + 1 + 1, p2) :: (S1.heap.objs.size + 1, p1) :: (tl2 ++ own2)) := N₄
      clear N₄
      repeat' ((fail_if_success (with_reducible show wpAny _ _ (eval (Expr.ListComp _ _ _ _) _) _ _ _)); (first | (k_unfold; (try dsimp only)) | walk1 | (dsimp only; walk1)))
      · rename_i DT x1 l5 x2 x3 lb x4 l4 Q5 x5 l3 x6 x7 lr' x8 l2 R5 x9 l1x x10 x11 x12 Fz Nz
        rename _ = Data.cell (some (Value.ref q')) => dB
        refine J2_end5 Fz Nz (offA_lt l1x.2.2.2.2.1 l1x.2.2.2.2.2.1 l1x.2.2.2.2.2.2) (offA_lt l2.2.2.2.1 l2.2.2.2.2.1 l2.2.2.2.2.2) (offA_lt l3.2.2.1 l3.2.2.2.1 l3.2.2.2.2) (offA_lt l4.2.1 l4.2.2.1 l4.2.2.2) (offA_lt l5.1 l5.2.1 l5.2.2) dB d2 rfl rfl rfl rfl
          (ToksIn.append (hT2.mono fun _ hp => .tail _ (.tail _ (.tail _ (.tail _ (.tail _ hp))))) (.cons (.tail _ (.tail _ (.tail _ (.tail _ (.head _))))) .nil)) (ints_snoc hU2 _ _) (good_lit hG2 (by assumption) (by assumption)) (by simp; omega) (by simp) (by simp; omega) htl2 hoff2
      · rename Fr _ _ _ _ => Fe
        refine' LCg.ListComp_U (F₀ := Fe) ?a1 ?a2 ?a3 ?a4 ?a5 ?a6 ?a7
        case a1 => with_unfolding_all rfl
        case a2 => decide
        case a3 => rfl
        case a4 => decide
        case a5 => rfl
        case a7 => intro _; rfl
        iterate 7 walk1
        rename_i dd tdd h_a tk_a hd1 hd2 h_b ob2 dD tk_b t_c h_c tk_c nn tnn h_d tk_d hn1 hn2 h_e tk_e DT h_f lT h_g rg hg9 tkg t_g u_g v_g Fg Ng Rg
        rename _ = Data.cell (some (Value.ref q')) => dB
        refine LCg.CompSrc.range rfl Fg Ng Rg (rsmall1 (by omega) (by omega)) (rsize1 _) (by rw [sizeLine_eq]; omega) ?_
        intro gg
        refine compRest_of (n := nn.toNat) (fun j y => ∃ t, y = .int (ds2.getD (ds2.length - dd.toNat + j % dd.toNat) 0) t) trivial ?ct ?cf nn.toNat 0 [] (by omega) rfl (fun j y hj => by simp at hj)
        case ct =>
          intro j v I oI C oC Dc ys m₅ h5 tk5 E' hj hP hNs hx F5 N5 off hne
          obtain ⟨tv, rfl⟩ := hP
          have hf0 := fm0 (0 + (j : Int)) (n := dd) (by omega)
          have hf1 := fm1 (0 + (j : Int)) (n := dd) (by omega)
          have hb1 : 0 ≤ (ds2.length : Int) - dd + (0 + (j : Int)).fmod dd := by omega
          have hb2 : (ds2.length : Int) - dd + (0 + (j : Int)).fmod dd < ds2.length := by omega
          repeat ((fail_if_success (with_reducible show wpAny _ _ (subscriptTail _ _ _ _) _ _ _)); (first | walk1 | (dsimp only; walk1)))
          refine' item_ints N5 ?s1 hU2 (by omega) hb1 hb2 ?s2 ?s3
          case s1 => k_mem
          case s3 => with_unfolding_all rfl
          intro t9
          rw [idx_eq (by omega) (by omega)]
          exact ⟨h5, _, rfl, F5, N5, t9, rfl⟩
        case cf =>
          intro ys hyl hyG Dl h6 tk6 F6 N6 off1
          have hys : IntsAre ys (period dd nn.toNat ds2) := ints_of_get hyl hyG
          have hyl2 : ys.length ≤ 255 := by omega
          dsimp only
          repeat' (first | (k_unfold; (try dsimp only)) | walk1 | (dsimp only; walk1))
          rename_i Q5 x5 l3 x6 x7 lr' x8 l2 R5 x9 l1x x10 x11 x12 Fz Nz
          have off2 := off1_mem off1
          refine J2_end5 Fz Nz (offA_lt l1x.2.2.2.2.1 l1x.2.2.2.2.2.1 l1x.2.2.2.2.2.2) (offA_lt l2.2.2.2.1 l2.2.2.2.2.1 l2.2.2.2.2.2) (offA_lt l3.2.2.1 l3.2.2.2.1 l3.2.2.2.2)
            ⟨fun e => off2 _ (.tail _ (.tail _ (.head _))) e.symm, fun e => off2 _ (.tail _ (.head _)) e.symm, fun p hp => off2 p (.tail _ (.tail _ (.tail _ (List.mem_append_right _ hp))))⟩ (offA_lt lT.1 lT.2.1 lT.2.2) dB dD rfl rfl rfl rfl
            (ToksIn.append (hT2.mono fun _ hp => .tail _ (.tail _ (.tail _ (.tail _ (.tail _ hp))))) (.cons (.tail _ (.tail _ (.tail _ (.tail _ (.head _))))) .nil)) (ints_app hU2 hys) (good_copy hG2 hd1 hd2 (by omega) hn1 hn2) (by simp; omega) (by simp; omega) (by simp [period_length]; omega) htl2 hoff2
    case qd =>
      clear hcond2
      rintro m₃ nx h4 tk4 ⟨r', q', p1, p2, v1, v2, vs2, us2, ts2, ds2, n2, n2', tks, tl2, rfl, d1, d2, hm1, hm2, hm3, hm4, hr3, hq3, hT2, hU2, hG2, hlt2, hld2, hld3, htl2⟩ F₃ N₄
      rw [map_at hm1, map_at (m := m₃) hm2, map_at (m := m₃) hm3, map_at (m := m₃) hm4] at F₃
      have hlv : vs2.length = ts2.length := hT2.length
      have hlu : us2.length = ds2.length := hU2.length
      dsimp only
      k_steps)
end S302
end
theorem PySem.Challenge.cw_pd_squeeze_3_02_holds : PySem.Challenge.rw_pd_squeeze_3_02.Holds :=
  S302.main
#print axioms PySem.Challenge.cw_pd_squeeze_3_02_holds
