import PyProof.Rows.All
import Wide.All
import OpenK.AllK
import Wide.FinOn
import PySem.Challenge.RW_pd_squeeze_3_03
set_option Elab.async false
set_option maxRecDepth 100000
set_option maxHeartbeats 8000000
set_option linter.unusedVariables false
-- SqPure
namespace Sq
/-- a token: kind, value, length -/
abbrev Tk := Int × Int × Int
def tokStep (size : Int) (t : Tk) : Option Int :=
  if t.1 = 0 then (if t.2.1 < 0 ∨ t.2.1 > 255 ∨ t.2.2 ≠ 0 then none else some (size + 1))
  else if t.1 = 1 then
    (if t.2.1 < 1 ∨ t.2.1 > size ∨ t.2.1 > 65535 then none
     else if t.2.2 < 4 ∨ t.2.2 > 255 then none else some (size + t.2.2))
  else none
def tokRun : Int → List Tk → Option Int
  | n, [] => some n
  | n, t :: r => match tokStep n t with
    | none => none
    | some k => tokRun k r
def tokOk (ts : List Tk) : Bool := (tokRun 0 ts).isSome
theorem tokRun_append (n : Int) (a b : List Tk) : tokRun n (a ++ b) = (tokRun n a).bind fun k => tokRun k b := by
  induction a generalizing n with
  | nil => rfl
  | cons t r ih =>
    simp only [List.cons_append, tokRun]
    cases tokStep n t with
    | none => rfl
    | some k => exact ih k
/-- one byte more, `d` places back -/
def back1 (d : Int) (xs : List Int) : List Int := xs ++ [xs.getD (xs.length - d.toNat) 0]
def copyN (d : Int) : Nat → List Int → List Int
  | 0, xs => xs
  | n + 1, xs => copyN d n (back1 d xs)
def expStep (xs : List Int) (t : Tk) : List Int := if t.1 = 0 then xs ++ [t.2.1] else copyN t.2.1 t.2.2.toNat xs
def expand (ts : List Tk) : List Int := ts.foldl expStep []
theorem expand_append (a : List Tk) (t : Tk) : expand (a ++ [t]) = expStep (expand a) t := by simp [expand]
theorem copyN_length (d : Int) (n : Nat) (xs : List Int) : (copyN d n xs).length = xs.length + n := by
  induction n generalizing xs with
  | zero => rfl
  | succ n ih => simp only [copyN, ih, back1, List.length_append, List.length_singleton]; omega
theorem copyN_succ (d : Int) (n : Nat) (xs : List Int) : copyN d (n + 1) xs = back1 d (copyN d n xs) := by
  induction n generalizing xs with
  | zero => rfl
  | succ n ih => rw [copyN, ih]; rfl
/-- what a copy by its period gives -/
def period (d : Int) (n : Nat) (xs : List Int) : List Int := (List.range n).map fun k => xs.getD (xs.length - d.toNat + k % d.toNat) 0
theorem copyN_period (d : Int) (n : Nat) (xs : List Int) (h1 : 1 ≤ d) (h2 : d ≤ xs.length) : copyN d n xs = xs ++ period d n xs := by
  induction n with
  | zero => simp [copyN, period]
  | succ n ih =>
    rw [copyN_succ, ih, back1]
    have hl : (xs ++ period d n xs).length = xs.length + n := by simp [period]
    rw [hl]
    have e : (xs ++ period d n xs).getD (xs.length + n - d.toNat) 0 = xs.getD (xs.length - d.toNat + n % d.toNat) 0 := by
      obtain ⟨D, rfl⟩ := Int.eq_ofNat_of_zero_le (show 0 ≤ d by omega)
      simp only [Int.toNat_natCast] at *
      have hD : 1 ≤ D := by omega
      have hD2 : D ≤ xs.length := by omega
      by_cases hn : n < D
      · have e1 : n % D = n := Nat.mod_eq_of_lt hn
        rw [e1]
        rw [List.getD_eq_getElem?_getD, List.getD_eq_getElem?_getD, List.getElem?_append_left (by omega)]
        congr 2; omega
      · have e2 : xs.length + n - D = xs.length + (n - D) := by omega
        rw [e2, List.getD_eq_getElem?_getD, List.getElem?_append_right (by omega), ← List.getD_eq_getElem?_getD]
        have e3 : xs.length + (n - D) - xs.length = n - D := by omega
        rw [e3]
        have hlt : n - D < n := by omega
        simp only [period, List.getD_eq_getElem?_getD, Int.toNat_natCast]
        rw [List.getElem?_map, List.getElem?_range hlt]
        simp only [Option.map_some, Option.getD_some]
        have e4 : n % D = (n - D) % D := by
          conv => lhs; rw [show n = (n - D) + D by omega, Nat.add_mod_right]
        rw [e4]
    rw [e, List.append_assoc]
    congr 1
    simp [period, List.range_succ]
theorem tokStep_len {xs : List Int} {t : Tk} {k : Int} (h : tokStep xs.length t = some k) : ((expStep xs t).length : Int) = k := by
  unfold tokStep at h
  unfold expStep
  split at h
  · rename_i h0
    rw [if_pos h0]
    split at h
    · cases h
    · simp at h; simp; omega
  · rename_i h0
    rw [if_neg h0]
    split at h
    · split at h
      · cases h
      · split at h
        · cases h
        · rw [copyN_length]; simp at h; omega
    · cases h
theorem foldl_len {ts : List Tk} : ∀ {xs : List Int} {k : Int}, tokRun xs.length ts = some k → ((ts.foldl expStep xs).length : Int) = k := by
  induction ts with
  | nil => intro xs k h; simp only [tokRun, Option.some.injEq] at h; exact h
  | cons t r ih =>
    intro xs k h
    simp only [tokRun] at h
    cases hs : tokStep xs.length t with
    | none => rw [hs] at h; cases h
    | some j =>
      rw [hs] at h
      have := tokStep_len hs
      rw [← this] at h
      exact ih h
theorem expand_len {ts : List Tk} {k : Int} (h : tokRun 0 ts = some k) : ((expand ts).length : Int) = k := foldl_len (xs := []) h
end Sq
-- SqGood
namespace Sq
/-- the tokens are lawful and give these bytes -/
def Good (ts : List Tk) (ds : List Int) : Prop := tokRun 0 ts = some (ds.length : Int) ∧ expand ts = ds
theorem good_nil : Good [] [] := ⟨rfl, rfl⟩
theorem good_step {ts : List Tk} {ds es : List Int} {t : Tk} (h : Good ts ds) (hs : tokStep ds.length t = some (es.length : Int)) (he : expStep ds t = es) : Good (ts ++ [t]) es := by
  refine ⟨?_, ?_⟩
  · rw [tokRun_append, h.1]
    simp only [Option.bind_some, tokRun, hs]
  · rw [expand_append, h.2, he]
theorem good_lit {ts : List Tk} {ds : List Int} {b : Int} (h : Good ts ds) (h0 : 0 ≤ b) (h1 : b ≤ 255) : Good (ts ++ [(0, b, 0)]) (ds ++ [b]) := by
  refine good_step h ?_ (if_pos rfl)
  unfold tokStep
  rw [if_pos rfl, if_neg (by simp only; omega)]
  simp
theorem period_length (d : Int) (n : Nat) (xs : List Int) : (period d n xs).length = n := by simp [period]
theorem good_copy {ts : List Tk} {ds : List Int} {d n : Int} (h : Good ts ds) (h0 : 1 ≤ d) (h1 : d ≤ ds.length) (h2 : d ≤ 65535) (h3 : 4 ≤ n) (h4 : n ≤ 255) :
    Good (ts ++ [(1, d, n)]) (ds ++ period d n.toNat ds) := by
  refine good_step h ?_ ?_
  · unfold tokStep
    rw [if_neg (by simp only; omega), if_pos rfl, if_neg (by simp only; omega), if_neg (by simp only; omega)]
    simp only [List.length_append, period_length]
    congr 1
    omega
  · unfold expStep
    rw [if_neg (by simp only; omega)]
    exact copyN_period d n.toNat ds h0 h1
theorem good_ok {ts : List Tk} {ds : List Int} (h : Good ts ds) : tokOk ts = true := by unfold tokOk; rw [h.1]; rfl
theorem good_bad {ts : List Tk} {ds : List Int} {t : Tk} (r : List Tk) (h : Good ts ds) (ht : tokStep ds.length t = none) : tokOk (ts ++ [t] ++ r) = false := by
  unfold tokOk
  rw [List.append_assoc, tokRun_append, h.1]
  simp only [Option.bind_some, List.singleton_append, tokRun, ht]
  rfl
theorem good_bad0 {ts : List Tk} {ds : List Int} {t : Tk} (h : Good ts ds) (ht : tokStep ds.length t = none) : tokOk (ts ++ [t]) = false := by
  have := good_bad [] h ht
  rwa [List.append_nil] at this
theorem good_lits {ts : List Tk} {ds : List Int} (bs : List Int) (h : Good ts ds) (hb : ∀ b ∈ bs, 0 ≤ b ∧ b ≤ 255) : Good (ts ++ bs.map fun b => (0, b, 0)) (ds ++ bs) := by
  induction bs generalizing ts ds with
  | nil => simpa using h
  | cons b r ih =>
    have h1 := good_lit h (hb b (.head _)).1 (hb b (.head _)).2
    have h2 := ih h1 fun x hx => hb x (.tail _ hx)
    simpa using h2
end Sq
-- SqLoop
section
open PySem PySem.W PyProof.Rows PySem.Calls PySem.Spec
namespace Sq
/-- a tuple of three ints in the ledger -/
abbrev tup3 (k v l : Int) (t0 t1 t2 : Tok) (n : Nat) : Obj := { cls := .type "tuple", data := .seq #[.int k t0, .int v t1, .int l t2] n }
inductive ToksIn (news : List (Addr × Obj)) : List Value → List Tk → Prop
  | nil : ToksIn news [] []
  | cons {a : Addr} {k v l : Int} {t0 t1 t2 : Tok} {n : Nat} {vs : List Value} {ts : List Tk} : (a, tup3 k v l t0 t1 t2 n) ∈ news → ToksIn news vs ts → ToksIn news (.ref a :: vs) ((k, v, l) :: ts)
theorem ToksIn.mono {news news' : List (Addr × Obj)} {vs : List Value} {ts : List Tk} (h : ToksIn news vs ts) (hs : ∀ p ∈ news, p ∈ news') : ToksIn news' vs ts := by
  induction h with
  | nil => exact .nil
  | cons h _ ih => exact .cons (hs _ h) ih
theorem ToksIn.length {news : List (Addr × Obj)} {vs : List Value} {ts : List Tk} (h : ToksIn news vs ts) : vs.length = ts.length := by
  induction h with
  | nil => rfl
  | cons _ _ ih => simp [ih]
theorem ToksIn.append {news : List (Addr × Obj)} {vs ws : List Value} {ts us : List Tk} (h : ToksIn news vs ts) (k : ToksIn news ws us) : ToksIn news (vs ++ ws) (ts ++ us) := by
  induction h with
  | nil => exact k
  | cons h _ ih => exact .cons h ih
theorem ToksIn.get {news : List (Addr × Obj)} {vs : List Value} {ts : List Tk} (h : ToksIn news vs ts) {i : Nat} {x : Value} (hx : vs[i]? = some x) :
    ∃ a k v l t0 t1 t2 n, x = .ref a ∧ ts[i]? = some (k, v, l) ∧ (a, tup3 k v l t0 t1 t2 n) ∈ news := by
  induction h generalizing i with
  | nil => simp at hx
  | cons h _ ih =>
    cases i with
    | zero => simp at hx; subst hx; exact ⟨_, _, _, _, _, _, _, _, rfl, rfl, h⟩
    | succ i => exact ih (by simpa using hx)
theorem tokStep_no {sz k v l : Int} (h : ¬ ((k = 0 ∧ 0 ≤ v ∧ v ≤ 255 ∧ l = 0) ∨ (k = 1 ∧ 1 ≤ v ∧ v ≤ sz ∧ v ≤ 65535 ∧ 4 ≤ l ∧ l ≤ 255))) : tokStep sz (k, v, l) = none := by
  unfold tokStep
  simp only
  (repeat' split) <;> first | rfl | omega
theorem tokStep_l {sz k v l : Int} (h : k = 0 ∧ 0 ≤ v ∧ v ≤ 255 ∧ l = 0) : tokStep sz (k, v, l) = some (sz + 1) := by
  unfold tokStep
  simp only
  (repeat' split) <;> first | rfl | omega
theorem tokStep_c {sz k v l : Int} (h : k = 1 ∧ 1 ≤ v ∧ v ≤ sz ∧ v ≤ 65535 ∧ 4 ≤ l ∧ l ≤ 255) : tokStep sz (k, v, l) = some (sz + l) := by
  unfold tokStep
  simp only
  (repeat' split) <;> first | rfl | omega
theorem take_next {α : Type} {ts : List α} {i : Nat} {t : α} (h : ts[i]? = some t) : ts.take (i + 1) = ts.take i ++ [t] := by simp [List.take_add_one, h]
theorem tok_next {ts : List Tk} {i : Nat} {t : Tk} {sz sz' : Int} (hr : tokRun 0 (ts.take i) = some sz) (ht : ts[i]? = some t) (hs : tokStep sz t = some sz') : tokRun 0 (ts.take (i + 1)) = some sz' := by
  rw [take_next ht, tokRun_append, hr]
  simp only [Option.bind_some, tokRun, hs]
theorem tok_bad {ts : List Tk} {i : Nat} {t : Tk} {sz : Int} (hr : tokRun 0 (ts.take i) = some sz) (ht : ts[i]? = some t) (hs : tokStep sz t = none) : tokOk ts = false := by
  have e : ts = ts.take i ++ t :: ts.drop (i + 1) := by
    have h := List.take_append_drop (i + 1) ts
    rw [take_next ht, List.append_assoc] at h
    exact h.symm
  unfold tokOk
  rw [e, tokRun_append, hr]
  simp only [Option.bind_some, tokRun, hs]
  rfl
theorem tok_all {ts : List Tk} {n : Nat} {sz : Int} (hr : tokRun 0 (ts.take n) = some sz) (hn : n = ts.length) : tokOk ts = true := by
  subst hn
  rw [List.take_length] at hr
  unfold tokOk
  rw [hr]
  rfl
theorem tok_at {ts : List Tk} {i : Nat} {k v l : Int} (hok : tokOk ts = true) (ht : ts[i]? = some (k, v, l)) :
    (k = 0 ∧ 0 ≤ v ∧ v ≤ 255 ∧ l = 0) ∨ (k = 1 ∧ 1 ≤ v ∧ v ≤ ((expand (ts.take i)).length : Int) ∧ v ≤ 65535 ∧ 4 ≤ l ∧ l ≤ 255) := by
  have e : ts = ts.take i ++ (k, v, l) :: ts.drop (i + 1) := by
    have h := List.take_append_drop (i + 1) ts
    rw [take_next ht, List.append_assoc] at h
    exact h.symm
  unfold tokOk at hok
  rw [e, tokRun_append] at hok
  cases hr : tokRun 0 (ts.take i) with
  | none => rw [hr] at hok; cases hok
  | some sz =>
    rw [hr] at hok
    have hl := expand_len hr
    simp only [Option.bind_some, tokRun] at hok
    rw [hl]
    refine Decidable.byContradiction fun hn => ?_
    rw [tokStep_no hn] at hok
    cases hok
theorem expand_next {ts : List Tk} {i : Nat} {t : Tk} (ht : ts[i]? = some t) : expand (ts.take (i + 1)) = expStep (expand (ts.take i)) t := by
  rw [take_next ht, expand_append]
theorem ints_snoc {vs : List Value} {ns : List Int} (h : IntsAre vs ns) (n : Int) (t : Tok) : IntsAre (vs ++ [.int n t]) (ns ++ [n]) := by
  induction h with
  | nil => exact .cons n t .nil
  | cons m u _ ih => exact .cons m u ih
theorem tokStep_le {n k : Int} {t : Tk} (h : tokStep n t = some k) : k ≤ n + 255 := by
  unfold tokStep at h
  (repeat' split at h) <;> first | (cases h; done) | (simp only [Option.some.injEq] at h; omega)
theorem tokRun_le {ts : List Tk} : ∀ {n k : Int}, tokRun n ts = some k → k ≤ n + 255 * ts.length := by
  induction ts with
  | nil => intro n k h; simp only [tokRun, Option.some.injEq] at h; simp; omega
  | cons t r ih =>
    intro n k h
    simp only [tokRun] at h
    cases hs : tokStep n t with
    | none => rw [hs] at h; cases h
    | some j =>
      rw [hs] at h
      have h1 := tokStep_le hs
      have h2 := ih h
      rw [List.length_cons]
      push_cast
      omega
theorem expand_le {ts : List Tk} (hok : tokOk ts = true) (i : Nat) : (expand (ts.take i)).length ≤ 255 * ts.length := by
  unfold tokOk at hok
  have e : ts = ts.take i ++ ts.drop i := (List.take_append_drop i ts).symm
  rw [e, tokRun_append] at hok
  cases hr : tokRun 0 (ts.take i) with
  | none => rw [hr] at hok; cases hok
  | some sz =>
    have h1 := expand_len hr
    have h2 := tokRun_le hr
    have h3 : (ts.take i).length ≤ ts.length := by rw [List.length_take]; omega
    omega
theorem map_at {m : Str → Option Value} {x : Str} {v : Value} (h : m x = some v) : m = fun y => if y = x then some v else m y := funext fun y => by
  by_cases hy : y = x
  · rw [if_pos hy, hy, h]
  · rw [if_neg hy]
theorem list_end {us : List Value} {x : Value} : us.toArray.push x = (us ++ [x]).toArray := by simp
theorem back_get {xs : List Int} {d : Int} (h1 : 1 ≤ d) (h2 : d ≤ xs.length) : xs.getD (((xs.length : Int) - d).toNat) 0 = xs.getD (xs.length - d.toNat) 0 := by
  congr 1; omega
theorem rsize1 (b : Int) : Builtin.Range.rangeSize 0 b 1 = (b.toNat : Int) := by
  rw [rangeSize_one]; split <;> omega
theorem rsmall1 {b : Int} (hb : -(2 ^ 62) ≤ b) (hb' : b < 2 ^ 62) : Builtin.Range.small 0 b 1 = true := by
  unfold Builtin.Range.small
  rw [rangeSize_one]
  simp only [Builtin.Range.rangeFitsLong, Bool.and_eq_true, Bool.or_eq_true, decide_eq_true_eq, beq_iff_eq, show ((1 : Int) > 0) by decide, if_true]
  split <;> omega
theorem fin_bool {h₀ h : Heap} {L : Addr} {m : Str → Option Value} {news all : List (Addr × Obj)} {s : Shared} {Q : Value → Shared → Prop} {b c : Bool} {tk : Nat}
    (hret : ∀ h' tk', Fr h₀ L h' m → News h₀ L h' news → Q (.bool b) { s with heap := h', toks := tk' }) (hb : b = c) (F : Fr h₀ L h m) (N : News h₀ L h all) (hs : ∀ p ∈ news, p ∈ all) :
    Q (.bool c) { s with heap := h, toks := tk } := hb ▸ hret h tk F fun p hp => N p (hs p hp)
section
variable {prog : Program} {w : World} {A : Around} {E : Value → Shared → Prop} {s : Shared} {env : Env} {h₀ : Heap} {body : List Stmt} {Q : Flow → Shared → Prop}
/-- the map behind a turn's three stores -/
abbrev set3 (x0 x1 x2 : Str) (v0 v1 v2 : Value) (m : Str → Option Value) : Str → Option Value :=
  fun y => if y = x2 then some v2 else if y = x1 then some v1 else if y = x0 then some v0 else m y
abbrev TurnPost (h₀ : Heap) (L : Addr) (own : List (Addr × Obj)) (news₁ : List (Addr × Obj)) (Jn : (Str → Option Value) → List (Addr × Obj) → Prop) (s₁ : Shared) (Q : Flow → Shared → Prop) : Flow → Shared → Prop :=
  LoopStep3 h₀ L own news₁ Jn s₁ (fun v s' => Q (.ret v) s') fun s' => Q .next s'

theorem unr_trip {x0 x1 x2 : Str} {p0 p1 p2 pt : Pos} {xk : Nat} {vs : List Value} {ts : List Tk} {cst : List (Addr × Obj)} {fp : List Addr} {s₀ : Shared}
    (hh : A.handled = none) (hx0 : env.kindOf x0 = some .local) (hx1 : env.kindOf x1 = some .local) (hx2 : env.kindOf x2 = some .local)
    (hp : (env.scope.kind == .class || (env.scope.kind == .module && env.locals != env.globals)) = false)
    (hT : ToksIn cst vs ts) (J : Nat → (Str → Option Value) → List (Addr × Obj) → Prop) (hc : ∀ i m₁ n₁, J i m₁ n₁ → ∀ p ∈ cst, p ∈ n₁)
    (turn : ∀ i k v l t0 t1 t2 m₁ news₁ h tk own, ts[i]? = some (k, v, l) → J i m₁ news₁ → (∀ p ∈ own, p.1 ∈ fp) →
      Fr h₀ env.locals h (set3 x0 x1 x2 (.int k t0) (.int v t1) (.int l t2) m₁) → News h₀ env.locals h (own ++ news₁) →
      wpAny (model prog w) A (execs body env) (TurnPost h₀ env.locals own news₁ (J (i + 1)) { s₀ with heap := h, toks := tk } Q) E { s₀ with heap := h, toks := tk })
    (done : ∀ m₁ news₁ h tk, J vs.length m₁ news₁ → Fr h₀ env.locals h m₁ → News h₀ env.locals h news₁ → Q .next { s₀ with heap := h, toks := tk }) :
    ∀ (j i : Nat) (m₁ : Str → Option Value) (news₁ : List (Addr × Obj)), i + j = vs.length → J i m₁ news₁ →
      Unr prog w A E h₀ env (.Tuple [.Name x0 p0, .Name x1 p1, .Name x2 p2] xk pt) body Q (fun i v => vs.toArray[i]? = some v) fp s₀ j i m₁ news₁ := by
  intro j
  induction j with
  | zero =>
    intro i m₁ news₁ hi hJ h' tk F N
    rw [Nat.add_zero] at hi
    subst hi
    exact done m₁ news₁ h' tk hJ F N
  | succ j ih =>
    intro i m₁ news₁ hi hJ x h₁ tk₁ own hP hown F N
    have hx : vs[i]? = some x := by simpa using hP
    obtain ⟨a, k, v, l, t0, t1, t2, n, rfl, hts, hm⟩ := hT.get hx
    have hmem : (a, tup3 k v l t0 t1 t2 n) ∈ own ++ news₁ := List.mem_append_right _ (hc i m₁ news₁ hJ _ hm)
    have ht : h₁.IsTuple a #[.int k t0, .int v t1, .int l t2] := News.isTup N hmem
    refine wpAny_assign_Tuple hh ht rfl rfl fun h₂ hx₂ => ?_
    replace hx₂ : Heap.ExtBut h₁.objs.size h₁ h₂ := hx₂
    have up₂ : ∀ b o, h₁.get? b = some o → h₂.get? b = some o := fun b o q => hx₂ b o (Nat.ne_of_lt (Heap.lt_size q)) q
    have F₂ : Fr h₀ env.locals h₂ m₁ := ⟨F.ns.at' fun o e => up₂ _ o e, fun b o e => up₂ b o (F.keep b o e), F.above⟩
    have N₂ : News h₀ env.locals h₂ (own ++ news₁) := N.grown up₂
    show wpAny _ A (do holding [.int v t1, .int l t2] (assign (.Name x0 p0) env (.int k t0)); do holding [.int l t2] (assign (.Name x1 p1) env (.int v t1)); do holding [] (assign (.Name x2 p2) env (.int l t2)); pure ()) _ _ _
    refine wpAny_bind (wpAny_holding (wpAny_assign_Name (wpAny_storeName_local hx0 F₂.ns (fun h₃ hn₃ hs₃ => ?_) hp)))
    replace hs₃ : Heap.SameBut env.locals h₂ h₃ := hs₃
    have F₃ := F₂.set hn₃ hs₃
    refine wpAny_bind (wpAny_holding (wpAny_assign_Name (wpAny_storeName_local hx1 F₃.ns (fun h₄ hn₄ hs₄ => ?_) hp)))
    replace hs₄ : Heap.SameBut env.locals h₃ h₄ := hs₄
    have F₄ := F₃.set hn₄ hs₄
    refine wpAny_bind (wpAny_holding (wpAny_assign_Name (wpAny_storeName_local hx2 F₄.ns (fun h₅ hn₅ hs₅ => wpAny_pure ?_) hp)))
    replace hs₅ : Heap.SameBut env.locals h₄ h₅ := hs₅
    have F₅ := F₄.set hn₅ hs₅
    have N₅ : News h₀ env.locals h₅ (own ++ news₁) := ((N₂.set hs₃).set hs₄).set hs₅
    refine wpAny_mono (turn i k v l t0 t1 t2 m₁ news₁ h₅ _ own hts hJ hown F₅ N₅) (fun f s₃ q => ?_) fun _ _ e => e
    cases f with
    | ret v => exact q
    | brk => exact q
    | cont =>
      obtain ⟨e0, h', tk', m₂, n₂, e, F', N', ha, hJ'⟩ := q
      exact ⟨e0, h', tk', m₂, n₂, e, F', N', ha, ih (i + 1) m₂ n₂ (by omega) hJ'⟩
    | next =>
      obtain ⟨e0, h', tk', m₂, n₂, e, F', N', ha, hJ'⟩ := q
      exact ⟨e0, h', tk', m₂, n₂, e, F', N', ha, ih (i + 1) m₂ n₂ (by omega) hJ'⟩

theorem For_trip {x0 x1 x2 sn : Str} {p0 p1 p2 pt ps pos : Pos} {xk : Nat} {vs : List Value} {ts : List Tk} {cst news : List (Addr × Obj)} {m : Str → Option Value} {l : Addr} {nn : Nat}
    (hh : A.handled = none) (F : Fr h₀ env.locals s.heap m) (N : News h₀ env.locals s.heap news) (hl : (l, listOf vs.toArray nn) ∈ news)
    (hload : ∀ Q' : Value → Shared → Prop, Q' (.ref l) s → wpAny (model prog w) A (eval (.Name sn ps) env) Q' E s)
    (hx0 : env.kindOf x0 = some .local) (hx1 : env.kindOf x1 = some .local) (hx2 : env.kindOf x2 = some .local)
    (hp : (env.scope.kind == .class || (env.scope.kind == .module && env.locals != env.globals)) = false)
    (hT : ToksIn cst vs ts) (J : Nat → (Str → Option Value) → List (Addr × Obj) → Prop) (h0 : J 0 m news) (hc : ∀ i m₁ n₁, J i m₁ n₁ → ∀ p ∈ cst, p ∈ n₁)
    (turn : ∀ i k v l' t0 t1 t2 m₁ news₁ h tk own, ts[i]? = some (k, v, l') → J i m₁ news₁ → (∀ p ∈ own, p.1 ∈ [s.heap.objs.size, l]) →
      Fr h₀ env.locals h (set3 x0 x1 x2 (.int k t0) (.int v t1) (.int l' t2) m₁) → News h₀ env.locals h (own ++ news₁) →
      wpAny (model prog w) A (execs body env) (TurnPost h₀ env.locals own news₁ (J (i + 1)) { s with heap := h, toks := tk } Q) E { s with heap := h, toks := tk })
    (done : ∀ m₁ news₁ h tk, J vs.length m₁ news₁ → Fr h₀ env.locals h m₁ → News h₀ env.locals h news₁ → Q .next { s with heap := h, toks := tk })
    (hE : PassesOwn (model prog w) A env E) :
    wpAny (model prog w) A (exec (.For (.Tuple [.Name x0 p0, .Name x1 p1, .Name x2 p2] xk pt) (.Name sn ps) body [] pos) env) Q E s := by
  refine For_unr h₀ (hload _ ?_) (hE := hE)
  refine Iter_list_unr hh (News.isList N hl) F N (News.ne N hl) ?_
  have e : vs.toArray.size = vs.length := by simp
  rw [e]
  exact unr_trip (s₀ := { s with heap := s.heap.push { cls := .type "list_iterator", data := .fields #[.ref l, .int 0 0] } }) hh hx0 hx1 hx2 hp hT J hc turn done vs.length 0 m news (by omega) h0
end
section
variable {prog : Program} {w : World} {A : Around} {E : Value → Shared → Prop} {s : Shared} {env : Env} {h₀ : Heap} {x : Str} {body : List Stmt} {Q : Flow → Shared → Prop}
theorem range_inv {r : Addr} {a₀ b₀ : Int} {t₀ u₀ v₀ : Tok} {n : Nat} {m₀ : Str → Option Value} {news : List (Addr × Obj)} (J : Nat → (Str → Option Value) → List (Addr × Obj) → Prop)
    (hh : A.handled = none) (hr : IsRange s.heap r a₀ b₀ 1 t₀ u₀ v₀) (hsmall : Builtin.Range.small a₀ b₀ 1 = true) (hsz : Builtin.Range.rangeSize a₀ b₀ 1 = (n : Int))
    (F : Fr h₀ env.locals s.heap m₀) (N : News h₀ env.locals s.heap news) (hj : J 0 m₀ news)
    (turn : ∀ i t m₁ nx h tk own, i < n → OwnOff own (nx.map (·.1)) → J i m₁ nx → Fr h₀ env.locals h (fun y => if y = x then some (.int (a₀ + (i : Int)) t) else m₁ y) → News h₀ env.locals h (nx ++ own) →
      wpAny (model prog w) A (execs body env) (InvPostG h₀ env.locals (J (i + 1)) own { s with heap := h, toks := tk } Q) E { s with heap := h, toks := tk })
    (done : ∀ m₁ nx h tk, J n m₁ nx → Fr h₀ env.locals h m₁ → News h₀ env.locals h nx → Q .next { s with heap := h, toks := tk }) :
    wpAny (model prog w) A (pyIter (.ref r)) (fun it s₂ => LoopAtV prog w A h₀ env x body Q E it s₂) E s := by
  refine wpAny_pyIter_range hr hsmall ?_
  have W : Walks prog w A s.heap.objs.size [s.heap.objs.size] [s.heap.objs.size] n (fun i v => i < n ∧ ∃ t, v = .int (a₀ + i * 1) t)
      (fun i h => IsRangeIter h s.heap.objs.size (a₀ + (i : Nat) * 1) ((n : Int) - (i : Nat)) 1) := (Walks.range hh _ a₀ 1 n).bound
  refine kdr_loop J W (fun _ h => h) (fun _ h => h) ?_ ?_ ?_ ?_ (by show IsRangeIter _ _ _ _ _; rw [hsz]; simpa using Heap.get?_push_size _ rfl) (F.push _) (fun p hp => ⟨Heap.get?_push_of_some _ (N p hp).1, (N p hp).2⟩) hj ?_ done
  · intro i h hi b hb
    rw [List.mem_singleton.mp hb]
    exact ⟨_, hi⟩
  · intro hm
    exact absurd F.ns.lt ((List.mem_singleton.mp hm) ▸ Nat.lt_irrefl _)
  · intro b hb
    rw [List.mem_singleton.mp hb]
    exact next_is_new F
  · intro p hp hI
    exact absurd (Heap.lt_size (N p hp).1) ((List.mem_singleton.mp hI) ▸ Nat.lt_irrefl _)
  · rintro i v m₁ nx h tk own hi ⟨_, t, rfl⟩ hoff hJ F₁ N₁
    have e1 : a₀ + (i : Int) * 1 = a₀ + (i : Int) := by omega
    rw [e1] at F₁
    exact turn i t m₁ nx h tk own hi hoff hJ F₁ N₁
end
section
variable {prog : Program} {w : World} {A : Around} {E : Value → Shared → Prop} {s : Shared} {h₀ : Heap} {L l : Addr} {news : List (Addr × Obj)} {vs : List Value} {ns : List Int} {nn : Nat} {Q : Value → Shared → Prop}
theorem len_ints (N : News h₀ L s.heap news) (hm : (l, listOf vs.toArray nn) ∈ news) (hi : IntsAre vs ns) (hf : (ns.length : Int) < 2 ^ 62)
    (h : ∀ t tk, Q (.int ns.length t) { s with toks := tk }) : wpAny (model prog w) A (call (.builtin "len") [.ref l]) Q E s := by
  refine len_list (News.isList N hm) ?_ ?_
  · rw [List.size_toArray, hi.length]; omega
  · rw [List.size_toArray, hi.length]; exact h _ _
theorem item_ints {value slice : Expr} {k : Int} {u : Tok} (N : News h₀ L s.heap news) (hm : (l, listOf vs.toArray nn) ∈ news) (hi : IntsAre vs ns) (hf : (ns.length : Int) < 2 ^ 62) (h0 : 0 ≤ k) (h1 : k < ns.length)
    (h : ∀ t, Q (.int (ns.getD k.toNat 0) t) s)
    (hs : subscripted slice false (.ref l) (.int k u) = operate [.ref l, .int k u] (getItem (.ref l) (.int k u)) := by with_unfolding_all rfl) :
    wpAny (model prog w) A (subscriptTail value slice (.ref l) (.int k u)) Q E s := by
  have hk : k.toNat < ns.length := by omega
  obtain ⟨t, hx⟩ := hi.get k.toNat (ns[k.toNat]'hk) (List.getElem?_eq_getElem hk)
  have e : ns.getD k.toNat 0 = ns[k.toNat]'hk := by rw [List.getD_eq_getElem?_getD, List.getElem?_eq_getElem hk]; rfl
  have q := h t
  rw [e] at q
  exact tail_any (News.isList N hm).typeIs slot_list_getitem.lookup (wpAny_getItem_list (News.isList N hm) h0 (by omega) (by simpa using hx) q) hs
end
end Sq
end
-- SqEq
section
open PySem PySem.W PyProof.Rows PySem.Calls PySem.Spec PySem.SeqAt
namespace Sq
theorem fm0 (x : Int) {n : Int} (h : 0 < n) : 0 ≤ x.fmod n := Int.fmod_nonneg_of_pos x h
theorem fm1 (x : Int) {n : Int} (h : 0 < n) : x.fmod n < n := Int.fmod_lt_of_pos x h
theorem shaped_tup (ns : List Int) : shaped (.tuple (ns.map PyData.int)) = true := by
  have h1 := W.depthAll_ints ns
  have h2 : PyData.depth (.tuple (ns.map PyData.int)) ≤ 64 := by simp only [PyData.depth]; omega
  show (PyData.canLay0 (.tuple (ns.map PyData.int)) && decide (PyData.depth (.tuple (ns.map PyData.int)) ≤ 64)) = true
  rw [Bool.and_eq_true]
  exact ⟨by simp only [PyData.canLay0]; exact W.canLayAll0_ints ns, decide_eq_true h2⟩
theorem reads_tup {h : Heap} {a : Addr} {vs : List Value} {ns : List Int} (hl : IsTup h a vs.toArray) (hi : IntsAre vs ns) : Reads h (.ref a) (.tuple (ns.map PyData.int)) [] := by
  obtain ⟨o, ho, hc, n, hd⟩ := hl
  exact Reads.tuple ho hc hd (by simpa using readsAll_of_ints hi)
def tkd (t : Tk) : PyData := .tuple [.int t.1, .int t.2.1, .int t.2.2]
theorem toks_read {h₀ h : Heap} {L : Addr} {news : List (Addr × Obj)} {vs : List Value} {ts : List Tk} (N : News h₀ L h news) (hT : ToksIn news vs ts) : ∃ as, ReadsAll h vs (ts.map tkd) as := by
  induction hT with
  | nil => exact ⟨_, .nil⟩
  | cons hm _ ih =>
    obtain ⟨as, ra⟩ := ih
    exact ⟨_, .cons (Reads.tuple (N.get hm) rfl rfl (.cons (.int _ _) (.cons (.int _ _) (.cons (.int _ _) .nil)))) ra⟩
theorem tkd_lay : ∀ ts : List Tk, PyData.canLayAll0 (ts.map tkd) = true
  | [] => by simp [PyData.canLayAll0]
  | t :: r => by simp [PyData.canLayAll0, tkd, PyData.canLay0, tkd_lay r]
theorem tkd_depth : ∀ ts : List Tk, PyData.depthAll (ts.map tkd) ≤ 2
  | [] => by simp [PyData.depthAll]
  | t :: r => by
    have := tkd_depth r
    simp only [List.map_cons, PyData.depthAll, PyData.depth, tkd]
    omega
theorem tkd_shaped (ts : List Tk) : shaped (.list (ts.map tkd)) = true := by
  have h1 := tkd_depth ts
  have h2 : PyData.depth (.list (ts.map tkd)) ≤ 64 := by simp only [PyData.depth]; omega
  show (PyData.canLay0 (.list (ts.map tkd)) && decide (PyData.depth (.list (ts.map tkd)) ≤ 64)) = true
  rw [Bool.and_eq_true]
  exact ⟨by simp only [PyData.canLay0]; exact tkd_lay ts, decide_eq_true h2⟩
theorem tkd_noMix : ∀ ts us : List Tk, noMixAll (ts.map tkd) (us.map tkd) = true
  | [], [] => by simp [noMixAll]
  | [], _ :: _ => by simp [noMixAll]
  | _ :: _, [] => by simp [noMixAll]
  | _ :: r, _ :: q => by simp [noMixAll, noMix, tkd, tkd_noMix r q]
theorem tkd_same : ∀ ts us : List Tk, PySem.Spec.sameAll (ts.map tkd) (us.map tkd) = decide (ts = us)
  | [], [] => by simp [PySem.Spec.sameAll]
  | [], _ :: _ => by simp [PySem.Spec.sameAll]
  | _ :: _, [] => by simp [PySem.Spec.sameAll]
  | (a, b, c) :: r, (a', b', c') :: q => by
    simp only [List.map_cons, PySem.Spec.sameAll, PySem.Spec.same, tkd, tkd_same r q]
    by_cases h1 : a = a' <;> by_cases h2 : b = b' <;> by_cases h3 : c = c' <;> by_cases h4 : r = q <;> simp [h1, h2, h3, h4]
section
variable {prog : Program} {w : World} {A : Around} {E : Value → Shared → Prop} {s : Shared} {Q : Value → Shared → Prop}
theorem ne_tup {a b : Addr} {vs us : List Value} {ns ms : List Int} (hl : IsTup s.heap a vs.toArray) (hi : IntsAre vs ns) (hl' : IsTup s.heap b us.toArray) (hi' : IntsAre us ms) (hu : A.units + 64 < cLine)
    (h : Q (.bool (!decide (ns = ms))) s) : wpAny (model prog w) A (compareOp .NotEq (.ref a) (.ref b)) Q E s :=
  ne_dataH_same (reads_tup hl hi) (reads_tup hl' hi') (shaped_tup ns) (shaped_tup ms) hu (by simp only [noMix]; exact noMix_ints ns ms) (by simp only [PySem.Spec.same]; rw [same_ints]; exact h)
theorem ne_toks {h₀ : Heap} {L a b : Addr} {news : List (Addr × Obj)} {vs us : List Value} {n n' : Nat} {ts ss : List Tk} (N : News h₀ L s.heap news) (ha : (a, listOf vs.toArray n) ∈ news) (hb : (b, listOf us.toArray n') ∈ news)
    (hi : ToksIn news vs ts) (hj : ToksIn news us ss) (hu : A.units + 64 < cLine)
    (h : Q (.bool (!decide (ts = ss))) s) : wpAny (model prog w) A (compareOp .NotEq (.ref a) (.ref b)) Q E s := by
  obtain ⟨as, ra⟩ := toks_read N hi
  obtain ⟨bs, rb⟩ := toks_read N hj
  exact ne_dataH_same (Reads.list (N.get ha) rfl rfl (by simpa using ra)) (Reads.list (N.get hb) rfl rfl (by simpa using rb)) (tkd_shaped ts) (tkd_shaped ss) hu
    (by simp only [noMix]; exact tkd_noMix ts ss) (by simp only [PySem.Spec.same]; rw [tkd_same]; exact h)
theorem item_tup_any {value slice : Expr} {a : Addr} {l : List Value} {k : Int} {u : Tok} (ht : IsTup s.heap a l.toArray) (h0 : 0 ≤ k) (h1 : k < l.length) (hf : (l.length : Int) < 2 ^ 62) (h : ∀ v ∈ l, Q v s)
    (hs : subscripted slice false (.ref a) (.int k u) = operate [.ref a, .int k u] (getItem (.ref a) (.int k u)) := by with_unfolding_all rfl) :
    wpAny (model prog w) A (subscriptTail value slice (.ref a) (.int k u)) Q E s := by
  have hk : k.toNat < l.length := by omega
  refine item_tupleT ht (by omega) (by omega) (j := k.toNat) ?_ (List.getElem?_eq_getElem hk) (h _ (List.getElem_mem hk)) hs
  simp only [seqIndex?, if_neg (show ¬ k < 0 by omega)]
  rw [if_pos (by simp; omega)]
end
section
variable {prog : Program} {w : World} {A : Around} {E : Value → Shared → Prop} {s : Shared} {h₀ : Heap} {L : Addr} {m : Str → Option Value} {news : List (Addr × Obj)} {Q : Value → Shared → Prop}
theorem sq_append {D : Addr} {vs : List Value} {c : Nat} {rest : List (Addr × Obj)} {x : Value} (F : Fr h₀ L s.heap m) (N : News h₀ L s.heap ((D, listOf vs.toArray c) :: rest)) (hoff : ∀ p ∈ rest, p.1 ≠ D) (hz : vs.length ≤ 16000000)
    (h : ∀ h', Fr h₀ L h' m → News h₀ L h' ((D, listOf (vs ++ [x]).toArray (c + 1)) :: rest) → Q .none { s with heap := h' }) :
    wpAny (model prog w) A (call (.builtin "list.append") [.ref D, x]) Q E s := by
  refine append_K F N (Upd.head hoff) (fun h' F' N' => ?_) (by rw [List.size_toArray, sizeLine_eq]; omega)
  rw [list_end] at N'
  exact h h' F' N'
theorem sq_append_upd {D : Addr} {vs : List Value} {c : Nat} {news' : List (Addr × Obj)} {x : Value} (F : Fr h₀ L s.heap m) (N : News h₀ L s.heap news) (U : Upd D (listOf vs.toArray c) (listOf (vs ++ [x]).toArray (c + 1)) news news') (hz : vs.length ≤ 16000000)
    (h : ∀ h', Fr h₀ L h' m → News h₀ L h' news' → Q .none { s with heap := h' }) :
    wpAny (model prog w) A (call (.builtin "list.append") [.ref D, x]) Q E s := by
  rw [← list_end] at U
  exact append_K F N U h (by rw [List.size_toArray, sizeLine_eq]; omega)
theorem allLt_mem {D : Addr} : ∀ {l : List (Addr × Obj)}, AllLt D l → ∀ p ∈ l, p.1 < D
  | [], _, _, h => nomatch h
  | _ :: _, x, p, h => by
    rcases List.mem_cons.mp h with rfl | h
    · exact x.1
    · exact allLt_mem x.2 p h
theorem mul_rep {l : Addr} {v : Value} {nn : Nat} {x : Int} {u : Tok} (F : Fr h₀ L s.heap m) (N : News h₀ L s.heap news) (hm : (l, listOf #[v] nn) ∈ news) (h0 : 0 ≤ x) (h1 : x ≤ 1000000)
    (h : ∀ D h', Fr h₀ L h' m → News h₀ L h' ((D, listOf (List.replicate x.toNat v).toArray 0) :: news) → (∀ p ∈ news, p.1 < D) → Q (.ref D) { s with heap := h' }) :
    wpAny (model prog w) A (binaryOp .Mult (.ref l) (.int x u)) Q E s := by
  refine mul_list F N (N.get hm) (by omega) (by omega) ?_ fun h' F' N' => ?_
  · show 1 * x.toNat ≤ 2 ^ 24
    omega
  · have e : (List.foldl (fun x1 x2 => x1 ++ x2) #[] (List.replicate (if (#[v] : Array Value).isEmpty = true then 0 else x.toNat) #[v])) = (List.replicate x.toNat v).toArray := by
      rw [if_neg (by simp)]
      generalize x.toNat = n
      have q : ∀ (n : Nat) (acc : Array Value), List.foldl (fun x1 x2 => x1 ++ x2) acc (List.replicate n #[v]) = acc ++ (List.replicate n v).toArray := by
        intro n
        induction n with
        | zero => intro acc; simp
        | succ n ih =>
          intro acc
          rw [List.replicate_succ, List.foldl_cons, ih, List.replicate_succ, Array.append_assoc]
          congr 1
          simp
      rw [q]
      simp
    rw [e] at N'
    exact h _ h' F' N' fun p hp => Heap.lt_size (N p hp).1
theorem add_any {a b : Addr} {vs ws : List Value} {n n' : Nat} (F : Fr h₀ L s.heap m) (N : News h₀ L s.heap news) (ha : (a, listOf vs.toArray n) ∈ news) (hb : (b, listOf ws.toArray n') ∈ news)
    (hz : vs.length + ws.length ≤ 1000000)
    (h : ∀ D h', Fr h₀ L h' m → News h₀ L h' ((D, listOf (vs ++ ws).toArray 0) :: news) → (∀ p ∈ news, p.1 < D) → Q (.ref D) { s with heap := h' }) :
    wpAny (model prog w) A (binaryOp .Add (.ref a) (.ref b)) Q E s :=
  add_lists F N (News.isList N ha) (News.isList N hb) (fun h' F' N' => h _ h' F' N' fun p hp => Heap.lt_size (N p hp).1) (by rw [sizeLine_eq]; omega)
theorem tup_item {value slice : Expr} {a : Addr} {l : List Value} {k : Int} {u : Tok} {v : Value} (F : Fr h₀ L s.heap m) (ht : IsTup h₀ a l.toArray) (h0 : 0 ≤ k) (h1 : k < 1000) (hx : l[k.toNat]? = some v) (h : Q v s)
    (hs : subscripted slice false (.ref a) (.int k u) = operate [.ref a, .int k u] (getItem (.ref a) (.int k u)) := by with_unfolding_all rfl) :
    wpAny (model prog w) A (subscriptTail value slice (.ref a) (.int k u)) Q E s := by
  have hk : k.toNat < l.length := (List.getElem?_eq_some_iff.mp hx).1
  refine item_tupleT (Fr.tup F ht) (by omega) (by omega) (j := k.toNat) ?_ hx h hs
  simp only [seqIndex?, if_neg (show ¬ k < 0 by omega)]
  rw [if_pos (by simp; omega)]
theorem slice_all {value slice : Expr} {l : Addr} {vs : List Value} {n : Nat} (F : Fr h₀ L s.heap m) (N : News h₀ L s.heap news) (hm : (l, listOf vs.toArray n) ∈ news) (hz : vs.length ≤ 1000000)
    (h : ∀ D h', Fr h₀ L h' m → News h₀ L h' ((D, listOf vs.toArray 0) :: news) → (∀ p ∈ news, p.1 < D) → Q (.ref D) { s with heap := h' })
    (hs : subscripted slice false (.ref l) (.ref s.heap.objs.size) = operate [.ref s.heap.objs.size, .ref l] (getItem (.ref l) (.ref s.heap.objs.size))) (ht : ∀ r, letTemporaryGo value (.ref l) r = pure ()) :
    wpAny (model prog w) A (subscriptTail value slice (.ref l) (.ref s.heap.objs.size)) Q E { s with heap := s.heap.push { cls := .type "slice", data := .fields #[.none, .none, .none] } } :=
  kmk_slice_lit F N (News.isList N hm) .none .none (by rw [slicePick_all]) h hs ht (by rw [List.size_toArray, sizeLine_eq]; omega)
theorem ints_rep (b : Int) (t : Tok) : ∀ k : Nat, IntsAre (List.replicate k (.int b t)) (List.replicate k b)
  | 0 => .nil
  | k + 1 => .cons b t (ints_rep b t k)
theorem ne_ints_eq {a b : Addr} {vs ws : List Value} {n n' : Nat} {ns ms : List Int} (N : News h₀ L s.heap news) (ha : (a, listOf vs.toArray n) ∈ news) (hb : (b, listOf ws.toArray n') ∈ news) (hi : IntsAre vs ns) (hj : IntsAre ws ms) (e : ns = ms)
    (hu : A.units + 64 < cLine) (h : Q (.bool false) s) : wpAny (model prog w) A (compareOp .NotEq (.ref a) (.ref b)) Q E s :=
  ne_intsK (News.isList N ha) hi (News.isList N hb) hj hu (by rw [decide_eq_true e]; exact h)
theorem item_list_any {value slice : Expr} {l : Addr} {vs : List Value} {nn : Nat} {k : Int} {u : Tok} (N : News h₀ L s.heap news) (hm : (l, listOf vs.toArray nn) ∈ news) (h0 : 0 ≤ k) (h1 : k < vs.length) (hf : (vs.length : Int) < 2 ^ 62) (h : ∀ v ∈ vs, Q v s)
    (hs : subscripted slice false (.ref l) (.int k u) = operate [.ref l, .int k u] (getItem (.ref l) (.int k u)) := by with_unfolding_all rfl) :
    wpAny (model prog w) A (subscriptTail value slice (.ref l) (.int k u)) Q E s := by
  have hk : k.toNat < vs.length := by omega
  exact tail_any (News.isList N hm).typeIs slot_list_getitem.lookup (wpAny_getItem_list (News.isList N hm) h0 (by omega) (by simpa using List.getElem?_eq_getElem hk) (h _ (List.getElem_mem hk))) hs
theorem toks_rep {a : Addr} {k v l : Int} {t0 t1 t2 : Tok} {n : Nat} (h : (a, tup3 k v l t0 t1 t2 n) ∈ news) : ∀ c : Nat, ToksIn news (List.replicate c (.ref a)) (List.replicate c (k, v, l))
  | 0 => .nil
  | c + 1 => .cons h (toks_rep h c)
end
end Sq
end
-- SqComp
section
open PySem PySem.W PyProof.Rows PySem.Calls PySem.Spec
namespace Sq
section
variable {prog : Program} {w : World} {A : Around} {E : Value → Shared → Prop} {s : Shared} {h₀ : Heap} {L : Addr} {m : Str → Option Value} {env : Env}
theorem compRest_of {elt : Expr} {x : Str} {scope : Scope} {cl : List (Str × Addr)} {S : List (Addr × Obj) → Prop} {P : Nat → Value → Prop} {Fin : List Value → List (Addr × Obj) → Prop} {news : List (Addr × Obj)} {n : Nat} (G : Nat → Value → Prop) (hS : S news)
    (turn : ∀ i v I oI C oC D ys m₂ h tk (E' : Value → Shared → Prop), i < n → P i v → LCg.NsObj oC m₂ → m₂ x = some v → Fr h₀ L h m → News h₀ L h ((I, oI) :: (C, oC) :: (D, LCg.lst ys) :: news) → LCg.Off3 I C D news → ((@Ne Nat I C) ∧ (@Ne Nat I D) ∧ (@Ne Nat C D)) →
      wpAny (model prog w) A (eval elt (compEnvC scope cl C env)) (fun y s₂ => ∃ h' tk', s₂ = { s with heap := h', toks := tk' } ∧ Fr h₀ L h' m ∧ News h₀ L h' ((I, oI) :: (C, oC) :: (D, LCg.lst ys) :: news) ∧ G i y) E' { s with heap := h, toks := tk })
    (fin : ∀ ys : List Value, ys.length = n → (∀ i y, ys[i]? = some y → G i y) → Fin ys news) :
    ∀ (k i : Nat) (ys : List Value), i + k = n → ys.length = i → (∀ j y, ys[j]? = some y → G j y) → LCg.CompRest prog w A h₀ L m env elt x scope cl s S P Fin k i ys news := by
  intro k
  induction k with
  | zero =>
    intro i ys hi hl hG
    exact fin ys (by omega) hG
  | succ k ih =>
    intro i ys hi hl hG v I oI C oC D m₂ h tk E' hP hNs hx F N off hne
    refine wpAny_mono (turn i v I oI C oC D ys m₂ h tk E' (by omega) hP hNs hx F N off hne) (fun y s₂ q => ?_) fun _ _ e => e
    obtain ⟨h', tk', rfl, F', N', hy⟩ := q
    refine ⟨h', tk', news, rfl, F', N', off, hS, ih (i + 1) (ys ++ [y]) (by omega) (by simp [hl]) ?_⟩
    intro j z hz
    by_cases hj : j < ys.length
    · rw [List.getElem?_append_left hj] at hz
      exact hG j z hz
    · rw [List.getElem?_append_right (by omega)] at hz
      have hj' : j - ys.length = 0 := by
        rcases Nat.eq_zero_or_pos (j - ys.length) with h0 | h0
        · exact h0
        · rw [List.getElem?_eq_none (by simp; omega)] at hz; cases hz
      rw [hj'] at hz
      have : j = i := by omega
      subst this
      simp at hz
      subst hz
      exact hy
theorem off1_mem {D : Addr} : ∀ {l : List (Addr × Obj)}, LCg.Off1 D l → ∀ p ∈ l, p.1 ≠ D
  | [], _, _, h => nomatch h
  | _ :: _, x, p, h => by
    rcases List.mem_cons.mp h with rfl | h
    · exact x.1
    · exact off1_mem x.2 p h
theorem ext_get {vs ys : List Value} (hl : ys.length = vs.length) (hG : ∀ (i : Nat) (y : Value), ys[i]? = some y → vs[i]? = some y) : ys = vs := by
  refine List.ext_getElem? fun i => ?_
  cases h : ys[i]? with
  | some y => exact (hG i y h).symm
  | none =>
    rw [List.getElem?_eq_none_iff] at h
    rw [List.getElem?_eq_none (by omega)]
/-- `y = [x for x in sn]`: a copy -/
theorem assign_copy {x y sn : Str} {px py pe ps : Pos} {scope : Scope} {cl : List (Str × Addr)} {pos spos : Pos} {Q : Flow → Shared → Prop} {ax : Addr} {vs : List Value} {nn : Nat} {news : List (Addr × Obj)}
    (hh : A.handled = none) (F : Fr h₀ L s.heap m) (N : News h₀ L s.heap news) (hm : (ax, listOf vs.toArray nn) ∈ news) (hz : vs.length ≤ 1000000) (hLe : env.locals = L)
    (hload : ∀ Q' : Value → Shared → Prop, Q' (.ref ax) s → wpAny (model prog w) A (eval (.Name sn ps) env) Q' E s)
    (hsw : swapsWith (.ListComp (.Name x pe) [⟨.Name x px, .Name sn ps, [], 0⟩] scope pos) (some (.Name y py)) spos.line env = pure true)
    (hclos : closureFor scope env = pure cl) (hcell : ∀ z ∈ scope.names, z.2 ≠ .cell) (hkind : scope.kind = .function)
    (hnames : ∀ z ∈ scope.names, z.2 = .local → scope.names.lookup z.1 = some .local) (hx : scope.names.lookup x = some .local)
    (hy : env.kindOf y = some .local) (hp : (env.scope.kind == .class || (env.scope.kind == .module && env.locals != env.globals)) = false)
    (hk : ∀ C, (compEnvC scope cl C env).scope.kind = .function) (hxl : ∀ C, (compEnvC scope cl C env).kindOf x = some .local) (hd : (x == ("__debug__" : Str)) = false)
    (h : ∀ D c h' tk, Fr h₀ L h' (fun z => if z = y then some (.ref D) else m z) → News h₀ L h' ((D, listOf vs.toArray c) :: news) → (∀ p ∈ news, p.1 ≠ D) → Q .next { s with heap := h', toks := tk }) :
    wpAny (model prog w) A (exec (.Assign [.Name y py] (.ListComp (.Name x pe) [⟨.Name x px, .Name sn ps, [], 0⟩] scope pos) spos) env) Q E s := by
  refine LCg.Assign_ListComp_U F hLe hsw hclos hcell hkind hnames hx hy hp (hload _ ?_)
  refine LCg.CompSrc.ledger hh F N hm (by rw [List.size_toArray, sizeLine_eq]; omega) fun g => ?_
  have e : vs.toArray.size = vs.length := by simp
  rw [e]
  refine compRest_of (n := vs.length) (fun i y => vs[i]? = some y) (.inr ⟨_, hm, rfl, _, rfl⟩) ?_ ?_ vs.length 0 [] (by omega) rfl (fun j y hj => by simp at hj)
  · intro i v I oI C oC D ys m₂ h1 tk E' hi hP hNs hxv F1 N1 off hne
    refine LCgL.ld_own N1 (.tail _ (.head _)) hNs hxv ?_ (hk C) (hxl C) hd
    exact ⟨h1, tk, rfl, F1, N1, by simpa using hP⟩
  · intro ys hl hG D h1 tk F1 N1 off
    have e1 : ys = vs := ext_get hl hG
    subst e1
    refine h D _ h1 tk F1 N1 ?_
    exact off1_mem off
end
section
variable {prog : Program} {w : World} {A : Around} {E : Value → Shared → Prop} {s : Shared} {h₀ : Heap} {L : Addr} {m : Str → Option Value} {news : List (Addr × Obj)}
theorem ownOff_ins {own : List (Addr × Obj)} {A B : List Addr} {D : Addr} (h : OwnOff own (A ++ B)) (hD : ∀ p ∈ own, p.1 ≠ D) : OwnOff own (A ++ D :: B) := by
  intro p hp b hb
  rcases List.mem_append.mp hb with hb | hb
  · exact h p hp b (List.mem_append_left _ hb)
  · rcases List.mem_cons.mp hb with rfl | hb
    · exact hD p hp
    · exact h p hp b (List.mem_append_right _ hb)
theorem range_call {n : Int} {t : Tok} {Q : Value → Shared → Prop} (F : Fr h₀ L s.heap m) (N : News h₀ L s.heap news)
    (h : ∀ r h' tk t u v, Fr h₀ L h' m → News h₀ L h' news → IsRange h' r 0 n 1 t u v → Q (.ref r) { s with heap := h', toks := tk }) :
    wpAny (model prog w) A (call (.type "range") [.int n t]) Q E s :=
  call_range_1 (h _ _ _ _ _ _ (F.push _) (N.grown fun _ _ e => Heap.get?_push_of_some _ e) (Heap.get?_push_size _ rfl))
end
end Sq
end
-- SqFor
section
open PySem PySem.W PyProof.Rows PySem.Calls PySem.Spec
namespace Sq
section
variable {prog : Program} {w : World} {A : Around} {E : Value → Shared → Prop} {s : Shared} {h₀ : Heap} {L : Addr} {m : Str → Option Value} {env : Env}
/-- a comprehension whose turns may lay new objects -/
theorem compRest_inv {elt : Expr} {x : Str} {scope : Scope} {cl : List (Str × Addr)} {S : List (Addr × Obj) → Prop} {P : Nat → Value → Prop} {Fin : List Value → List (Addr × Obj) → Prop} {n : Nat} (J : Nat → List Value → List (Addr × Obj) → Prop) (hS : ∀ i ys nx, J i ys nx → S nx)
    (turn : ∀ i v I oI C oC D ys nx m₂ h tk (E' : Value → Shared → Prop), i < n → P i v → J i ys nx → LCg.NsObj oC m₂ → m₂ x = some v → Fr h₀ L h m → News h₀ L h ((I, oI) :: (C, oC) :: (D, LCg.lst ys) :: nx) → LCg.Off3 I C D nx → ((@Ne Nat I C) ∧ (@Ne Nat I D) ∧ (@Ne Nat C D)) →
      wpAny (model prog w) A (eval elt (compEnvC scope cl C env)) (fun y s₂ => ∃ h' tk' nx', s₂ = { s with heap := h', toks := tk' } ∧ Fr h₀ L h' m ∧ News h₀ L h' ((I, oI) :: (C, oC) :: (D, LCg.lst ys) :: nx') ∧ LCg.Off3 I C D nx' ∧ J (i + 1) (ys ++ [y]) nx') E' { s with heap := h, toks := tk })
    (fin : ∀ ys nx, J n ys nx → Fin ys nx) :
    ∀ (k i : Nat) (ys : List Value) (nx : List (Addr × Obj)), i + k = n → J i ys nx → LCg.CompRest prog w A h₀ L m env elt x scope cl s S P Fin k i ys nx := by
  intro k
  induction k with
  | zero =>
    intro i ys nx hi hJ
    have : i = n := by omega
    subst this
    exact fin ys nx hJ
  | succ k ih =>
    intro i ys nx hi hJ v I oI C oC D m₂ h tk E' hP hNs hx F N off hne
    refine wpAny_mono (turn i v I oI C oC D ys nx m₂ h tk E' (by omega) hP hJ hNs hx F N off hne) (fun y s₂ q => ?_) fun _ _ e => e
    obtain ⟨h', tk', nx', rfl, F', N', off', hJ'⟩ := q
    exact ⟨h', tk', nx', rfl, F', N', off', hS _ _ _ hJ', ih (i + 1) (ys ++ [y]) nx' (by omega) hJ'⟩
end
section
variable {prog : Program} {w : World} {A : Around} {E : Value → Shared → Prop} {s : Shared} {env : Env} {h₀ : Heap} {target : Expr} {body : List Stmt} {Q : Flow → Shared → Prop}
theorem unr_items {vs : List Value} {fp : List Addr} {s₀ : Shared} (J : Nat → (Str → Option Value) → List (Addr × Obj) → Prop)
    (turn : ∀ i v m₁ news₁ h tk own, vs[i]? = some v → J i m₁ news₁ → (∀ p ∈ own, p.1 ∈ fp) → Fr h₀ env.locals h m₁ → News h₀ env.locals h (own ++ news₁) →
      wpAny (model prog w) A (assign target env v) (fun _ s₂ => wpAny (model prog w) A (execs body env) (TurnPost h₀ env.locals own news₁ (J (i + 1)) { s₀ with heap := h, toks := tk } Q) E s₂) E { s₀ with heap := h, toks := tk })
    (done : ∀ m₁ news₁ h tk, J vs.length m₁ news₁ → Fr h₀ env.locals h m₁ → News h₀ env.locals h news₁ → Q .next { s₀ with heap := h, toks := tk }) :
    ∀ (j i : Nat) (m₁ : Str → Option Value) (news₁ : List (Addr × Obj)), i + j = vs.length → J i m₁ news₁ →
      Unr prog w A E h₀ env target body Q (fun i v => vs.toArray[i]? = some v) fp s₀ j i m₁ news₁ := by
  intro j
  induction j with
  | zero =>
    intro i m₁ news₁ hi hJ h' tk F N
    rw [Nat.add_zero] at hi
    subst hi
    exact done m₁ news₁ h' tk hJ F N
  | succ j ih =>
    intro i m₁ news₁ hi hJ x h₁ tk₁ own hP hown F N
    have hx : vs[i]? = some x := by simpa using hP
    refine wpAny_mono (turn i x m₁ news₁ h₁ tk₁ own hx hJ hown F N) (fun _ s₂ q => wpAny_mono q (fun f s₃ q => ?_) fun _ _ e => e) fun _ _ e => e
    cases f with
    | ret v => exact q
    | brk => exact q
    | cont =>
      obtain ⟨e0, h', tk', m₂, n₂, e, F', N', ha, hJ'⟩ := q
      exact ⟨e0, h', tk', m₂, n₂, e, F', N', ha, ih (i + 1) m₂ n₂ (by omega) hJ'⟩
    | next =>
      obtain ⟨e0, h', tk', m₂, n₂, e, F', N', ha, hJ'⟩ := q
      exact ⟨e0, h', tk', m₂, n₂, e, F', N', ha, ih (i + 1) m₂ n₂ (by omega) hJ'⟩
/-- a loop over a list of the ledger, whatever its items; behind `For_unr` -/
theorem items_iter {vs : List Value} {l : Addr} {nn : Nat} {m : Str → Option Value} {news : List (Addr × Obj)} (J : Nat → (Str → Option Value) → List (Addr × Obj) → Prop)
    (hh : A.handled = none) (F : Fr h₀ env.locals s.heap m) (N : News h₀ env.locals s.heap news) (hl : (l, listOf vs.toArray nn) ∈ news) (h0 : J 0 m news)
    (turn : ∀ i v m₁ news₁ h tk own, vs[i]? = some v → J i m₁ news₁ → (∀ p ∈ own, p.1 ∈ [s.heap.objs.size, l]) → Fr h₀ env.locals h m₁ → News h₀ env.locals h (own ++ news₁) →
      wpAny (model prog w) A (assign target env v) (fun _ s₂ => wpAny (model prog w) A (execs body env) (TurnPost h₀ env.locals own news₁ (J (i + 1)) { s with heap := h, toks := tk } Q) E s₂) E { s with heap := h, toks := tk })
    (done : ∀ m₁ news₁ h tk, J vs.length m₁ news₁ → Fr h₀ env.locals h m₁ → News h₀ env.locals h news₁ → Q .next { s with heap := h, toks := tk }) :
    wpAny (model prog w) A (pyIter (.ref l)) (fun it s₂ => UnrAt prog w A h₀ env target body Q E it s₂) E s := by
  refine Iter_list_unr hh (News.isList N hl) F N (News.ne N hl) ?_
  have e : vs.toArray.size = vs.length := by simp
  rw [e]
  exact unr_items (s₀ := { s with heap := s.heap.push { cls := .type "list_iterator", data := .fields #[.ref l, .int 0 0] } }) J turn done vs.length 0 m news (by omega) h0
end
section
variable {prog : Program} {w : World} {A : Around} {E : Value → Shared → Prop} {s : Shared} {h₀ : Heap} {L : Addr} {m : Str → Option Value} {news : List (Addr × Obj)}
/-- `list(x)` of a list in the ledger -/
theorem list_of {Q : Value → Shared → Prop} {b : Addr} {vs : List Value} {n : Nat} (F : Fr h₀ L s.heap m) (N : News h₀ L s.heap news) (hb : (b, listOf vs.toArray n) ∈ news) (hz : vs.length ≤ 1000000)
    (h : ∀ D c h', Fr h₀ L h' m → News h₀ L h' ((D, listOf vs.toArray c) :: news) → (∀ q ∈ news, q.1 < D) → Q (.ref D) { s with heap := h' }) : wpAny (model prog w) A (call (.type "list") [.ref b]) Q E s :=
  kup_listOf F N hb rfl h (by rw [sizeLine_eq]; show vs.length ≤ _; omega)
end
end Sq
namespace Sq
theorem ints_at {vs : List Value} {ns : List Int} (hi : IntsAre vs ns) {i : Nat} {v : Value} (hv : vs[i]? = some v) : ∃ x t, v = .int x t ∧ ns[i]? = some x := by
  have hk : i < vs.length := (List.getElem?_eq_some_iff.mp hv).1
  have hk' : i < ns.length := by rw [← hi.length]; exact hk
  obtain ⟨t, hx⟩ := hi.get i (ns[i]'hk') (List.getElem?_eq_getElem hk')
  rw [hv] at hx
  exact ⟨_, t, Option.some.inj hx, List.getElem?_eq_getElem hk'⟩
theorem ints_set {vs : List Value} {ns : List Int} (h : IntsAre vs ns) (i : Nat) (x : Int) (t : Tok) : IntsAre (vs.set i (.int x t)) (ns.set i x) := by
  induction h generalizing i with
  | nil => exact .nil
  | cons n u _ ih =>
    cases i with
    | zero => exact .cons x t (by assumption)
    | succ i => exact .cons n u (ih i)
theorem ints_app {vs ws : List Value} {ns ms : List Int} (h : IntsAre vs ns) (k : IntsAre ws ms) : IntsAre (vs ++ ws) (ns ++ ms) := by
  induction h with
  | nil => exact k
  | cons n t _ ih => exact .cons n t ih
theorem ints_of_get {ys : List Value} {f : Nat → Int} {n : Nat} (hl : ys.length = n) (hG : ∀ (i : Nat) (y : Value), ys[i]? = some y → ∃ t, y = .int (f i) t) : IntsAre ys ((List.range n).map f) := by
  induction n generalizing ys f with
  | zero =>
    have : ys = [] := List.eq_nil_of_length_eq_zero hl
    subst this
    exact .nil
  | succ n ih =>
    cases ys with
    | nil => simp at hl
    | cons y r =>
      obtain ⟨t, rfl⟩ := hG 0 y rfl
      rw [List.range_succ_eq_map, List.map_cons, List.map_map]
      refine .cons _ _ (ih (by simpa using hl) fun i z hz => hG (i + 1) z (by simpa using hz))
/-- a list whose items are ints of a kind -/
theorem ints_all {P : Int → Prop} : ∀ (ys : List Value), (∀ (i : Nat) (y : Value), ys[i]? = some y → ∃ x t, y = .int x t ∧ P x) → ∃ ns, IntsAre ys ns ∧ (∀ x ∈ ns, P x) ∧ ns.length = ys.length
  | [], _ => ⟨[], .nil, ⟨(fun _ h => nomatch h), rfl⟩⟩
  | y :: r, h => by
    obtain ⟨x, t, rfl, hx⟩ := h 0 y rfl
    obtain ⟨ns, h1, h2, h3⟩ := ints_all r fun i z hz => h (i + 1) z (by simpa using hz)
    refine ⟨x :: ns, .cons x t h1, fun z hz => ?_, by simp [h3]⟩
    rcases List.mem_cons.mp hz with rfl | hz
    · exact hx
    · exact h2 z hz
end Sq
namespace Sq
theorem news_two {h₀ h : Heap} {L : Addr} {led news : List (Addr × Obj)} {q : Addr × Obj} (N : News h₀ L h led) (hq : q ∈ led) (hs : ∀ p ∈ news, p ∈ led) : News h₀ L h (q :: news) := fun p hp => by
  rcases List.mem_cons.mp hp with rfl | hp
  · exact N _ hq
  · exact N _ (hs p hp)
end Sq
end
-- SqTry
section
namespace Sq
open PySem PySem.W PySem.Spec PySem.Calls PyProof.Rows

section
variable {prog : Program} {w : World} {A₀ A : Around} {s : Shared} {base h₀ : Heap} {env : Env} {L : Addr} {m : Str → Option Value} {news : List (Addr × Obj)} {K : Frag} {p : Program} {loose : List Str} {mean : ExcName → Option Value} {mg mb : Str → Option Value}
    {R : Result → Shared → Prop} {name qual : Str} {params : Arguments} {body : List Stmt} {scope : Scope} {dV kV doc pm cdv ct oc : Value} {an od : Option Addr} {osl : Array (Option Value)} {f : Addr} {args : Args} {binds : List (Str × Value)}

theorem try_enter (B : Below A₀ base [] h₀) (F : Fr h₀ L s.heap m) (X₀ : K.In h₀) (N : News h₀ L s.heap news) (T : Top p loose mean mg mb h₀) (hA : A.frames = some [env]) (hf : env.frame = some L) (hke : env.scope.kind = .function)
    (ho : K.lookup f = some ⟨oc, od, .func (fnOf name qual params body scope dV kV doc pm an cdv ct), osl⟩) (hcd : codeIn K cdv qual = true) (hroom : A.depth < recursionLimit)
    (hbind : BindsTo s (fnOf name qual params body scope dV kV doc pm an cdv ct) args binds) (hloc : ∀ y ∈ binds, scope.names.lookup y.1 = some .local)
    (h : ∀ g L' h₁, Fr h₀ L g m → Fr g L' h₁ (fun y => binds.reverse.lookup y) → News g L' h₁ news → Below A base [env] g → K.In g → Top p loose mean mg mb g → KtsDicts ([env].filterMap (·.frame)) g →
      wpAny (model prog w) (A.deeper (envOf qual scope L' f cdv)) (execs body (envOf qual scope L' f cdv))
        (fun fl s' => LeaveS0 ([env].filterMap (·.frame)) h₀ L m g R (match fl with | .ret v => v | _ => .none) s')
        (fun e s' => wpAny (model prog w) (A.deeper (envOf qual scope L' f cdv)) (leaving (envOf qual scope L' f cdv) e) (fun _ s'' => R (.error e) s'') (fun e' s'' => R (.error e') s'') s')
        { s with heap := h₁, toks := s.toks + binds.length })
    (hco : scope.isCoroutine = false) (hgen : scope.isGenerator = false) (hk : scope.kind = .function)
    (hcell : ∀ x ∈ scope.names, x.2 ≠ .cell) : codeAny (model prog w) A (.call (.ref f) args) R s := by
  have X := X₀.keeps F.keep
  refine codeAny_call_def (fd := fnOf name qual params body scope dV kV doc pm an cdv ct) (body := body) (binds := binds) hroom (X _ _ ho) rfl (T.nolimit.keeps F.keep) (codeRec_of X hcd) rfl hbind hcell hloc (fun h₁ hns hk₁ => ?_) hco hgen hk
  obtain ⟨FG, BG, st, _⟩ := groundX (R := R) B F N hA hf hke
  have fe : [env].filterMap (·.frame) = [L] := by simp [hf]
  obtain ⟨oL, es, ep, hLg, hLd, hLk, hLf⟩ := FG.ns
  refine wpAny_mono (h _ s.heap.objs.size h₁ FG ⟨hns, fun b o e => hk₁ b o (of_hideAll _ e), Nat.le_of_eq (hideAll_size _ _)⟩
    (fun p hp => ⟨hk₁ _ _ (N p hp).1, Nat.ne_of_lt (Heap.lt_size (N p hp).1), hideAll_none _ (List.mem_map_of_mem hp)⟩) BG (X₀.keeps st) (T.keeps st) (fun b hb => by
      rw [fe] at hb
      cases List.mem_singleton.mp hb
      exact ⟨oL, es, ep, hLg, hLd⟩)) (fun fl s' hl => ?_) fun _ _ y => y
  obtain ⟨g', L', m', news', T', F', N', k⟩ := hl
  have nL₀ : h₀.get? L = none := kts_self F
  obtain ⟨sl, hs⟩ := T'.up hLg
  refine k ⟨⟨_, es, ep, F'.keep _ _ hs, hLd, hLk, hLf⟩, fun b o e => F'.keep b o (T'.other b o (st b o e) (fun q => by
    rw [fe] at q
    rw [List.mem_singleton.mp q, nL₀] at e
    cases e)), F.above⟩ fun p hp => ⟨(N' p hp).1, fun q => ?_, ?_⟩
  · have := (N' p hp).2.2; rw [q, hs] at this; cases this
  · cases q : h₀.get? p.1 with
    | none => rfl
    | some o =>
      obtain ⟨sl', hs'⟩ := T'.up (st _ _ q)
      have := (N' p hp).2.2
      rw [hs'] at this
      cases this
end
end Sq
end
-- H303
section
open PySem PySem.W PyProof.Rows
namespace S303
open_top hd for PySem.Challenge.rw_pd_squeeze_3_03
end S303
end
-- C303a
section
open PySem PySem.W PyProof.Rows PySem.Calls PySem.Spec Sq
namespace S303
section
variable {prog : Program} {w : World} {p : Program} {loose : List Str} {mean : ExcName → Option Value} {mg mb : Str → Option Value} {dp un : Nat} {gd : Option (List Code)} {cn : Str} {cs : Scope} {a : Addr} {ccd : Value} {cl : List (Str × Addr)} {outer : List Env} {A₀ : Around} {base h₀ : Heap} {L : Addr} {m : Str → Option Value} {news : List (Addr × Obj)} {s : Shared} {Q E : Value → Shared → Prop}
theorem tokens_ok_call {l : Addr} {vs : List Value} {ts : List Tk} {nn : Nat}
    (B : Below A₀ base outer h₀) (F : Fr h₀ L s.heap m) (X : (hd.heap_39 w.params).In h₀) (N : News h₀ L s.heap news) (T : Top p loose mean mg mb h₀) (hk : cs.kind = .function)
    (hl : (l, listOf vs.toArray nn) ∈ news) (hT : ToksIn news vs ts) {b : Bool} (hb : tokOk ts = b) (hd : dp + 1 < recursionLimit)
    (hret : ∀ h' tk', Fr h₀ L h' m → News h₀ L h' news → Q (.bool b) { s with heap := h', toks := tk' }) :
    wpAny (model prog w) (ktrTop dp un gd cn cs L a ccd cl outer) (call (.ref 34) [.ref l]) Q E s := by
  w_top on
  refine wpAny_call ?_
  k_dflt cell_enter
  repeat ((fail_if_success (with_reducible show wpAny _ _ (exec (Stmt.For _ _ _ _ _) _) _ _ _)); walk1)
  rename_i g' L' h1 FG' B' X' T' h2 F' N'
  refine' For_trip (cst := news) (vs := vs) (ts := ts) (nn := nn) (l := l) (J := fun i m₁ n₁ => n₁ = news ∧ ∃ sz t, tokRun 0 (ts.take i) = some sz ∧ m₁ (Str.ofString "size") = some (.int sz t)) ?h1 F' N' hl ?h2 ?h3 ?h4 ?h5 ?h6 hT ?h7 ?h8 ?turn ?done ?hE
  case h1 => rfl
  case h2 => exact fun Q' q => ld F' rfl q
  case h3 => rfl
  case h4 => rfl
  case h5 => rfl
  case h6 => rfl
  case h7 => exact ⟨rfl, 0, _, rfl, rfl⟩
  case h8 => rintro i m₁ n₁ ⟨rfl, _⟩ p hp; exact hp
  case hE => passes_own
  case turn =>
    rintro i k v l' t0 t1 t2 m₁ news₁ h tk' own hts ⟨rfl, sz, t, hsz, hms⟩ hown F₁ N₁
    have e : m₁ = fun y => if y = Str.ofString "size" then some (.int sz t) else m₁ y := funext fun y => by
      by_cases hy : y = Str.ofString "size"
      · rw [if_pos hy, hy, hms]
      · rw [if_neg hy]
    rw [e] at F₁
    clear hms e
    k_steps
    all_goals first
      | exact fin_bool hret (hb.symm.trans (tok_bad hsz hts (tokStep_no (by omega)))) (by assumption) (by assumption) (fun _ hp => List.mem_append_right _ hp)
      | exact tok_next hsz hts (tokStep_l (by omega))
      | exact tok_next hsz hts (tokStep_c (by omega))
  case done =>
    rintro m₁ news₁ h tk' ⟨rfl, sz, t, hsz, hms⟩ F₁ N₁
    dsimp only
    k_steps
    exact fin_bool hret (hb.symm.trans (tok_all hsz hT.length)) (by assumption) (by assumption) (fun _ hp => hp)
end
end S303
end
-- C303b
section
open PySem PySem.W PyProof.Rows PySem.Calls PySem.Spec Sq
namespace S303
local macro_rules | `(tactic| walk_at "call ref") => `(tactic| ((with_reducible show wpAny _ _ (call (Value.ref 34) _) _ _ _); k_dflt (refine' tokens_ok_call ?k1 ?k2 ?k3 ?k4 ?k5 ?k6 ?k7 ?k8 ?k9 ?k10 ?_; (case k1 => k_asm); (case k2 => k_asm); (case k3 => k_asm); (case k4 => k_asm); (case k5 => k_asm); (case k6 => first | exact rfl | assumption); (case k7 => first | assumption | k_mem); (case k8 => assumption); (case k9 => assumption); (case k10 => ktr_room)); intro h9 tk9 F9 N9; (try dsimp only)))
local macro_rules | `(tactic| walk_at "call builtin:list.append") => `(tactic| ((show wpAny _ _ (call (Value.builtin _) [Value.ref _, _]) _ _ _); k_dflt (refine' sq_append ?k1 ?k2 ?k3 ?k4 ?_; (case k1 => k_asm); (case k2 => k_asm); (case k3 => assumption); (case k4 => omega)); intro h9 F9 N9; (try dsimp only); (try k_sweep)))
local macro_rules | `(tactic| walk_at "call builtin:len") => `(tactic| ((with_reducible show wpAny _ _ (call (Value.builtin "len") [Value.ref _]) _ _ _); k_dflt (refine' len_ints ?k1 ?k2 ?k3 ?k4 ?_; (case k1 => k_asm); (case k2 => first | assumption | k_mem); (case k3 => assumption); (case k4 => omega)); intro t9 tk9; (try dsimp only)))
local macro_rules | `(tactic| walk_at "subscriptTail") => `(tactic| ((with_reducible show wpAny _ _ (subscriptTail _ _ (Value.ref _) (Value.int _ _)) _ _ _); (with_unfolding_all refine' item_ints ?k1 ?k2 ?k3 ?k4 ?k5 ?k6 ?_ ?k7; (case k1 => k_asm); (case k2 => first | assumption | k_mem); (case k3 => assumption); (case k4 => omega); (case k5 => omega); (case k6 => omega); (case k7 => with_unfolding_all rfl)); intro t9; (try dsimp only)))
theorem ledger_back {h₀ h : Heap} {L D : Addr} {o : Obj} {own news : List (Addr × Obj)} (N : News h₀ L h ((D, o) :: (own ++ news))) : News h₀ L h (own ++ (D, o) :: news) := fun p hp => N p (by
  rcases List.mem_append.mp hp with hp | hp
  · exact .tail _ (List.mem_append_left _ hp)
  · rcases List.mem_cons.mp hp with rfl | hp
    · exact .head _
    · exact .tail _ (List.mem_append_right _ hp))
section
variable {prog : Program} {w : World} {p : Program} {loose : List Str} {mean : ExcName → Option Value} {mg mb : Str → Option Value} {dp un : Nat} {gd : Option (List Code)} {cn : Str} {cs : Scope} {a : Addr} {ccd : Value} {cl : List (Str × Addr)} {outer : List Env} {A₀ : Around} {base h₀ : Heap} {L : Addr} {m : Str → Option Value} {news : List (Addr × Obj)} {s : Shared} {Q E : Value → Shared → Prop}
theorem lz_expand_call {l : Addr} {vs : List Value} {ts : List Tk} {nn : Nat}
    (B : Below A₀ base outer h₀) (F : Fr h₀ L s.heap m) (X : (hd.heap_39 w.params).In h₀) (N : News h₀ L s.heap news) (T : Top p loose mean mg mb h₀) (hk : cs.kind = .function)
    (hl : (l, listOf vs.toArray nn) ∈ news) (hT : ToksIn news vs ts) (hok : tokOk ts = true) (hbig : 255 * ts.length ≤ 10000000) (hd : dp + 2 < recursionLimit) (hu : un + 16 < cLine)
    (hret : ∀ D us c h' tk', Fr h₀ L h' m → News h₀ L h' ((D, listOf (List.toArray us) c) :: news) → (∀ p ∈ news, p.1 < D) → IntsAre us (expand ts) → Q (.ref D) { s with heap := h', toks := tk' }) :
    wpAny (model prog w) (ktrTop dp un gd cn cs L a ccd cl outer) (call (.ref 41) [.ref l]) Q E s := by
  w_top on
  refine wpAny_call ?_
  k_dflt cell_enter
  rename_i g' L' hh FG' F0 N0 B' X' T'
  repeat ((fail_if_success (with_reducible show wpAny _ _ (exec (Stmt.For _ _ _ _ _) _) _ _ _)); walk1)
  rename_i D hh0 l1 hh1 F' N'
  have hDl : D ≠ l := fun e => by have := l1 _ hl; exact absurd (e ▸ this) (Nat.lt_irrefl _)
  have hDs : D < hh1.objs.size := Heap.lt_size (N' _ (.head _)).1
  refine' For_trip (cst := news) (vs := vs) (ts := ts) (nn := nn) (l := l) (J := fun i m₁ n₁ => ∃ us c, n₁ = (D, listOf (List.toArray us) c) :: news ∧ m₁ (Str.ofString "data") = some (.ref D) ∧ IntsAre us (expand (ts.take i))) ?h1 F' N' (.tail _ hl) ?h2 ?h3 ?h4 ?h5 ?h6 hT ?h7 ?h8 ?turn ?done ?hE
  case h1 => rfl
  case h2 => exact fun Q' q => ld F' rfl q
  case h3 => rfl
  case h4 => rfl
  case h5 => rfl
  case h6 => rfl
  case h7 => exact ⟨[], 0, rfl, rfl, .nil⟩
  case h8 => rintro i m₁ n₁ ⟨us, c, rfl, _⟩ p hp; exact .tail _ hp
  case hE => passes_own
  case turn =>
    rintro i k v l' t0 t1 t2 m₁ news₁ h tk' own hts ⟨us, c, rfl, hmd, hus⟩ hown F₁ N₁
    have e : m₁ = fun y => if y = Str.ofString "data" then some (.ref D) else m₁ y := funext fun y => by
      by_cases hy : y = Str.ofString "data"
      · rw [if_pos hy, hy, hmd]
      · rw [if_neg hy]
    rw [e] at F₁
    clear hmd e
    have hoff : ∀ p ∈ own ++ news, p.1 ≠ D := by
      intro p hp e
      rcases List.mem_append.mp hp with hp | hp
      · have := hown p hp
        simp only [List.mem_cons, List.not_mem_nil, or_false] at this
        rcases this with h9 | h9
        · rw [e] at h9; exact absurd (h9 ▸ hDs) (Nat.lt_irrefl _)
        · exact hDl (e.symm.trans h9)
      · exact absurd (e ▸ l1 p hp) (Nat.lt_irrefl _)
    have N₂ : News g' L' h ((D, listOf (List.toArray us) c) :: (own ++ news)) := fun p hp => N₁ p (by
      rcases List.mem_cons.mp hp with rfl | hp
      · exact List.mem_append_right _ (.head _)
      · rcases List.mem_append.mp hp with hp | hp
        · exact List.mem_append_left _ hp
        · exact List.mem_append_right _ (.tail _ hp))
    clear N₁
    have hat := tok_at hok hts
    have hlen : us.length = (expand (List.take i ts)).length := hus.length
    have hle := expand_le hok i
    rcases hat with ⟨rfl, hv0, hv1, rfl⟩ | hc
    · k_steps
      rename News _ _ _ _ => Nq
      rename Fr _ _ _ _ => Fq
      refine LoopStep2.intro (news₂ := (D, listOf (List.toArray (us ++ [Value.int v t1])) (c + 1)) :: news) Fq (ledger_back Nq) rfl ⟨us ++ [.int v t1], c + 1, rfl, rfl, ?_⟩
      rw [expand_next hts]
      unfold expStep
      rw [if_pos rfl]
      exact ints_snoc hus v t1
    · obtain ⟨rfl, hc⟩ := hc
      repeat ((fail_if_success (with_reducible show wpAny _ _ (pyIter _) _ _ _)); walk1)
      rename_i hr tr ur vr R' F₂ N₃ hkeep
      refine' range_inv (n := l'.toNat) (J := fun j m₂ nx => ∃ us' c', nx = (D, listOf (List.toArray us') c') :: (own ++ news) ∧ m₂ (Str.ofString "data") = some (.ref D) ∧ m₂ (Str.ofString "value") = some (.int v t1) ∧ IntsAre us' (copyN v j (expand (ts.take i)))) ?r1 R' ?r2 ?r3 F₂ N₃ ?r4 ?rt ?rd
      case r1 => rfl
      case r2 => exact rsmall1 (by omega) (by omega)
      case r3 => exact rsize1 l'
      case r4 => exact ⟨us, c, rfl, rfl, rfl, hus⟩
      case rt =>
        rintro j t m₂ nx h3 tk3 own2 hj hoff2 ⟨us', c', rfl, hm1, hm2, hus'⟩ F₃ N₄
        rw [map_at hm1, map_at (m := m₂) hm2] at F₃
        have hoff3 : ∀ p ∈ (own ++ news) ++ own2, p.1 ≠ D := by
          intro p hp
          rcases List.mem_append.mp hp with hp | hp
          · exact hoff p hp
          · exact hoff2 p hp D (.head _)
        have hl4 : (copyN v j (expand (List.take i ts))).length = (expand (List.take i ts)).length + j := copyN_length _ _ _
        have hl3 : us'.length = (expand (List.take i ts)).length + j := by rw [hus'.length, copyN_length]
        have N₅ : News g' L' h3 ((D, listOf (List.toArray us') c') :: ((own ++ news) ++ own2)) := N₄
        clear N₄
        k_steps
        rename News _ _ _ _ => Nq
        rename Fr _ _ _ _ => Fq
        refine InvEndG.intro Fq Nq ⟨_, c' + 1, rfl, rfl, rfl, ?_⟩ hoff2 (fun p hp => List.mem_append_left own2 hp) (fun p hp => .tail _ (List.mem_append_right _ hp))
        rw [copyN_succ, back1, ← back_get (xs := copyN v j (expand (List.take i ts))) (by omega) (by omega)]
        exact ints_snoc hus' _ _
      case rd =>
        rintro m₂ nx h3 tk3 ⟨us', c', rfl, hm1, hm2, hus'⟩ F₃ N₄
        dsimp only
        k_steps
        refine LoopStep2.intro (news₂ := (D, listOf us'.toArray c') :: news) (by assumption) (ledger_back (by assumption)) rfl ⟨us', c', rfl, hm1, ?_⟩
        rw [expand_next hts]
        unfold expStep
        rw [if_neg (show ¬ (1 : Int) = 0 by decide)]
        exact hus'
  case done =>
    rintro m₁ news₁ h tk' ⟨us, c, rfl, hmd, hus⟩ F₁ N₁
    have e : m₁ = fun y => if y = Str.ofString "data" then some (.ref D) else m₁ y := funext fun y => by
      by_cases hy : y = Str.ofString "data"
      · rw [if_pos hy, hy, hmd]
      · rw [if_neg hy]
    rw [e] at F₁
    clear hmd e
    dsimp only
    k_steps
    refine hret D us c h tk' (by assumption) (by assumption) l1 ?_
    rw [hT.length, List.take_length] at hus
    exact hus
end
end S303
end
-- C303c
section
open PySem PySem.W PyProof.Rows PySem.Calls PySem.Spec Sq
namespace S303
section
variable {prog : Program} {w : World} {p : Program} {loose : List Str} {mean : ExcName → Option Value} {mg mb : Str → Option Value} {dp un : Nat} {gd : Option (List Code)} {cn : Str} {cs : Scope} {a : Addr} {ccd : Value} {cl : List (Str × Addr)} {outer : List Env} {A₀ : Around} {base h₀ : Heap} {L : Addr} {m : Str → Option Value} {news : List (Addr × Obj)} {s : Shared} {Q E : Value → Shared → Prop}
theorem cell_call {l : Addr} {vs : List Value} {ns : List Int} {i : Int} {tk : Tok}
    (B : Below A₀ base outer h₀) (F : Fr h₀ L s.heap m) (X : (hd.heap_39 w.params).In h₀) (N : News h₀ L s.heap news) (T : Top p loose mean mg mb h₀) (hk : cs.kind = .function)
    (hl : base.IsList l vs.toArray) (hi : IntsAre vs ns) (hfit : ns.length < 2 ^ 62) (h0 : 0 ≤ i) (hd : dp + 1 < recursionLimit) (hu : un + 8 < cLine)
    (hret : ∀ r t h' tk', Fr h₀ L h' m → News h₀ L h' news → Q (.int r t) { s with heap := h', toks := tk' }) :
    wpAny (model prog w) (ktrTop dp un gd cn cs L a ccd cl outer) (call (.ref 48) [.ref l, .int i tk]) Q E s := by
  w_top on
  refine wpAny_call ?_
  k_dflt cell_enter
  k_steps
  all_goals (rename News _ _ _ _ => Nq; rename Fr _ _ _ _ => Fq)
  all_goals exact hret _ _ _ _ Fq Nq
end
end S303
end
-- C303d
section
open PySem PySem.W PyProof.Rows PySem.Calls PySem.Spec Sq
namespace S303
local macro_rules | `(tactic| k_all) => `(tactic| assumption)
local macro_rules | `(tactic| k_mem) => `(tactic| assumption)
local macro_rules | `(tactic| walk_at "call builtin:len") => `(tactic| ((with_reducible show wpAny _ _ (call (Value.builtin "len") [Value.ref _]) _ _ _); k_dflt (refine' len_ints ?k1 ?k2 ?k3 ?k4 ?_; (case k1 => k_asm); (case k2 => first | assumption | k_mem); (case k3 => assumption); (case k4 => omega)); intro t9 tk9; (try dsimp only)))
local macro_rules | `(tactic| walk_at "eval Call Name cons nil") => `(tactic| refine Call_ ?_)
local macro_rules | `(tactic| walk_at "call type:range") => `(tactic| ((with_reducible show wpAny _ _ (call (Value.type "range") [Value.int _ _]) _ _ _); k_dflt (refine' range_call ?k1 ?k2 ?_; (case k1 => k_asm); (case k2 => k_asm)); intro r9 h9 tk9 t9 u9 v9 F9 N9 R9; (try dsimp only); (try k_sweep)))
abbrev tup2 (a b : Addr) (n : Nat) : Obj := { cls := .type "tuple", data := .seq #[.ref a, .ref b] n }
theorem wr_ok {ds : List Int} {r q : Int} (h : 1 ≤ ds.length) : (1 : Int) = 0 ∨ ((1 : Int) = 1 ∧ 1 ≤ 1 + r.fmod ds.length ∧ 1 + r.fmod ds.length ≤ ds.length ∧ 0 ≤ 4 + q.fmod 9 ∧ 4 + q.fmod 9 ≤ 255) := by
  have h1 := fm0 r (n := (ds.length : Int)) (by omega)
  have h2 := fm1 r (n := (ds.length : Int)) (by omega)
  have h3 := fm0 q (n := 9) (by decide)
  have h4 := fm1 q (n := 9) (by decide)
  omega
def wr (ds : List Int) (t : Tk) : List Int := if t.1 = 0 then [t.2.1] else period t.2.1 t.2.2.toNat ds
theorem idx_eq {len j : Nat} {d : Int} (h1 : 1 ≤ d) (h2 : d ≤ len) : ((len : Int) - d + (0 + (j : Int)).fmod d).toNat = len - d.toNat + j % d.toNat := by
  obtain ⟨D, rfl⟩ := Int.eq_ofNat_of_zero_le (show 0 ≤ d by omega)
  have e : (0 + (j : Int)).fmod (D : Int) = ((j % D : Nat) : Int) := by
    rw [Int.zero_add, Int.fmod_eq_emod_of_nonneg _ (by omega)]
    rfl
  rw [e]
  simp only [Int.toNat_natCast]
  omega
section
variable {prog : Program} {w : World} {p : Program} {loose : List Str} {mean : ExcName → Option Value} {mg mb : Str → Option Value} {dp un : Nat} {gd : Option (List Code)} {cn : Str} {cs : Scope} {a : Addr} {ccd : Value} {cl : List (Str × Addr)} {outer : List Env} {A₀ : Around} {base h₀ : Heap} {L : Addr} {m : Str → Option Value} {news : List (Addr × Obj)} {s : Shared} {Q E : Value → Shared → Prop}
theorem written_call {q D : Addr} {us : List Value} {ds : List Int} {c n : Nat} {k v l : Int} {u0 u1 u2 : Tok}
    (B : Below A₀ base outer h₀) (F : Fr h₀ L s.heap m) (X : (hd.heap_39 w.params).In h₀) (N : News h₀ L s.heap news) (T : Top p loose mean mg mb h₀) (hk : cs.kind = .function)
    (hq : (q, listOf us.toArray c) ∈ news) (hI : IntsAre us ds) (hD : (D, tup3 k v l u0 u1 u2 n) ∈ news)
    (hc : k = 0 ∨ (k = 1 ∧ 1 ≤ v ∧ v ≤ ds.length ∧ 0 ≤ l ∧ l ≤ 255)) (hlen : ds.length ≤ 100000) (hd : dp + 2 < recursionLimit) (hu : un + 50 < cLine)
    (hret : ∀ D us' c' h' tk', Fr h₀ L h' m → News h₀ L h' ((D, listOf (List.toArray us') c') :: news) → (∀ p ∈ news, p.1 ≠ D) → IntsAre us' (wr ds (k, v, l)) → us'.length ≤ 255 → Q (.ref D) { s with heap := h', toks := tk' }) :
    wpAny (model prog w) (ktrTop dp un gd cn cs L a ccd cl outer) (call (.ref 53) [.ref q, .ref D]) Q E s := by
  w_top on
  refine wpAny_call ?_
  k_dflt (refine' code_defC ?k1 ?k2 ?k3 ?k4 ?k5 ?kA ?kF ?kK ?k6 ?k7 ?k8 ?k9 ?kB ?kD ?_ ?c2 ?c3 ?c4; (case kA => exact rfl); (case kF => exact rfl); (case kK => assumption); (case k1 => k_asm); (case k2 => k_asm); (case k3 => k_asm); (case k4 => k_asm); (case k5 => k_asm); (case k6 => k_is); (case k7 => k_is); (case k8 => ktr_room); (case k9 => exact BindsTo.of_eq rfl); (case kB => exact rfl); (case kD => decide +kernel); (case c2 => exact rfl); (case c3 => exact rfl); (case c4 => exact rfl); k_whole)
  intro g' L' h' tk' cells' FG' F' N' Y' B' X' T' l1
  k_cells Y'
  simp only [List.cons_append, List.nil_append] at N'
  dsimp only
  try k_lift B'
  try k_fold
  have hc1 : ∀ p ∈ news, p.1 ≠ L' + 1 := fun p hp => Nat.ne_of_lt (Nat.lt_succ_of_lt (l1 p hp))
  have hc2 : ∀ p ∈ news, p.1 ≠ L' + 1 + 1 := fun p hp => Nat.ne_of_lt (Nat.lt_succ_of_lt (Nat.lt_succ_of_lt (l1 p hp)))
  have hc3 : ∀ p ∈ news, p.1 ≠ L' + 1 + 1 + 1 := fun p hp => Nat.ne_of_lt (Nat.lt_succ_of_lt (Nat.lt_succ_of_lt (Nat.lt_succ_of_lt (l1 p hp))))
  rcases hc with rfl | ⟨rfl, hv1, hv2, hl0, hl1⟩
  · k_steps
    rename _ ∧ _ => lq
    rename News _ _ _ _ => Nq
    rename Fr _ _ _ _ => Fq
    refine hret _ [.int v u1] 0 _ _ Fq (fun p hp => Nq p ?_) (fun p hp => Nat.ne_of_lt (allLt_mem lq.2.2.2 p hp)) (.cons _ _ .nil) (by simp)
    rcases List.mem_cons.mp hp with rfl | hp
    · exact .head _
    · exact .tail _ (.tail _ (.tail _ (.tail _ hp)))
  · repeat' ((fail_if_success (with_reducible show wpAny _ _ (eval (Expr.ListComp _ _ _ _) _) _ _ _)); (first | (k_unfold; (try dsimp only)) | walk1 | (dsimp only; walk1)))
    rename Fr _ _ _ _ => Fe
    have hz0 : v ≠ 0 := by omega
    refine' LCg.ListComp_U (F₀ := Fe) ?a1 ?a2 ?a3 ?a4 ?a5 ?a6 ?a7
    case a1 => with_unfolding_all rfl
    case a2 => decide
    case a3 => rfl
    case a4 => decide
    case a5 => rfl
    case a7 => intro _; rfl
    repeat ((fail_if_success (with_reducible show LCg.CompSrc _ _ _ _ _ _ _ _ _ _ _ _ _ _)); walk1)
    rename IsRange _ _ _ _ _ _ _ _ => Rg
    rename News _ _ _ _ => Ng
    rename Fr _ _ _ _ => Fg
    refine LCg.CompSrc.range rfl Fg Ng Rg (rsmall1 (by omega) (by omega)) (rsize1 _) (by rw [sizeLine_eq]; omega) ?_
    intro gg
    refine compRest_of (n := l.toNat) (fun j y => ∃ t, y = .int (ds.getD (ds.length - v.toNat + j % v.toNat) 0) t) trivial ?ct ?cf l.toNat 0 [] (by omega) rfl (fun j y hj => by simp at hj)
    case ct =>
      intro j x I oI C oC Dc ys m₅ h5 tk5 E' hj hP hNs hx F5 N5 off hne
      obtain ⟨tv, rfl⟩ := hP
      have hf0 := fm0 (0 + (j : Int)) (n := v) (by omega)
      have hf1 := fm1 (0 + (j : Int)) (n := v) (by omega)
      have hb1 : 0 ≤ (ds.length : Int) - v + (0 + (j : Int)).fmod v := by omega
      have hb2 : (ds.length : Int) - v + (0 + (j : Int)).fmod v < ds.length := by omega
      repeat ((fail_if_success (with_reducible show wpAny _ _ (subscriptTail _ _ _ _) _ _ _)); (first | walk1 | (dsimp only; walk1)))
      refine' item_ints N5 ?s1 hI (by omega) hb1 hb2 ?s2 ?s3
      case s1 => k_mem
      case s3 => with_unfolding_all rfl
      intro t9
      rw [idx_eq (by omega) (by omega)]
      exact ⟨h5, _, rfl, F5, N5, t9, rfl⟩
    case cf =>
      intro ys hyl hyG Dl h6 tk6 F6 N6 off1
      have hys : IntsAre ys (period v l.toNat ds) := ints_of_get hyl hyG
      have off2 := off1_mem off1
      dsimp only
      k_steps
      rename News _ _ _ _ => Nq
      rename Fr _ _ _ _ => Fq
      refine hret Dl ys ys.length _ _ Fq (fun p hp => Nq p ?_) (fun p hp => off2 p (.tail _ (.tail _ (.tail _ hp)))) hys (by omega)
      rcases List.mem_cons.mp hp with rfl | hp
      · exact .head _
      · exact .tail _ (.tail _ (.tail _ (.tail _ hp)))
end
end S303
end
-- C303e
section
open PySem PySem.W PyProof.Rows PySem.Calls PySem.Spec Sq
namespace S303
local macro_rules | `(tactic| k_all) => `(tactic| assumption)
local macro_rules | `(tactic| k_mem) => `(tactic| exact List.mem_append_left _ (by assumption))
local macro_rules | `(tactic| k_mem) => `(tactic| assumption)
local macro_rules | `(tactic| walk_at "call builtin:len") => `(tactic| ((with_reducible show wpAny _ _ (call (Value.builtin "len") [Value.ref _]) _ _ _); k_dflt (refine' len_ints ?k1 ?k2 ?k3 ?k4 ?_; (case k1 => k_asm); (case k2 => first | assumption | k_mem); (case k3 => assumption); (case k4 => omega)); intro t9 tk9; (try dsimp only)))
local macro_rules | `(tactic| walk_at "eval Call Name cons nil") => `(tactic| refine Call_ ?_)
local macro_rules | `(tactic| walk_at "call type:range") => `(tactic| ((with_reducible show wpAny _ _ (call (Value.type "range") [Value.int _ _]) _ _ _); k_dflt (refine' range_call ?k1 ?k2 ?_; (case k1 => k_asm); (case k2 => k_asm)); intro r9 h9 tk9 t9 u9 v9 F9 N9 R9; (try dsimp only); (try k_sweep)))
local macro_rules | `(tactic| walk_at "call ref") => `(tactic| ((with_reducible show wpAny _ _ (call (Value.ref 48) _) _ _ _); k_dflt (refine' cell_call ?k1 ?k2 ?k3 ?k4 ?k5 ?k6 ?k7 ?k8 ?k9 ?k10 ?k11 ?k12 ?_; (case k1 => k_asm); (case k2 => k_asm); (case k3 => k_asm); (case k4 => k_asm); (case k5 => k_asm); (case k6 => first | exact rfl | assumption); (case k7 => k_asm); (case k8 => k_asm); (case k9 => omega); (case k10 => omega); (case k11 => ktr_room); (case k12 => ktr_units)); intro r9 t9 h9 tk9 F9 N9; (try dsimp only); (try k_sweep)))
local macro_rules | `(tactic| walk_at "call ref") => `(tactic| ((with_reducible show wpAny _ _ (call (Value.ref 53) _) _ _ _); k_dflt (refine' written_call ?k1 ?k2 ?k3 ?k4 ?k5 ?k6 ?k7 ?k8 ?k9 ?kc ?kz ?k10 ?k11 ?_; (case k1 => k_asm); (case k2 => k_asm); (case k3 => k_asm); (case k4 => k_asm); (case k5 => k_asm); (case k6 => first | exact rfl | assumption); (case k7 => first | assumption | k_mem); (case k8 => assumption); (case k9 => k_mem); (case kc => first | exact Or.inl rfl | exact wr_ok (by assumption)); (case kz => omega); (case k10 => ktr_room); (case k11 => ktr_units)); intro D9 us9 c9 h9 tk9 F9 N9 l9 hI9 hw9; (try dsimp only); (try k_sweep)))
local macro_rules | `(tactic| walk_at "call builtin:list.append") => `(tactic| ((show wpAny _ _ (call (Value.builtin _) [Value.ref _, _]) _ _ _); k_dflt (refine' sq_append_upd ?k1 ?k2 ?k3 ?k4 ?_; (case k1 => k_asm); (case k2 => k_asm); (case k3 => k_upd); (case k4 => omega)); intro h9 F9 N9; (try dsimp only); (try k_sweep)))
local macro_rules | `(tactic| walk_at "binaryOp Add ref ref") => `(tactic| ((with_reducible show wpAny _ _ (binaryOp Operator.Add (Value.ref _) (Value.ref _)) _ _ _); k_dflt (refine' add_any ?k1 ?k2 ?k3 ?k4 ?k5 ?_; (case k1 => k_asm); (case k2 => k_asm); (case k3 => k_mem); (case k4 => k_mem); (case k5 => first | omega | (simp only [List.length_append, List.length_replicate, List.length_cons, List.length_nil]; omega))); intro D' h' F' N' l1; (try k_lt l1); (try k_sweep)))
theorem news_swap {h₀ h : Heap} {L : Addr} {x y : Addr × Obj} {r : List (Addr × Obj)} (N : News h₀ L h (x :: y :: r)) : News h₀ L h (y :: x :: r) := fun p hp => N p (by
  simp only [List.mem_cons] at hp ⊢
  rcases hp with h | h | h <;> simp [h])
def JP (r l : Addr) (news : List (Addr × Obj)) (i : Nat) (m₁ : Str → Option Value) (nx : List (Addr × Obj)) : Prop :=
  ∃ q vs us ts ds c c' tl, nx = (r, listOf (List.toArray vs) c) :: tl ∧ m₁ (Str.ofString "tokens") = some (.ref r) ∧ m₁ (Str.ofString "base") = some (.ref q) ∧ m₁ (Str.ofString "script") = some (.ref l) ∧
    (q, listOf (List.toArray us) c') ∈ tl ∧ ToksIn tl vs ts ∧ IntsAre us ds ∧ Good ts ds ∧ ts.length ≤ 1 + i ∧ 1 ≤ ds.length ∧ ds.length ≤ 1 + 12 * i ∧ (∀ p ∈ tl, p.1 ≠ r) ∧ (∀ p ∈ news, p ∈ tl)
theorem good_tok {ts : List Tk} {ds : List Int} {k v l : Int} (h : Good ts ds) (hz : ds.length ≤ 60000) (hg : (k = 0 ∧ 0 ≤ v ∧ v ≤ 255 ∧ l = 0) ∨ (k = 1 ∧ 1 ≤ v ∧ v ≤ ds.length ∧ 4 ≤ l ∧ l ≤ 255)) : Good (ts ++ [(k, v, l)]) (ds ++ wr ds (k, v, l)) := by
  rcases hg with ⟨rfl, h0, h1, rfl⟩ | ⟨rfl, h0, h1, h2, h3⟩
  · exact good_lit h h0 h1
  · exact good_copy h h0 h1 (by omega) h2 h3
theorem wr_len {ds : List Int} {k v l : Int} (h : k = 0 ∨ l ≤ 12) : (wr ds (k, v, l)).length ≤ 12 := by
  unfold wr
  simp only
  split
  · simp
  · rw [period_length]; omega
theorem JP_fin {h₀ h' : Heap} {L r q' D l : Addr} {i c c0 n : Nat} {m' : Str → Option Value} {own news tl pre : List (Addr × Obj)} {o0 : Obj} {vs us us9 : List Value} {ts : List Tk} {ds : List Int} {k v l' : Int} {u0 u1 u2 : Tok} {s₁ : Shared} {tk : Nat}
    (F : Fr h₀ L h' m') (N : News h₀ L h' (pre ++ (r, listOf (List.toArray (vs ++ [.ref D])) (c + 1)) :: (tl ++ own))) (hq : (q', listOf (List.toArray (us ++ us9)) c0) ∈ pre) (hD : (D, tup3 k v l' u0 u1 u2 n) ∈ pre) (hp : ∀ p ∈ pre, p.1 ≠ r ∧ ∀ o ∈ own, o.1 ≠ p.1)
    (hm1 : m' (Str.ofString "tokens") = some (.ref r)) (hm2 : m' (Str.ofString "base") = some (.ref q')) (hm3 : m' (Str.ofString "script") = some (.ref l))
    (hT : ToksIn tl vs ts) (hU : IntsAre us ds) (hU9 : IntsAre us9 (wr ds (k, v, l'))) (hG : Good (ts ++ [(k, v, l')]) (ds ++ wr ds (k, v, l'))) (h1 : ts.length ≤ 1 + i) (h2 : 1 ≤ ds.length) (h3 : ds.length ≤ 1 + 12 * i) (h4 : k = 0 ∨ l' ≤ 12) (htl : ∀ p ∈ tl, p.1 ≠ r) (hnews : ∀ p ∈ news, p ∈ tl) (hoff : OwnOff own (((r, o0) :: tl).map (·.1))) :
    InvEndG h₀ L (JP r l news (i + 1)) own s₁ { s₁ with heap := h', toks := tk } := by
  have hw := wr_len (ds := ds) (v := v) h4
  refine InvEndG.intro (nx := (r, listOf (List.toArray (vs ++ [.ref D])) (c + 1)) :: (pre ++ tl)) F N ⟨q', vs ++ [.ref D], us ++ us9, _, _, c + 1, c0, pre ++ tl, rfl, hm1, hm2, hm3, List.mem_append_left _ hq,
    ToksIn.append (hT.mono fun _ hp => List.mem_append_right _ hp) (.cons (List.mem_append_left _ hD) .nil), ints_app hU hU9, hG, by simp; omega, by simp; omega, by simp; omega, ?_, fun p h => List.mem_append_right _ (hnews p h)⟩ ?_ ?_ ?_
  · intro p h
    rcases List.mem_append.mp h with h | h
    · exact (hp p h).1
    · exact htl p h
  · intro p hpo b hb
    rcases List.mem_cons.mp hb with rfl | hb
    · exact hoff p hpo _ (.head _)
    · rw [List.map_append] at hb
      rcases List.mem_append.mp hb with hb | hb
      · obtain ⟨x, hx, rfl⟩ := List.mem_map.mp hb
        exact (hp x hx).2 p hpo
      · exact hoff p hpo b (.tail _ hb)
  · intro p h
    rcases List.mem_cons.mp h with rfl | h
    · exact List.mem_append_right _ (.head _)
    · rcases List.mem_append.mp h with h | h
      · exact List.mem_append_left _ h
      · exact List.mem_append_right _ (.tail _ (List.mem_append_left _ h))
  · intro p h
    exact List.mem_append_right _ (.tail _ (List.mem_append_right _ h))
theorem four_nine {q : Int} : 4 + q.fmod 9 ≤ 12 := by have := fm1 q (n := 9) (by decide); omega
theorem offs_lt {a r : Addr} {tl own : List (Addr × Obj)} (h : r < a) (hA : AllLt a (tl ++ own)) : a ≠ r ∧ ∀ o ∈ own, o.1 ≠ a := ⟨Nat.ne_of_gt h, fun p hp => Nat.ne_of_lt (allLt_mem hA p (List.mem_append_right _ hp))⟩
theorem hp3 {P : Addr × Obj → Prop} {x y z : Addr × Obj} (hx : P x) (hy : P y) (hz : P z) : ∀ p ∈ [x, y, z], P p := by
  intro p h
  simp only [List.mem_cons, List.not_mem_nil, or_false] at h
  rcases h with rfl | rfl | rfl
  · exact hx
  · exact hy
  · exact hz
theorem hp4 {P : Addr × Obj → Prop} {x y z w : Addr × Obj} (hx : P x) (hy : P y) (hz : P z) (hw : P w) : ∀ p ∈ [x, y, z, w], P p := by
  intro p h
  rcases List.mem_cons.mp h with rfl | h
  · exact hx
  · exact hp3 hy hz hw p h
section
variable {prog : Program} {w : World} {p : Program} {loose : List Str} {mean : ExcName → Option Value} {mg mb : Str → Option Value} {dp un : Nat} {gd : Option (List Code)} {cn : Str} {cs : Scope} {a : Addr} {ccd : Value} {cl : List (Str × Addr)} {outer : List Env} {A₀ : Around} {base h₀ : Heap} {L : Addr} {m : Str → Option Value} {news : List (Addr × Obj)} {s : Shared} {Q E : Value → Shared → Prop}
theorem prefix_call {l : Addr} {vs : List Value} {ns : List Int}
    (B : Below A₀ base outer h₀) (F : Fr h₀ L s.heap m) (X : (hd.heap_39 w.params).In h₀) (N : News h₀ L s.heap news) (T : Top p loose mean mg mb h₀) (hk : cs.kind = .function)
    (hl : base.IsList l vs.toArray) (hi : IntsAre vs ns) (hfit : ns.length < 2 ^ 62) (hd : dp + 5 < recursionLimit) (hu : un + 100 < cLine)
    (hret : ∀ P r q vs us ts ds c c' n tl h' tk', Fr h₀ L h' m → News h₀ L h' tl → (∀ p ∈ news, p ∈ tl) → (P, tup2 r q n) ∈ tl → (r, listOf (List.toArray vs) c) ∈ tl → (q, listOf (List.toArray us) c') ∈ tl → ToksIn tl vs ts → IntsAre us ds → Good ts ds →
      ts.length ≤ 4 → 1 ≤ ds.length → ds.length ≤ 37 → Q (.ref P) { s with heap := h', toks := tk' }) :
    wpAny (model prog w) (ktrTop dp un gd cn cs L a ccd cl outer) (call (.ref 60) [.ref l]) Q E s := by
  w_top on
  refine wpAny_call ?_
  k_dflt cell_enter
  rename_i g' L' hh FG' F0 N0 B' X' T'
  repeat ((fail_if_success (with_reducible show wpAny _ _ (pyIter _) _ _ _)); (first | walk1 | (k_unfold; (try dsimp only)) | (dsimp only; walk1)))
  rename IsRange _ _ _ _ _ _ _ _ => Rb
  rename News _ _ _ _ => Nb
  rename Fr _ _ _ _ => Fb
  rename_i rb tb hb1 tkb hb2 D hb3 lD l0 hb4 ll0 hb5 q hb6 lq hb7 rc tc hc1 tkc rr hr tkr tr ur vr
  have hc0 := fm0 rc (n := 4) (by decide)
  have hc1 := fm1 rc (n := 4) (by decide)
  have hb0 := fm0 rb (n := 256) (by decide)
  have hb1 := fm1 rb (n := 256) (by decide)
  refine' range_inv (n := (rc.fmod 4).toNat) (J := JP l0 l news) ?r1 Rb ?r2 ?r3 Fb (news_swap Nb) ?r4 ?rt ?rd
  case r1 => rfl
  case r2 => exact rsmall1 (by omega) (by omega)
  case r3 => exact rsize1 _
  case r4 =>
    refine ⟨q, _, _, [(0, rb.fmod 256, 0)], [rb.fmod 256], _, _, _, rfl, rfl, rfl, rfl, .head _, .cons (.tail _ (.head _)) .nil, .cons _ _ .nil, good_lit good_nil hb0 (by omega), by simp, by simp, by simp, ?_, fun p hp => .tail _ (.tail _ hp)⟩
    intro p hp
    rcases List.mem_cons.mp hp with rfl | hp
    · exact Nat.ne_of_gt lq.1
    · rcases List.mem_cons.mp hp with rfl | hp
      · exact Nat.ne_of_lt ll0.1
      · exact Nat.ne_of_lt (allLt_mem ll0.2 p hp)
  case rt =>
    clear Rb Fb Nb lq ll0 lD
    rintro i t m₂ nx h3 tk3 own2 hi2 hoff2 ⟨q, vs1, us1, ts, ds, c, c', tl, rfl, hm1, hm2, hm3, hq, hT, hU, hG, hlt, hl1, hl2, htl, hnews⟩ F₃ N₄
    rw [map_at hm1, map_at (m := m₂) hm2, map_at (m := m₂) hm3] at F₃
    have hr' : ∀ p ∈ tl ++ own2, p.1 ≠ l0 := fun p hp => (List.mem_append.mp hp).elim (fun h => htl p h) fun h => hoff2 p h l0 (.head _)
    have N₅ : News g' L' h3 ((l0, listOf (List.toArray vs1) c) :: (tl ++ own2)) := N₄
    have hlv : vs1.length = ts.length := hT.length
    have hlu : us1.length = ds.length := hU.length
    have hz0 : (ds.length : Int) ≠ 0 := by omega
    clear N₄
    k_steps
    · rename _ < _ ∧ _ < _ ∧ _ < _ ∧ _ < _ ∧ AllLt _ _ => l1c
      rename _ < _ ∧ _ < _ ∧ AllLt _ _ => l1b
      rename _ < _ ∧ AllLt _ _ => l1a
      rename IntsAre _ (wr _ _) => hI9
      rename ∀ p ∈ _, Prod.fst p ≠ _ => l9
      rename News _ _ _ _ => Nq
      rename Fr _ _ _ _ => Fq
      refine JP_fin (pre := [_, _, _, _]) Fq Nq (.head _) (.tail _ (.tail _ (.head _))) (hp4 (offs_lt l1c.2.2.2.1 l1c.2.2.2.2) ⟨fun e => l9 _ (.tail _ (.tail _ (.head _))) e.symm, fun o ho => l9 o (.tail _ (.tail _ (.tail _ (List.mem_append_right _ ho))))⟩ (offs_lt l1b.2.1 l1b.2.2) (offs_lt l1a.1 l1a.2))
        rfl rfl rfl hT hU hI9 (good_tok hG (by omega) ?_) hlt hl1 hl2 ?_ htl hnews hoff2
      · rcases wr_ok (ds := ds) hl1 with h | h
        · exact absurd h (by decide)
        · exact .inr ⟨rfl, h.2.1, h.2.2.1, Int.le_add_of_nonneg_right (fm0 _ (by decide)), h.2.2.2.2⟩
      · exact .inr four_nine
    · rename _ < _ ∧ _ < _ ∧ _ < _ ∧ AllLt _ _ => l1c
      rename _ < _ ∧ AllLt _ _ => l1a
      rename IntsAre _ (wr _ _) => hI9
      rename ∀ p ∈ _, Prod.fst p ≠ _ => l9
      rename News _ _ _ _ => Nq
      rename Fr _ _ _ _ => Fq
      exact JP_fin (pre := [_, _, _]) Fq Nq (.head _) (.tail _ (.tail _ (.head _))) (hp3 (offs_lt l1c.2.2.1 l1c.2.2.2) ⟨fun e => l9 _ (.tail _ (.head _)) e.symm, fun o ho => l9 o (.tail _ (.tail _ (List.mem_append_right _ ho)))⟩ (offs_lt l1a.1 l1a.2))
        rfl rfl rfl hT hU hI9 (good_tok hG (by omega) (.inl ⟨rfl, fm0 _ (by decide), Int.le_of_lt_add_one (fm1 _ (by decide)), rfl⟩)) hlt hl1 hl2 (.inl rfl) htl hnews hoff2
  case rd =>
    clear Rb Fb Nb lq ll0 lD
    rintro m₂ nx h3 tk3 ⟨q, vs1, us1, ts, ds, c, c', tl, rfl, hm1, hm2, hm3, hq, hT, hU, hG, hlt, hl1, hl2, htl, hnews⟩ F₃ N₅
    rw [map_at hm1, map_at (m := m₂) hm2, map_at (m := m₂) hm3] at F₃
    dsimp only
    k_steps
    rename News _ _ _ _ => Nq
    rename Fr _ _ _ _ => Fq
    exact hret _ l0 q vs1 us1 ts ds c c' 0 _ _ _ Fq Nq (fun p hp => .tail _ (.tail _ (hnews p hp))) (.head _) (.tail _ (.head _)) (.tail _ (.tail _ hq)) (hT.mono fun _ hp => .tail _ (.tail _ hp)) hU hG (by omega) hl1 (by omega)
end
end S303
end
-- C303f
section
open PySem PySem.W PyProof.Rows PySem.Calls PySem.Spec Sq
namespace S303
local macro_rules | `(tactic| walk_at "eval Call Name cons nil") => `(tactic| refine Call_ ?_)
local macro_rules | `(tactic| walk_at "call ref") => `(tactic| ((with_reducible show wpAny _ _ (call (Value.ref 48) _) _ _ _); k_dflt (refine' cell_call ?k1 ?k2 ?k3 ?k4 ?k5 ?k6 ?k7 ?k8 ?k9 ?k10 ?k11 ?k12 ?_; (case k1 => k_asm); (case k2 => k_asm); (case k3 => k_asm); (case k4 => k_asm); (case k5 => k_asm); (case k6 => first | exact rfl | assumption); (case k7 => k_asm); (case k8 => k_asm); (case k9 => omega); (case k10 => omega); (case k11 => ktr_room); (case k12 => ktr_units)); intro r9 t9 h9 tk9 F9 N9; (try dsimp only); (try k_sweep)))
theorem bd_1 {z : Int} : tokStep z (0, 256, 0) = none := tokStep_no (by omega)
theorem bd_2 {z : Int} : tokStep z (0, -1, 0) = none := tokStep_no (by omega)
theorem bd_3 {z b : Int} : tokStep z (0, b, 1) = none := tokStep_no (by omega)
theorem bd_4 {z b : Int} : tokStep z (0, b, -1) = none := tokStep_no (by omega)
theorem bd_5 {z n : Int} : tokStep z (1, 0, n) = none := tokStep_no (by omega)
theorem bd_6 {z n : Int} : tokStep z (1, -1, n) = none := tokStep_no (by omega)
theorem bd_7 {z n : Int} : tokStep z (1, z + 1, n) = none := tokStep_no (by omega)
theorem bd_8 {z d : Int} : tokStep z (1, d, 3) = none := tokStep_no (by omega)
theorem bd_9 {z d : Int} : tokStep z (1, d, 256) = none := tokStep_no (by omega)
theorem bd_10 {z d n : Int} : tokStep z (2, d, n) = none := tokStep_no (by omega)
theorem bd_11 {z b : Int} : tokStep z (-1, b, 0) = none := tokStep_no (by omega)
def GoodTk (z k v l : Int) : Prop := (k = 0 ∧ 0 ≤ v ∧ v ≤ 255 ∧ l = 0) ∨ (k = 1 ∧ 1 ≤ v ∧ v ≤ z ∧ 4 ≤ l ∧ l ≤ 255)
theorem gd_1 {z : Int} : GoodTk z 0 255 0 := .inl (by omega)
theorem gd_2 {z : Int} : GoodTk z 0 0 0 := .inl (by omega)
theorem gd_3 {z r : Int} : GoodTk z 0 (r.fmod 256) 0 := .inl (by have := fm0 r (n := 256) (by decide); have := fm1 r (n := 256) (by decide); omega)
theorem gd_5 {z r : Int} (hz : 1 ≤ z) : GoodTk z 1 1 (4 + r.fmod 9) := .inr (by have := fm0 r (n := 9) (by decide); have := fm1 r (n := 9) (by decide); omega)
theorem gd_7 {z r : Int} (hz : 1 ≤ z) : GoodTk z 1 z (4 + r.fmod 9) := .inr (by have := fm0 r (n := 9) (by decide); have := fm1 r (n := 9) (by decide); omega)
theorem gd_8 {z r : Int} (hz : 1 ≤ z) : GoodTk z 1 (1 + r.fmod z) 4 := .inr (by have := fm0 r (n := z) (by omega); have := fm1 r (n := z) (by omega); omega)
theorem gd_9 {z r : Int} (hz : 1 ≤ z) : GoodTk z 1 (1 + r.fmod z) 255 := .inr (by have := fm0 r (n := z) (by omega); have := fm1 r (n := z) (by omega); omega)
theorem gd_10 {z r q : Int} (hz : 1 ≤ z) : GoodTk z 1 (1 + r.fmod z) (4 + q.fmod 9) := .inr (by have := fm0 r (n := z) (by omega); have := fm1 r (n := z) (by omega); have := fm0 q (n := 9) (by decide); have := fm1 q (n := 9) (by decide); omega)
def PairOk (z : Int) (led : List (Addr × Obj)) (v : Value) : Prop := ∃ P b g kb vb lb kg vg lg u0 u1 u2 w0 w1 w2 n n1 n2, v = .ref P ∧ (P, tup2 b g n) ∈ led ∧ (b, tup3 kb vb lb u0 u1 u2 n1) ∈ led ∧ (g, tup3 kg vg lg w0 w1 w2 n2) ∈ led ∧
  tokStep z (kb, vb, lb) = none ∧ GoodTk z kg vg lg
theorem pairs_start {h₀ h : Heap} {L : Addr} {x : Addr × Obj} {r : List (Addr × Obj)} (_ : News h₀ L h (x :: r)) : ∀ p ∈ r, p ∈ x :: r := fun _ hp => .tail _ hp
theorem pairs_step {z : Int} {P b g : Addr} {kb vb lb kg vg lg : Int} {u0 u1 u2 w0 w1 w2 : Tok} {n n1 n2 : Nat} {r led : List (Addr × Obj)} (h : ∀ p ∈ (P, tup2 b g n) :: (g, tup3 kg vg lg w0 w1 w2 n2) :: (b, tup3 kb vb lb u0 u1 u2 n1) :: r, p ∈ led) (hb : tokStep z (kb, vb, lb) = none) (hg : GoodTk z kg vg lg) : PairOk z led (.ref P) ∧ ∀ p ∈ r, p ∈ led :=
  ⟨⟨P, b, g, kb, vb, lb, kg, vg, lg, u0, u1, u2, w0, w1, w2, n, n1, n2, rfl, h _ (.head _), h _ (.tail _ (.tail _ (.head _))), h _ (.tail _ (.head _)), hb, hg⟩, fun p hp => h p (.tail _ (.tail _ (.tail _ hp)))⟩
section
variable {prog : Program} {w : World} {p : Program} {loose : List Str} {mean : ExcName → Option Value} {mg mb : Str → Option Value} {dp un : Nat} {gd : Option (List Code)} {cn : Str} {cs : Scope} {a : Addr} {ccd : Value} {cl : List (Str × Addr)} {outer : List Env} {A₀ : Around} {base h₀ : Heap} {L : Addr} {m : Str → Option Value} {news : List (Addr × Obj)} {s : Shared} {Q E : Value → Shared → Prop}
theorem pair_call {l : Addr} {vs : List Value} {ns : List Int} {z : Int} {tz : Tok}
    (B : Below A₀ base outer h₀) (F : Fr h₀ L s.heap m) (X : (hd.heap_39 w.params).In h₀) (N : News h₀ L s.heap news) (T : Top p loose mean mg mb h₀) (hk : cs.kind = .function)
    (hl : base.IsList l vs.toArray) (hi : IntsAre vs ns) (hfit : ns.length < 2 ^ 62) (hz1 : 1 ≤ z) (hz2 : z ≤ 60000) (hd : dp + 5 < recursionLimit) (hu : un + 100 < cLine)
    (hret : ∀ P b g kb vb lb kg vg lg u0 u1 u2 w0 w1 w2 n n1 n2 tl h' tk', Fr h₀ L h' m → News h₀ L h' tl → (∀ p ∈ news, p ∈ tl) → (P, tup2 b g n) ∈ tl → (b, tup3 kb vb lb u0 u1 u2 n1) ∈ tl → (g, tup3 kg vg lg w0 w1 w2 n2) ∈ tl →
      tokStep z (kb, vb, lb) = none → GoodTk z kg vg lg → Q (.ref P) { s with heap := h', toks := tk' }) :
    wpAny (model prog w) (ktrTop dp un gd cn cs L a ccd cl outer) (call (.ref 67) [.ref l, .int z tz]) Q E s := by
  w_top on
  have hz0 : z ≠ 0 := by omega
  refine wpAny_call ?_
  k_dflt cell_enter
  repeat ((fail_if_success (with_reducible show wpAny _ _ (subscriptTail _ _ _ _) _ _ _)); walk1)
  rename News _ _ _ _ => Nq
  refine' item_list_any Nq ?k1 (fm0 _ (by decide)) ?k2 ?k3 ?k4 ?k5
  case k1 => k_mem
  case k2 => exact fm1 _ (by decide)
  case k3 => (simp only [List.length_cons, List.length_nil]; decide)
  case k5 => with_unfolding_all rfl
  intro v hv
  have s0 := pairs_start Nq
  obtain ⟨k10, s1⟩ := pairs_step (z := z) s0 bd_11 gd_3
  obtain ⟨k9, s2⟩ := pairs_step (z := z) s1 bd_10 (gd_10 hz1)
  obtain ⟨k8, s3⟩ := pairs_step (z := z) s2 bd_9 (gd_9 hz1)
  obtain ⟨k7, s4⟩ := pairs_step (z := z) s3 bd_8 (gd_8 hz1)
  obtain ⟨k6, s5⟩ := pairs_step (z := z) s4 bd_7 (gd_7 hz1)
  obtain ⟨k5, s6⟩ := pairs_step (z := z) s5 bd_6 (gd_5 hz1)
  obtain ⟨k4, s7⟩ := pairs_step (z := z) s6 bd_5 (gd_5 hz1)
  obtain ⟨k3, s8⟩ := pairs_step (z := z) s7 bd_4 gd_3
  obtain ⟨k2, s9⟩ := pairs_step (z := z) s8 bd_3 gd_3
  obtain ⟨k1, s10⟩ := pairs_step (z := z) s9 bd_2 gd_2
  obtain ⟨k0, s11⟩ := pairs_step (z := z) s10 bd_1 gd_1
  have q := (List.forall_mem_cons.mpr ⟨k0, List.forall_mem_cons.mpr ⟨k1, List.forall_mem_cons.mpr ⟨k2, List.forall_mem_cons.mpr ⟨k3, List.forall_mem_cons.mpr ⟨k4, List.forall_mem_cons.mpr ⟨k5, List.forall_mem_cons.mpr ⟨k6, List.forall_mem_cons.mpr ⟨k7, List.forall_mem_cons.mpr ⟨k8, List.forall_mem_cons.mpr ⟨k9, List.forall_mem_cons.mpr ⟨k10, List.forall_mem_nil _⟩⟩⟩⟩⟩⟩⟩⟩⟩⟩⟩) v hv
  obtain ⟨P, b, g, kb, vb, lb, kg, vg, lg, u0, u1, u2, w0, w1, w2, n, n1, n2, rfl, hP, hb, hg, hbad, hgood⟩ := q
  dsimp only
  k_steps
  rename News _ _ _ _ => Nr
  rename Fr _ _ _ _ => Fr'
  refine hret P b g kb vb lb kg vg lg u0 u1 u2 w0 w1 w2 n n1 n2 _ _ _ Fr' Nr ?_ hP hb hg hbad hgood
  intro p h
  iterate 34 refine List.Mem.tail _ ?_
  exact h
end
end S303
end
-- C303i
section
open PySem PySem.W PyProof.Rows PySem.Calls PySem.Spec Sq
namespace S303
local macro_rules | `(tactic| k_mem) => `(tactic| assumption)
local macro_rules | `(tactic| walk_at "call ref") => `(tactic| ((with_reducible show wpAny _ _ (call (Value.ref 41) _) _ _ _); (refine wpAny_call ?_); k_dflt (refine' code_def ?k1 ?k2 ?k3 ?k4 ?k5 ?kA ?kF ?kK ?k6 ?k7 ?k8 ?k9 ?kB ?_ ?c2 ?c3 ?c4 ?c5; (case kA => exact rfl); (case kF => exact rfl); (case kK => exact rfl); (case k1 => k_asm); (case k2 => k_asm); (case k3 => k_asm); (case k4 => k_asm); (case k5 => k_asm); (case k6 => k_is); (case k7 => k_is); (case k8 => ktr_room); (case k9 => exact BindsTo.of_eq rfl); (case c5 => decide); (case kB => exact locs rfl); (case c2 => exact rfl); (case c3 => exact rfl); (case c4 => exact rfl); k_whole; intro g' L' h' FG' F' N' B' X' T'; (try dsimp only); (try k_fold))))
local macro_rules | `(tactic| walk_at "call ref") => `(tactic| ((with_reducible show wpAny _ _ (call (Value.ref 34) _) _ _ _); k_dflt (refine' tokens_ok_call ?k1 ?k2 ?k3 ?k4 ?k5 ?k6 ?k7 ?k8 ?k9 ?k10 ?_; (case k1 => k_asm); (case k2 => k_asm); (case k3 => k_asm); (case k4 => k_asm); (case k5 => k_asm); (case k6 => first | exact rfl | assumption); (case k7 => first | assumption | k_mem); (case k8 => assumption); (case k9 => assumption); (case k10 => ktr_room)); intro h9 tk9 F9 N9; (try dsimp only); (try k_sweep)))
local macro_rules | `(tactic| walk_at "call ref") => `(tactic| ((with_reducible show wpAny _ _ (call (Value.ref 34) _) _ _ _); k_dflt (refine' tokens_ok_call ?k1 ?k2 ?k3 ?k4 ?k5 ?k6 ?k7 ?k8 ?k9 ?k10 ?_; (case k1 => k_asm); (case k2 => k_asm); (case k3 => k_asm); (case k4 => k_asm); (case k5 => k_asm); (case k6 => first | exact rfl | assumption); (case k7 => first | assumption | k_mem); (case k8 => assumption); (case k9 => assumption); (case k10 => ktr_room)); intro h9 tk9 F9 N9; (try dsimp only); (try k_sweep)))
local macro_rules | `(tactic| walk_at "call ref") => `(tactic| ((with_reducible show wpAny _ _ (call (Value.ref 34) _) _ _ _); k_dflt (refine' tokens_ok_call ?k1 ?k2 ?k3 ?k4 ?k5 ?k6 ?k7 ?k8 ?k9 ?k10 ?_; (case k1 => k_asm); (case k2 => k_asm); (case k3 => k_asm); (case k4 => k_asm); (case k5 => k_asm); (case k6 => first | exact rfl | assumption); (case k7 => first | assumption | k_mem); (case k8 => assumption); (case k9 => assumption); (case k10 => ktr_room)); intro h9 tk9 F9 N9; (try dsimp only); (try k_sweep)))
local macro_rules | `(tactic| walk_at "call ref") => `(tactic| ((with_reducible show wpAny _ _ (call (Value.ref 41) _) _ _ _); k_dflt (refine' lz_expand_call ?k1 ?k2 ?k3 ?k4 ?k5 ?k6 ?k7 ?k8 ?k9 ?kz ?k10 ?k11 ?_; (case k1 => k_asm); (case k2 => k_asm); (case k3 => k_asm); (case k4 => k_asm); (case k5 => k_asm); (case k6 => first | exact rfl | assumption); (case k7 => first | assumption | k_mem); (case k8 => assumption); (case k9 => assumption); (case kz => omega); (case k10 => ktr_room); (case k11 => ktr_units)); intro D9 us9 c9 h9 tk9 F9 N9 l9 hI9; (try dsimp only); (try k_sweep)))
section
variable {prog : Program} {w : World} {p : Program} {loose : List Str} {mean : ExcName → Option Value} {mg mb : Str → Option Value} {dp un : Nat} {gd : Option (List Code)} {cn : Str} {cs : Scope} {a : Addr} {ccd : Value} {cl : List (Str × Addr)} {outer : List Env} {A₀ : Around} {base h₀ : Heap} {L : Addr} {m : Str → Option Value} {news : List (Addr × Obj)} {s : Shared} {Q E : Value → Shared → Prop}
theorem end_ok {l : Addr} {vs : List Value} {ts : List Tk} {nn : Nat}
    (B : Below A₀ base outer h₀) (F : Fr h₀ L s.heap m) (X : (hd.heap_39 w.params).In h₀) (N : News h₀ L s.heap news) (T : Top p loose mean mg mb h₀) (hk : cs.kind = .function)
    (hl : (l, listOf vs.toArray nn) ∈ news) (hT : ToksIn news vs ts) (hok : tokOk ts = true) (hbig : 255 * ts.length ≤ 10000000) (hd : dp + 5 < recursionLimit) (hu : un + 100 < cLine)
    (hret : ∀ D us c h' tk', Fr h₀ L h' m → News h₀ L h' ((D, listOf (List.toArray us) c) :: news) → (∀ p ∈ news, p.1 < D) → IntsAre us (expand ts) → Q (.ref D) { s with heap := h', toks := tk' }) :
    wpAny (model prog w) (ktrTop dp un gd cn cs L a ccd cl outer) (call (.ref 74) [.ref l]) Q E s := by
  w_top on
  refine wpAny_call ?_
  k_dflt cell_enter
  k_steps
  rename News _ _ _ _ => Nq
  rename Fr _ _ _ _ => Fq
  exact hret _ _ _ _ _ Fq Nq (by assumption) (by assumption)
theorem end_bad {l : Addr} {vs : List Value} {ts : List Tk} {nn : Nat}
    (B : Below A₀ base [] h₀) (F : Fr h₀ L s.heap m) (X : (hd.heap_39 w.params).In h₀) (N : News h₀ L s.heap news) (T : Top p loose mean mg mb h₀) (hk : cs.kind = .function)
    (XB : (hd.heap_39 w.params).In base) (TB : Top p loose mean mg mb base) (hl : (l, listOf vs.toArray nn) ∈ news) (hT : ToksIn news vs ts) (hok : tokOk ts = false) (hd : dp + 5 < recursionLimit) (hu : un + 100 < cLine)
    (hret : ∀ t h' tk', Fr h₀ L h' m → News h₀ L h' news → Q (.str (Str.ofString "refused") t) { s with heap := h', toks := tk' }) :
    wpAny (model prog w) (ktrTop dp un gd cn cs L a ccd cl []) (call (.ref 74) [.ref l]) Q E s := by
  w_top on
  refine wpAny_call ?_
  k_dflt (refine' try_enter ?k1 ?k2 ?k3 ?k4 ?k5 ?kA ?kf ?ke ?k6 ?k7 ?k8 ?k9 ?kB ?_ ?c2 ?c3 ?c4 ?c5; (case kA => exact rfl); (case kf => exact rfl); (case ke => assumption); (case k2 => k_asm); (case k1 => k_asm); (case k3 => k_asm); (case k4 => k_asm); (case k5 => k_asm); (case k6 => k_is); (case k7 => k_is); (case k8 => first | ktr_room | k_room); (case k9 => exact BindsTo.of_eq rfl); (case kB => exact locs rfl); (case c2 => exact rfl); (case c3 => exact rfl); (case c4 => exact rfl); (case c5 => decide); k_whole)
  intro g' L' h' FG' F' N' B' X' T' D'
  (try dsimp only)
  (try k_lift B')
  (try k_fold)
  k_steps
  rename News _ _ _ _ => Nq
  rename Fr _ _ _ _ => Fq
  exact hret _ _ _ Fq Nq
end
end S303
end
-- C303h
section
open PySem PySem.W PyProof.Rows PySem.Calls PySem.Spec Sq
namespace S303
def lits (bs : List Int) : List Tk := bs.map fun b => (0, b, 0)
theorem good_all {ts : List Tk} {ds bs : List Int} {k v l : Int} (h : Good ts ds) (hz : ds.length ≤ 60000) (hg : GoodTk ds.length k v l) (hb : ∀ b ∈ bs, 0 ≤ b ∧ b ≤ 255) : Good (ts ++ [(k, v, l)] ++ lits bs) (ds ++ wr ds (k, v, l) ++ bs) := good_lits bs (good_tok h hz hg) hb
/-- what the suffix is, turn by turn -/
def JS (tl : List (Addr × Obj)) (i : Nat) (ys : List Value) (nx : List (Addr × Obj)) : Prop := (∀ p ∈ tl, p ∈ nx) ∧ ∃ bs : List Int, ToksIn nx ys (lits bs) ∧ bs.length = i ∧ ∀ b ∈ bs, 0 ≤ b ∧ b ≤ 255
theorem JS_step {tl nx : List (Addr × Obj)} {i : Nat} {ys : List Value} {D : Addr} {b : Int} {u0 u1 u2 : Tok} {n : Nat} (h : JS tl i ys nx) (h0 : 0 ≤ b) (h1 : b ≤ 255) : JS tl (i + 1) (ys ++ [.ref D]) ((D, tup3 0 b 0 u0 u1 u2 n) :: nx) := by
  obtain ⟨h2, bs, h3, h4, h5⟩ := h
  refine ⟨fun p hp => .tail _ (h2 p hp), bs ++ [b], ?_, by simp [h4], ?_⟩
  · rw [lits, List.map_append]
    exact ToksIn.append (h3.mono fun _ hp => .tail _ hp) (.cons (.head _) .nil)
  · intro x hx
    rcases List.mem_append.mp hx with hx | hx
    · exact h5 x hx
    · rw [List.mem_singleton.mp hx]; exact ⟨h0, h1⟩
/-- a list that tokens_ok refuses -/
def BadL (W : List (Addr × Obj)) (v : Value) : Prop := ∃ f vs ts c, v = .ref f ∧ (f, listOf (List.toArray vs) c) ∈ W ∧ ToksIn W vs ts ∧ tokOk ts = false ∧ ts.length ≤ 100
/-- a pair of a lawful list and what it gives -/
def GoodL (W : List (Addr × Obj)) (v : Value) : Prop := ∃ P f q vs us ts ds c c' n, v = .ref P ∧ (P, tup2 f q n) ∈ W ∧ (f, listOf (List.toArray vs) c) ∈ W ∧ (q, listOf (List.toArray us) c') ∈ W ∧ ToksIn W vs ts ∧ IntsAre us ds ∧ Good ts ds ∧ ts.length ≤ 100
theorem pack1 {h₀ h : Heap} {L LL : Addr} {led tl : List (Addr × Obj)} {c : Nat} {v1 v2 : Value} (N : News h₀ L h led) (hs : ∀ p ∈ tl, p ∈ led) (hLL : (LL, listOf (List.toArray [v1, v2]) c) ∈ led) (h1 : BadL led v1) (h2 : BadL led v2) :
    ∃ W, News h₀ L h W ∧ (∀ p ∈ tl, p ∈ W) ∧ (LL, listOf (List.toArray [v1, v2]) c) ∈ W ∧ ∀ v ∈ [v1, v2], BadL W v :=
  ⟨led, N, hs, hLL, fun v hv => by
    simp only [List.mem_cons, List.not_mem_nil, or_false] at hv
    rcases hv with rfl | rfl
    · exact h1
    · exact h2⟩
theorem pack2 {h₀ h : Heap} {L LL : Addr} {led tl : List (Addr × Obj)} {c : Nat} {v1 v2 : Value} (N : News h₀ L h led) (hs : ∀ p ∈ tl, p ∈ led) (hLL : (LL, listOf (List.toArray [v1, v2]) c) ∈ led) (h1 : GoodL led v1) (h2 : GoodL led v2) :
    ∃ W, News h₀ L h W ∧ (∀ p ∈ tl, p ∈ W) ∧ (LL, listOf (List.toArray [v1, v2]) c) ∈ W ∧ ∀ v ∈ [v1, v2], GoodL W v :=
  ⟨led, N, hs, hLL, fun v hv => by
    simp only [List.mem_cons, List.not_mem_nil, or_false] at hv
    rcases hv with rfl | rfl
    · exact h1
    · exact h2⟩
theorem bad_one {ts : List Tk} {ds bs : List Int} {t : Tk} (h : Good ts ds) (ht : tokStep ds.length t = none) : tokOk (ts ++ [t] ++ lits bs) = false := good_bad _ h ht
theorem bad_two {ts : List Tk} {ds bs : List Int} {t w : Tk} (h : Good ts ds) (ht : tokStep ds.length t = none) : tokOk (ts ++ [t] ++ lits bs ++ [w]) = false := by
  rw [List.append_assoc]
  exact good_bad _ h ht
theorem lits_len (bs : List Int) : (lits bs).length = bs.length := by simp [lits]
theorem lits_get {bs : List Int} {i : Nat} {t : Tk} (h : (lits bs)[i]? = some t) : bs[i]? = some t.2.1 := by
  simp only [lits, List.getElem?_map] at h
  cases q : bs[i]? with
  | none => rw [q] at h; cases h
  | some b => rw [q] at h; simp only [Option.map_some, Option.some.injEq] at h; subst h; rfl
theorem perm4 {h₀ h : Heap} {L : Addr} {x a b c : Addr × Obj} {r : List (Addr × Obj)} (N : News h₀ L h (x :: a :: b :: c :: r)) : News h₀ L h (a :: b :: c :: x :: r) := fun p hp => N p (by
  simp only [List.mem_cons] at hp ⊢
  rcases hp with h | h | h | h | h <;> simp [h])
theorem off3_new {I C D D' : Addr} {oI oC oD o : Obj} {nx : List (Addr × Obj)} (l1 : ∀ p ∈ (I, oI) :: (C, oC) :: (D, oD) :: nx, p.1 < D') (off : LCg.Off3 I C D nx) : LCg.Off3 I C D ((D', o) :: nx) :=
  ⟨⟨Nat.ne_of_gt (l1 _ (.head _)), Nat.ne_of_gt (l1 _ (.tail _ (.head _))), Nat.ne_of_gt (l1 _ (.tail _ (.tail _ (.head _))))⟩, off⟩
section
variable {prog : Program} {w : World} {A : Around} {E : Value → Shared → Prop} {s : Shared} {h₀ : Heap} {L : Addr} {news : List (Addr × Obj)} {Q : Value → Shared → Prop}
theorem item_snd {value slice : Expr} {a : Addr} {k v l : Int} {t0 t1 t2 u : Tok} {n : Nat} (N : News h₀ L s.heap news) (hm : (a, tup3 k v l t0 t1 t2 n) ∈ news) (h : Q (.int v t1) s)
    (hs : subscripted slice false (.ref a) (.int 1 u) = operate [.ref a, .int 1 u] (getItem (.ref a) (.int 1 u))) :
    wpAny (model prog w) A (subscriptTail value slice (.ref a) (.int 1 u)) Q E s := item_tupleT (News.isTup N hm) (by decide) (by decide) (j := 1) rfl rfl h hs
end
theorem range_getD (bs : List Int) : (List.range bs.length).map (fun j => bs.getD j 0) = bs := by
  refine List.ext_getElem? fun i => ?_
  rw [List.getElem?_map]
  by_cases h : i < bs.length
  · rw [List.getElem?_range h, List.getElem?_eq_getElem h]
    simp [List.getD_eq_getElem?_getD, List.getElem?_eq_getElem h]
  · rw [List.getElem?_eq_none (by simpa using h), List.getElem?_eq_none (by simpa using h)]
    rfl
theorem ints_lits {zs : List Value} {bs : List Int} (hl : zs.length = bs.length) (hG : ∀ (i : Nat) (y : Value), zs[i]? = some y → ∃ t, y = .int (bs.getD i 0) t) : IntsAre zs bs := by
  have := ints_of_get hl hG
  rwa [range_getD] at this
end S303
end
-- C303g
section
open PySem PySem.W PyProof.Rows PySem.Calls PySem.Spec Sq
namespace S303
local macro_rules | `(tactic| k_all) => `(tactic| assumption)
local macro_rules | `(tactic| k_mem) => `(tactic| exact List.mem_append_left _ (by assumption))
local macro_rules | `(tactic| k_mem) => `(tactic| assumption)
local macro_rules | `(tactic| walk_at "call builtin:len") => `(tactic| ((with_reducible show wpAny _ _ (call (Value.builtin "len") [Value.ref _]) _ _ _); k_dflt (refine' len_ints ?k1 ?k2 ?k3 ?k4 ?_; (case k1 => k_asm); (case k2 => first | assumption | k_mem); (case k3 => assumption); (case k4 => omega)); intro t9 tk9; (try dsimp only)))
local macro_rules | `(tactic| walk_at "eval Call Name cons nil") => `(tactic| refine Call_ ?_)
local macro_rules | `(tactic| walk_at "call type:range") => `(tactic| ((with_reducible show wpAny _ _ (call (Value.type "range") [Value.int _ _]) _ _ _); k_dflt (refine' range_call ?k1 ?k2 ?_; (case k1 => k_asm); (case k2 => k_asm)); intro r9 h9 tk9 t9 u9 v9 F9 N9 R9; (try dsimp only); (try k_sweep)))
local macro_rules | `(tactic| walk_at "call ref") => `(tactic| ((with_reducible show wpAny _ _ (call (Value.ref 48) _) _ _ _); k_dflt (refine' cell_call ?k1 ?k2 ?k3 ?k4 ?k5 ?k6 ?k7 ?k8 ?k9 ?k10 ?k11 ?k12 ?_; (case k1 => k_asm); (case k2 => k_asm); (case k3 => k_asm); (case k4 => k_asm); (case k5 => k_asm); (case k6 => first | exact rfl | assumption); (case k7 => k_asm); (case k8 => k_asm); (case k9 => omega); (case k10 => omega); (case k11 => ktr_room); (case k12 => ktr_units)); intro r9 t9 h9 tk9 F9 N9; (try dsimp only); (try k_sweep)))
local macro_rules | `(tactic| walk_at "binaryOp Add ref ref") => `(tactic| ((with_reducible show wpAny _ _ (binaryOp Operator.Add (Value.ref _) (Value.ref _)) _ _ _); k_dflt (refine' add_any ?k1 ?k2 ?k3 ?k4 ?k5 ?_; (case k1 => k_asm); (case k2 => k_asm); (case k3 => k_mem); (case k4 => k_mem); (case k5 => first | omega | (simp only [List.length_append, List.length_replicate, List.length_cons, List.length_nil]; omega))); intro D' h' F' N' l1; (try k_lt l1); (try k_sweep)))
local macro_rules | `(tactic| walk_at "call ref") => `(tactic| ((with_reducible show wpAny _ _ (call (Value.ref 60) _) _ _ _); k_dflt (refine' prefix_call ?k1 ?k2 ?k3 ?k4 ?k5 ?k6 ?k7 ?k8 ?k9 ?k11 ?k12 ?_; (case k1 => k_asm); (case k2 => k_asm); (case k3 => k_asm); (case k4 => k_asm); (case k5 => k_asm); (case k6 => first | exact rfl | assumption); (case k7 => k_asm); (case k8 => k_asm); (case k9 => omega); (case k11 => ktr_room); (case k12 => ktr_units)); intro P9 r9 q9 vs9 us9 ts9 ds9 c9 c9' n9 tl9 h9 tk9 F9 N9 hs9 m9 m9' m9'' hT9 hU9 hG9 b9 b9' b9''; (have hsc9 := hs9 _ (List.Mem.head _)); (try dsimp only); (try k_sweep)))
local macro_rules | `(tactic| walk_at "call ref") => `(tactic| ((with_reducible show wpAny _ _ (call (Value.ref 67) _) _ _ _); k_dflt (refine' pair_call ?k1 ?k2 ?k3 ?k4 ?k5 ?k6 ?k7 ?k8 ?k9 ?z1 ?z2 ?k11 ?k12 ?_; (case k1 => k_asm); (case k2 => k_asm); (case k3 => k_asm); (case k4 => k_asm); (case k5 => k_asm); (case k6 => first | exact rfl | assumption); (case k7 => k_asm); (case k8 => k_asm); (case k9 => omega); (case z1 => omega); (case z2 => omega); (case k11 => ktr_room); (case k12 => ktr_units)); intro P9 b9 g9 kb9 vb9 lb9 kg9 vg9 lg9 u9 u9' u9'' w9 w9' w9'' n9 n9' n9'' tl9 h9 tk9 F9 N9 hs9 m9 m9' m9'' hb9 hg9; (try dsimp only); (try k_sweep)))
local macro_rules | `(tactic| walk_at "call ref") => `(tactic| ((with_reducible show wpAny _ _ (call (Value.ref 53) _) _ _ _); k_dflt (refine' written_call ?k1 ?k2 ?k3 ?k4 ?k5 ?k6 ?k7 ?k8 ?k9 ?kc ?kz ?k10 ?k11 ?_; (case k1 => k_asm); (case k2 => k_asm); (case k3 => k_asm); (case k4 => k_asm); (case k5 => k_asm); (case k6 => first | exact rfl | assumption); (case k7 => first | assumption | k_mem); (case k8 => assumption); (case k9 => k_mem); (case kc => assumption); (case kz => omega); (case k10 => ktr_room); (case k11 => ktr_units)); intro D9 us9 c9 h9 tk9 F9 N9 l9 hI9 hw9; (try dsimp only); (try k_sweep)))
local macro_rules | `(tactic| walk_at "call ref") => `(tactic| ((with_reducible show wpAny _ _ (call (Value.ref 34) _) _ _ _); k_dflt (refine' tokens_ok_call ?k1 ?k2 ?k3 ?k4 ?k5 ?k6 ?k7 ?k8 ?k9 ?k10 ?_; (case k1 => k_asm); (case k2 => k_asm); (case k3 => k_asm); (case k4 => k_asm); (case k5 => k_asm); (case k6 => first | exact rfl | assumption); (case k7 => first | assumption | k_mem); (case k8 => first | assumption | exact ToksIn.mono (by assumption) (fun _ hp => by k_mem)); (case k9 => assumption); (case k10 => ktr_room)); intro h9 tk9 F9 N9; (try dsimp only); (try k_sweep)))
local macro_rules | `(tactic| walk_at "call type:list") => `(tactic| ((with_reducible show wpAny _ _ (call (Value.type "list") [Value.ref _]) _ _ _); k_dflt (refine' list_of ?k1 ?k2 ?k3 ?k4 ?_; (case k1 => k_asm); (case k2 => k_asm); (case k3 => first | assumption | k_mem); (case k4 => omega)); intro D9 c9 h9 F9 N9 l9; (try dsimp only); (try k_sweep)))
local macro_rules | `(tactic| walk_at "compareOp NotEq ref ref") => `(tactic| ((with_reducible show wpAny _ _ (compareOp CmpOp.NotEq (Value.ref _) (Value.ref _)) _ _ _); k_dflt (refine' ne_toks ?k1 ?k2 ?k3 ?k4 ?k5 ?k6 ?_; (case k1 => k_asm); (case k2 => first | assumption | exact List.Mem.tail _ (by assumption) | k_mem); (case k3 => k_mem); (case k4 => exact ToksIn.mono (by assumption) (fun _ hp => by k_mem)); (case k5 => exact ToksIn.mono (by assumption) (fun _ hp => by k_mem)); (case k6 => ktr_units)); (simp only [decide_true, Bool.not_true])))
local macro_rules | `(tactic| walk_at "compareOp NotEq ref ref") => `(tactic| ((with_reducible show wpAny _ _ (compareOp CmpOp.NotEq (Value.ref _) (Value.ref _)) _ _ _); k_dflt (refine' ne_ints_eq ?k1 ?k2 ?k3 ?k4 ?k5 ?k7 ?k6 ?_; (case k1 => k_asm); (case k2 => k_mem); (case k3 => first | assumption | k_mem); (case k4 => assumption); (case k5 => assumption); (case k7 => exact (by assumption : Good _ _).2); (case k6 => ktr_units))))
local macro_rules | `(tactic| walk_at "call ref") => `(tactic| ((with_reducible show wpAny _ _ (call (Value.ref 74) _) _ _ _); k_dflt (refine' end_bad ?k1 ?k2 ?k3 ?k4 ?k5 ?k6 ?x1 ?x2 ?k7 ?k8 ?k9 ?k10 ?k11 ?_; (case k1 => k_asm); (case k2 => k_asm); (case k3 => k_asm); (case k4 => k_asm); (case k5 => k_asm); (case k6 => first | exact rfl | assumption); (case x1 => k_asm); (case x2 => k_asm); (case k7 => first | assumption | k_mem); (case k8 => first | assumption | exact ToksIn.mono (by assumption) (fun _ hp => by k_mem)); (case k9 => assumption); (case k10 => ktr_room); (case k11 => ktr_units)); intro t9 h9 tk9 F9 N9; (try dsimp only); (try k_sweep)))
local macro_rules | `(tactic| walk_at "call ref") => `(tactic| ((with_reducible show wpAny _ _ (call (Value.ref 74) _) _ _ _); k_dflt (refine' end_ok ?k1 ?k2 ?k3 ?k4 ?k5 ?k6 ?k7 ?k8 ?k9 ?kz ?k10 ?k11 ?_; (case k1 => k_asm); (case k2 => k_asm); (case k3 => k_asm); (case k4 => k_asm); (case k5 => k_asm); (case k6 => first | exact rfl | assumption); (case k7 => first | assumption | k_mem); (case k8 => first | assumption | exact ToksIn.mono (by assumption) (fun _ hp => by k_mem)); (case k9 => assumption); (case kz => omega); (case k10 => ktr_room); (case k11 => ktr_units)); intro D9 us9 c9 h9 tk9 F9 N9 l9 hI9; (try dsimp only); (try k_sweep)))
theorem main : PySem.Challenge.rw_pd_squeeze_3_03.Holds := hd (by
  k_go0
  all_goals try k_fold
  rename_i W S0 S1 MG MB G Y fa o pm doc ho hg KX X V GL T B TE TW w1 w2 M w3 w4 hcd ns hs hlay0 hLay hr hl2 w5 w6 l vs w7 hL ra wl r0 hI hr2 hcond hcond2 K0 hD h1 tk1 F0 o1 dC N0 X0
  repeat ((fail_if_success (with_reducible show wpAny _ _ (exec (Stmt.Assign _ (Expr.ListComp _ _ _ _) _) _) _ _ _)); (first | walk1 | (k_unfold; (try dsimp only)) | (dsimp only; walk1)))
  rename_i P1 r q vs1 us1 ts ds c c' n1 tl1 ha1 tka1 hs1 mP1 mR1 mQ1 hT1 hU hG bl1 bl2 bl3 hC1 hx1 hx2 hx3 tkx t1 tkx2 P2 b g kb vb lb kg vg lg u0 u1 u2 y0 y1 y2 n2 n3 n4 tl ha2 tka2 hs2 mP2 mB mG hbad hgood hx4 hx5 hx6 Fa Na
  have hC := hs2 _ hC1
  have mR := hs2 _ mR1
  have mQ := hs2 _ mQ1
  have hT : ToksIn tl vs1 ts := hT1.mono hs2
  have hlv : vs1.length = ts.length := hT.length
  have hlu : us1.length = ds.length := hU.length
  clear hs1 mP1 mR1 mQ1 hT1 hC1 hs2 mP2 hcond2
  refine' LCg.Assign_ListComp_U (F₀ := Fa) ?b1 ?b2 ?b3 ?b4 ?b5 ?b6 ?b7 ?b8 ?b9 ?b10 ?b11
  case b1 => rfl
  case b2 => with_unfolding_all rfl
  case b3 => with_unfolding_all rfl
  case b4 => decide
  case b5 => rfl
  case b6 => decide
  case b7 => rfl
  case b8 => rfl
  case b9 => rfl
  case b11 => intro _; rfl
  repeat ((fail_if_success (with_reducible show LCg.CompSrc _ _ _ _ _ _ _ _ _ _ _ _ _ _)); walk1)
  rename IsRange _ _ _ _ _ _ _ _ => Rg
  rename News _ _ _ _ => Ng
  rename Fr _ _ _ _ => Fg
  rename Int => r6
  have h60 := fm0 r6 (n := 3) (by decide)
  have h61 := fm1 r6 (n := 3) (by decide)
  refine LCg.CompSrc.range rfl Fg Ng Rg (rsmall1 (by omega) (by omega)) (rsize1 _) (by rw [sizeLine_eq]; omega) ?_
  intro gg
  refine compRest_inv (n := (r6.fmod 3).toNat) (JS tl) (fun _ _ _ _ => trivial) ?ct ?cf (r6.fmod 3).toNat 0 [] tl (by omega) ⟨fun _ h => h, [], .nil, rfl, fun _ h => nomatch h⟩
  case ct =>
    intro i v I oI C oC Dc ys nx m₅ h5 tk5 E' hi5 hP hJ hNs hx F5 N5 off hne
    obtain ⟨tv, rfl⟩ := hP
    have hC5 := hJ.1 _ hC
    repeat ((fail_if_success (with_reducible show wpAny _ _ (newTuple _) _ _ _)); (first | walk1 | (dsimp only; walk1)))
    rename News _ _ _ _ => N6
    rename Fr _ _ _ _ => F6
    refine kup_newTuple F6 N6 (fun D' h' F' N' l1 => ?_) (by rw [sizeLine_eq]; simp only [List.length_cons, List.length_nil]; omega)
    exact ⟨h', _, _, rfl, F', perm4 N', off3_new l1 off, JS_step hJ (fm0 _ (by decide)) (Int.le_of_lt_add_one (fm1 _ (by decide)))⟩
  case cf =>
    intro ys nx hJ Dl h6 tk6 F6 N6 off1
    obtain ⟨hsub, bs, hTs, hbl, hbb⟩ := hJ
    have hC6 := hsub _ hC
    have mR6 := hsub _ mR
    have mQ6 := hsub _ mQ
    have mB6 := hsub _ mB
    have mG6 := hsub _ mG
    have hT6 : ToksIn nx vs1 ts := hT.mono hsub
    have hly : ys.length = bs.length := hTs.length.trans (lits_len bs)
    have hlb : bs.length ≤ 2 := by omega
    clear hC mR mQ mB mG hT hsub Fg Ng Rg
    dsimp only
    repeat ((fail_if_success (with_reducible show wpAny _ _ (exec (Stmt.For _ _ _ _ _) _) _ _ _)); (first | walk1 | (k_unfold; (try dsimp only)) | (dsimp only; walk1)))
    refine For_unr S1.heap ?_ (hE := by passes_own)
    repeat ((fail_if_success (with_reducible show wpAny _ _ (pyIter _) _ _ _)); (first | walk1 | (k_unfold; (try dsimp only)) | (dsimp only; walk1)))
    rename News _ _ _ _ => Nf
    rename Fr _ _ _ _ => Ff
    rename_i i1 i2 i3 i4 i5 i6 i7 i8 i9 i10 i11 i12 D5 i13 l1a i14 L3 i15 l1b D4 i16 l1i D3 i17 l1c L2 i18 l1j D2 i19 l1d D1 i20 l1e L1 i21 l1f D0 i22 l1g L0 i23 l1h
    clear l1a l1b l1i l1c l1j l1d l1e l1f l1g l1h
    refine Exists.elim (pack1 (tl := (Dl, LCg.lst ys) :: nx) Nf ?ps (.head _) ?pf ?pg) ?_
    case ps =>
      intro p hp
      iterate 10 refine List.Mem.tail _ ?_
      exact hp
    case pf =>
      refine ⟨_, _, ts ++ [(kb, vb, lb)] ++ lits bs, _, rfl, by k_mem, ToksIn.append (ToksIn.append (hT6.mono fun p hp => ?_) (.cons (by k_mem) .nil)) (hTs.mono fun p hp => ?_), bad_one hG hbad, by simp [lits_len]; omega⟩
      all_goals (iterate 11 refine List.Mem.tail _ ?_)
      all_goals exact hp
    case pg =>
      refine ⟨_, _, _, _, rfl, by k_mem, ToksIn.append (ToksIn.append (ToksIn.append (hT6.mono fun p hp => ?_) (.cons (by k_mem) .nil)) (hTs.mono fun p hp => ?_)) (.cons (by k_mem) .nil), bad_two hG hbad, by simp [lits_len]; omega⟩
      all_goals (iterate 11 refine List.Mem.tail _ ?_)
      all_goals exact hp
    rintro Wl ⟨Nw, hsW, hLL, hbW⟩
    have hC7 := hsW _ (.tail _ hC6)
    have mR7 := hsW _ (.tail _ mR6)
    have mQ7 := hsW _ (.tail _ mQ6)
    have mG7 := hsW _ (.tail _ mG6)
    have mD7 := hsW _ (.head _)
    have hT7 : ToksIn Wl vs1 ts := hT6.mono fun p hp => hsW p (.tail _ hp)
    have hTs7 : ToksIn Wl ys (lits bs) := hTs.mono fun p hp => hsW p (.tail _ hp)
    clear Nf hC6 mR6 mQ6 mB6 mG6 hT6 hTs off1 hsW
    refine' items_iter (J := fun i m₁ n₁ => n₁ = Wl ∧ m₁ (Str.ofString "prefix") = some (.ref r) ∧ m₁ (Str.ofString "base") = some (.ref q) ∧ m₁ (Str.ofString "good") = some (.ref g) ∧ m₁ (Str.ofString "suffix") = some (.ref Dl)) ?l1 Ff Nw hLL ?l2 ?lt ?ld
    case l1 => rfl
    case l2 => exact ⟨rfl, rfl, rfl, rfl, rfl⟩
    case lt =>
      rintro i v m₁ news₁ h7 tk7 own hv ⟨hn7, hm1, hm2, hm3, hm4⟩ hown F7 N7
      subst hn7
      obtain ⟨f, vf, tf, cf, rfl, hf, hTf, hokf, hlf⟩ := hbW v (List.mem_of_getElem? hv)
      obtain ⟨Z, hZ⟩ : ∃ Z, Z = own ++ news₁ := ⟨_, rfl⟩
      rw [← hZ] at N7
      have hf' : (f, listOf (List.toArray vf) cf) ∈ Z := by rw [hZ]; exact List.mem_append_right own hf
      have hTf' : ToksIn Z vf tf := by rw [hZ]; exact hTf.mono fun _ h => List.mem_append_right own h
      have hlvf : vf.length = tf.length := hTf'.length
      clear hf hTf Ff Nw hLL hC7 mR7 mQ7 mG7 mD7 hT7 hTs7 hbW
      k_steps
      rename News _ _ _ _ => Nq
      rename Fr _ _ _ _ => Fq
      exact LoopStep2.intro (news₂ := news₁) Fq (fun p hp => Nq p (.tail _ (by rw [hZ]; exact hp))) rfl ⟨rfl, hm1, hm2, hm3, hm4⟩
    case ld =>
      rintro m₁ news₁ h7 tk7 ⟨hn7, hm1, hm2, hm3, hm4⟩ F7 N7
      subst hn7
      rw [map_at hm1, map_at (m := m₁) hm2, map_at (m := m₁) hm3, map_at (m := m₁) hm4] at F7
      clear hbW hLL Nw Ff
      have hgw : kg = 0 ∨ (kg = 1 ∧ 1 ≤ vg ∧ vg ≤ ds.length ∧ 0 ≤ lg ∧ lg ≤ 255) := by
        rcases hgood with h | h <;> omega
      dsimp only
      repeat ((fail_if_success (with_reducible show wpAny _ _ (eval (Expr.ListComp _ _ _ _) _) _ _ _)); (first | (k_unfold; (try dsimp only)) | walk1 | (dsimp only; walk1)))
      rename Fr _ _ _ _ => Fe
      refine' LCg.ListComp_U (F₀ := Fe) ?a1 ?a2 ?a3 ?a4 ?a5 ?a6 ?a7
      case a1 => with_unfolding_all rfl
      case a2 => decide
      case a3 => rfl
      case a4 => decide
      case a5 => rfl
      case a7 => intro _; rfl
      repeat ((fail_if_success (with_reducible show LCg.CompSrc _ _ _ _ _ _ _ _ _ _ _ _ _ _)); walk1)
      rename News _ _ _ _ => Ng
      rename Fr _ _ _ _ => Fg
      refine LCg.CompSrc.ledger rfl Fg Ng (.tail _ (.tail _ mD7)) (by rw [List.size_toArray, sizeLine_eq]; omega) ?_
      intro gg
      refine compRest_of (fun j y => ∃ t, y = .int (bs.getD j 0) t) (.inr ⟨_, .tail _ (.tail _ mD7), rfl, _, rfl⟩) ?ct ?cf _ 0 [] (Nat.zero_add _) rfl (fun j y hj => by simp at hj)
      case ct =>
        intro j v I oI C oC Dc zs m₅ h5 tk5 E' hj hP hNs hx F5 N5 off hne
        obtain ⟨a, k', v', l', t0, t1', t2, n', rfl, hlt, hm⟩ := hTs7.get (i := j) (x := v) (by simpa using hP)
        have hbv := lits_get hlt
        repeat ((fail_if_success (with_reducible show wpAny _ _ (subscriptTail _ _ _ _) _ _ _)); (first | walk1 | (dsimp only; walk1)))
        refine item_snd N5 (.tail _ (.tail _ (.tail _ (.tail _ (.tail _ hm))))) ?_ (by with_unfolding_all rfl)
        refine ⟨h5, _, rfl, F5, N5, t1', ?_⟩
        rw [List.getD_eq_getElem?_getD, hbv]
        rfl
      case cf =>
        intro zs hzl hzG Dz h8 tk8 F8 N8 off8
        have hzl3 : zs.length = bs.length := hzl.trans ((List.size_toArray ..).trans hly)
        have hzs : IntsAre zs bs := ints_lits hzl3 hzG
        have hzl2 : zs.length ≤ 2 := by omega
        clear hzl hzG
        clear Fg Ng
        dsimp only
        repeat ((fail_if_success (with_reducible show wpAny _ _ (exec (Stmt.For _ _ _ _ _) _) _ _ _)); (first | walk1 | (k_unfold; (try dsimp only)) | (dsimp only; walk1)))
        refine For_unr S1.heap ?_ (hE := by passes_own)
        repeat ((fail_if_success (with_reducible show wpAny _ _ (pyIter _) _ _ _)); (first | walk1 | (k_unfold; (try dsimp only)) | (dsimp only; walk1)))
        rename News _ _ _ _ => Nf
        rename Fr _ _ _ _ => Ff
        rename IntsAre _ (wr _ _) => hI9
        refine Exists.elim (pack2 (tl := news₁) Nf ?ps (.head _) ?pf ?pg) ?_
        case ps =>
          intro p hp
          iterate 10 refine List.Mem.tail _ ?_
          exact hp
        case pf =>
          refine ⟨_, _, _, _, _, ts ++ [(kg, vg, lg)] ++ lits bs, ds ++ wr ds (kg, vg, lg) ++ bs, _, _, 0, rfl, by k_mem, by k_mem, by k_mem, ToksIn.append (ToksIn.append (hT7.mono fun p hp => ?_) (.cons (by k_mem) .nil)) (hTs7.mono fun p hp => ?_), Sq.ints_app (Sq.ints_app hU hI9) hzs, good_all hG (by omega) hgood hbb, by simp [lits_len]; omega⟩
          all_goals (iterate 10 refine List.Mem.tail _ ?_)
          all_goals exact hp
        case pg =>
          refine ⟨_, _, _, _, _, ts, ds, _, _, 0, rfl, by k_mem, by k_mem, by k_mem, hT7.mono fun p hp => ?_, hU, hG, by omega⟩
          iterate 10 refine List.Mem.tail _ ?_
          exact hp
        rintro Wl ⟨Nw, hsW, hLL, hbW⟩
        clear Nf off8 hzs hI9 hC7 mR7 mQ7 mG7 mD7 hT7 hTs7 hsW N7
        refine' items_iter (J := fun i m₁ n₁ => n₁ = Wl) ?l1 Ff Nw hLL ?l2 ?lt ?ld
        case l1 => rfl
        case l2 => rfl
        case lt =>
          rintro i v m₂ news₂ h9 tk9 own hv hn7 hown F7 N7
          subst hn7
          obtain ⟨P, f, w, vf, uf, tf, df, cf, cf', nP, rfl, hP, hf, hw, hTf, hUf, hGf, hlf⟩ := hbW v (List.mem_of_getElem? hv)
          obtain ⟨Z, hZ⟩ : ∃ Z, Z = own ++ news₂ := ⟨_, rfl⟩
          rw [← hZ] at N7
          have hP' : (P, tup2 f w nP) ∈ Z := by rw [hZ]; exact List.mem_append_right own hP
          have hf' : (f, listOf (List.toArray vf) cf) ∈ Z := by rw [hZ]; exact List.mem_append_right own hf
          have hw' : (w, listOf (List.toArray uf) cf') ∈ Z := by rw [hZ]; exact List.mem_append_right own hw
          have hTf' : ToksIn Z vf tf := by rw [hZ]; exact hTf.mono fun _ h => List.mem_append_right own h
          have hlvf : vf.length = tf.length := hTf'.length
          have hokf : tokOk tf = true := good_ok hGf
          clear hP hf hw hTf Ff Nw hLL hbW hG hU
          k_steps
          rename News _ _ _ _ => Nq
          rename Fr _ _ _ _ => Fq
          exact LoopStep2.intro (news₂ := news₂) Fq (fun p hp => Nq p (by first | exact .tail _ (.tail _ (by rw [hZ]; exact hp)) | exact .tail _ (by rw [hZ]; exact hp))) rfl rfl
        case ld =>
          rintro m₂ news₂ h9 tk9 hn7 F7 N7
          dsimp only
          k_steps)
end S303
end
theorem PySem.Challenge.cw_pd_squeeze_3_03_holds : PySem.Challenge.rw_pd_squeeze_3_03.Holds :=
  S303.main
#print axioms PySem.Challenge.cw_pd_squeeze_3_03_holds
